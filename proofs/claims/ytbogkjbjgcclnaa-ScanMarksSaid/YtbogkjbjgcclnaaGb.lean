/- Printed by a program of this session's own (gen.py): Lean functions for Go functions, and the proofs that the Go code comes to their answers. -/
import Derived.Test.YtbogkjbjgcclnaaGa
set_option linter.unusedVariables false
set_option linter.unusedSimpArgs false
namespace Go.Proofs.Ytbogkjbjgcclnaa.S
open Go Go.Sm
attribute [local irreducible] T TL OpR CallT iter loop
noncomputable def law04_awake : Option Bool :=
  bnd (piece_Of [(⟨0, 2⟩ : arena_Span), (⟨2, 3⟩ : arena_Span)]) fun x1 =>
  bnd (piece_Text_Spans x1) fun x3 =>
  bnd (bnd (piece_Text_Len x1) fun x6 =>
  if x6 = 5 then
    if (x3.length : Int) = 1 then
      bnd (idx x3 0) fun x9 =>
      if x9 = (⟨0, 5⟩ : arena_Span) then
        bnd (piece_Of [(⟨0, 5⟩ : arena_Span)]) fun x11 =>
        bnd (piece_Same x1 x11) fun x12 =>
        if x12 = true then
          bnd (piece_Text_Delete x1 1 3) fun x14 =>
          bnd (piece_Text_Len x14) fun x15 =>
          some (x15 == 3)
        else
          some false
      else
        some false
    else
      some false
  else
    some false : Option Bool) fun t4 =>
  some t4
set_option maxHeartbeats 4000000 in
theorem law04_awake_c {res : Bool} (h0 : law04_awake = some res) : CallF X 21 [] [] (fun x => .val (.bool res)) (fun x => []) := by
  unfold law04_awake at h0
  refine CallF.mkG (X := X) Try.func21 rfl rfl Try.ntmps21 rfl rfl ?_
  refine T.seq ?_
  refine T.region ?_
  refine TL.op1 (OpR.pure rfl) rfl ?_
  refine TL.nil ?_
  show T X _ _ _
  refine T.seq ?_
  refine T.region ?_
  refine TL.op1 (OpR.build rfl rfl rfl rfl rfl) rfl ?_
  refine TL.op1 (OpR.build rfl rfl rfl rfl rfl) rfl ?_
  refine TL.op1 (OpR.lit rfl rfl rfl rfl rfl rfl rfl) rfl ?_
  obtain ⟨x1, hx1, h0⟩ := bnd_some h0
  refine TL.op1 (OpR.call0 fn15 (piece_Of_c hx1) rfl) rfl ?_
  refine TL.op (OpR.alloc rfl rfl (fun _ => rfl)) rfl (fun p2 => ?_)
  refine TL.op0 (OpR.store 0 rfl rfl rfl rfl rfl rfl rfl rfl) ?_
  refine TL.nil ?_
  show T X _ _ _
  refine T.seq ?_
  refine T.region ?_
  refine TL.op1 (OpR.loadPtr 0 rfl rfl rfl rfl) rfl ?_
  obtain ⟨x3, hx3, h0⟩ := bnd_some h0
  refine TL.op1 (OpR.call0 fn63 (piece_Text_Spans_c hx3) rfl) rfl ?_
  refine TL.op1 (OpR.pure rfl) rfl ?_
  refine TL.nil ?_
  show T X _ _ _
  refine T.seq ?_
  obtain ⟨t4, ht4, h0⟩ := bnd_some h0
  refine T.cutC (fun S' => S' = ⟨[(0, .val (.bool t4))], [], 37⟩) (fun _ h => h) ?_ ?_
  · obtain ⟨x6, hx6, ht4⟩ := bnd_some ht4
    rcases ite_some ht4 with ⟨c7, ht4⟩ | ⟨c7, ht4⟩
    · rcases ite_some ht4 with ⟨c8, ht4⟩ | ⟨c8, ht4⟩
      · obtain ⟨x9, hx9, ht4⟩ := bnd_some ht4
        rcases ite_some ht4 with ⟨c10, ht4⟩ | ⟨c10, ht4⟩
        · obtain ⟨x11, hx11, ht4⟩ := bnd_some ht4
          obtain ⟨x12, hx12, ht4⟩ := bnd_some ht4
          rcases ite_some ht4 with ⟨c13, ht4⟩ | ⟨c13, ht4⟩
          · obtain ⟨x14, hx14, ht4⟩ := bnd_some ht4
            obtain ⟨x15, hx15, ht4⟩ := bnd_some ht4
            refine T.drawQ drawsX [.agg [.sl 2 (List.map e_arena_Span x1.fL), .val (.int .i64 x1.fN)], .val (.int .i64 x6), .val (.bool (x6 == 5)), .val (.bool (x6 == 5)), .sl 2 (List.map e_arena_Span x3), .val (.int .i64 (x3.length : Int)), .val (.bool ((x3.length : Int) == 1)), .val (.bool ((x3.length : Int) == 1)), .val (.bool ((x3.length : Int) == 1)), .sl 2 (List.map e_arena_Span x3), .nod [.val (.int .i64 x9.fAt), .val (.int .i64 x9.fN)], .agg [.val (.int .i64 x9.fAt), .val (.int .i64 x9.fN)], .agg [.val (.int .i64 0), .val (.int .i64 5)], .val (.bool (x9 == (⟨0, 5⟩ : arena_Span))), .val (.bool (x9 == (⟨0, 5⟩ : arena_Span))), .val (.bool (x9 == (⟨0, 5⟩ : arena_Span))), .agg [.sl 2 (List.map e_arena_Span x1.fL), .val (.int .i64 x1.fN)], .agg [.val (.int .i64 0), .val (.int .i64 5)], .sl 2 (List.map e_arena_Span [(⟨0, 5⟩ : arena_Span)]), .agg [.sl 2 (List.map e_arena_Span x11.fL), .val (.int .i64 x11.fN)], .val (.bool x12), .val (.bool x12), .val (.bool x12), .agg [.sl 2 (List.map e_arena_Span x1.fL), .val (.int .i64 x1.fN)], .agg [.sl 2 (List.map e_arena_Span x14.fL), .val (.int .i64 x14.fN)], .val (.int .i64 x15), .val (.bool (x15 == 3)), .val (.bool (x15 == 3)), .val (.bool (x15 == 3))] [0, 1, 2, 3, 4, 5, 6, 7, 8, 9, 10, 11, 12, 13, 14, 15, 16, 17, 18, 19, 20, 21, 22, 23, 24, 25, 26, 27, 28, 29, 30, 31, 32, 33, 34, 35, 36] (by decide +kernel) rfl ?_ rfl ?_
            · refine OpsQ.yes (Want.plain rfl) rfl (OpR.loadPtr 0 rfl rfl rfl rfl) ?_
              refine OpsQ.yes (Want.plain rfl) rfl (OpR.call0 fn30 (piece_Text_Len_c hx6) rfl) ?_
              refine OpsQ.yes (Want.plain rfl) rfl (OpR.pure rfl) ?_
              refine OpsQ.yes (Want.plain rfl) rfl (OpR.pure rfl) ?_
              refine OpsQ.yes (Want.bool rfl rfl rfl rfl (by rw [(beq_iff_eq.2 c7)]; rfl)) rfl (OpR.pure rfl) ?_
              refine OpsQ.yes (Want.bool rfl rfl rfl rfl (by rw [(beq_iff_eq.2 c7)]; rfl)) rfl (OpR.cast (OpR.pure rfl) (intE (lenM _ _))) ?_
              refine OpsQ.yes (Want.bool rfl rfl rfl rfl (by rw [(beq_iff_eq.2 c7)]; rfl)) rfl (OpR.pure rfl) ?_
              refine OpsQ.yes (Want.plain rfl) rfl (OpR.pickT rfl (beq_iff_eq.2 c7) rfl) ?_
              refine OpsQ.yes (Want.plain rfl) rfl (OpR.pure rfl) ?_
              refine OpsQ.yes (Want.bool rfl rfl rfl rfl (by rw [(beq_iff_eq.2 c8)]; rfl)) rfl (OpR.pure rfl) ?_
              refine OpsQ.yes (Want.bool rfl rfl rfl rfl (by rw [(beq_iff_eq.2 c8)]; rfl)) rfl (OpR.indexM e_arena_Span hx9 rfl rfl rfl rfl rfl) ?_
              refine OpsQ.yes (Want.bool rfl rfl rfl rfl (by rw [(beq_iff_eq.2 c8)]; rfl)) rfl (OpR.pure rfl) ?_
              refine OpsQ.yes (Want.bool rfl rfl rfl rfl (by rw [(beq_iff_eq.2 c8)]; rfl)) rfl (OpR.build rfl rfl rfl rfl rfl) ?_
              refine OpsQ.yes (Want.bool rfl rfl rfl rfl (by rw [(beq_iff_eq.2 c8)]; rfl)) rfl (OpR.cast (OpR.eqStruct rfl rfl rfl rfl rfl (by kernel_rfl) (by kernel_rfl)) (boolE (beq_arena_Span x9 (⟨0, 5⟩ : arena_Span)))) ?_
              refine OpsQ.yes (Want.plain rfl) rfl (OpR.pickT rfl (beq_iff_eq.2 c8) rfl) ?_
              refine OpsQ.yes (Want.plain rfl) rfl (OpR.pure rfl) ?_
              refine OpsQ.yes (Want.bool rfl rfl rfl rfl (by rw [(beq_iff_eq.2 c10)]; rfl)) rfl (OpR.loadPtr 0 rfl rfl rfl rfl) ?_
              refine OpsQ.yes (Want.bool rfl rfl rfl rfl (by rw [(beq_iff_eq.2 c10)]; rfl)) rfl (OpR.build rfl rfl rfl rfl rfl) ?_
              refine OpsQ.yes (Want.bool rfl rfl rfl rfl (by rw [(beq_iff_eq.2 c10)]; rfl)) rfl (OpR.lit rfl rfl rfl rfl rfl rfl rfl) ?_
              refine OpsQ.yes (Want.bool rfl rfl rfl rfl (by rw [(beq_iff_eq.2 c10)]; rfl)) rfl (OpR.call0 fn15 (piece_Of_c hx11) rfl) ?_
              refine OpsQ.yes (Want.bool rfl rfl rfl rfl (by rw [(beq_iff_eq.2 c10)]; rfl)) rfl (OpR.call0 fn18 (piece_Same_c hx12) rfl) ?_
              refine OpsQ.yes (Want.plain rfl) rfl (OpR.pickT rfl (beq_iff_eq.2 c10) rfl) ?_
              refine OpsQ.yes (Want.plain rfl) rfl (OpR.pure rfl) ?_
              refine OpsQ.yes (Want.bool rfl rfl rfl rfl (by rw [(c13)]; rfl)) rfl (OpR.loadPtr 0 rfl rfl rfl rfl) ?_
              refine OpsQ.yes (Want.bool rfl rfl rfl rfl (by rw [(c13)]; rfl)) rfl (OpR.call0 fn26 (piece_Text_Delete_c hx14) rfl) ?_
              refine OpsQ.yes (Want.bool rfl rfl rfl rfl (by rw [(c13)]; rfl)) rfl (OpR.call0 fn30 (piece_Text_Len_c hx15) rfl) ?_
              refine OpsQ.yes (Want.bool rfl rfl rfl rfl (by rw [(c13)]; rfl)) rfl (OpR.pure rfl) ?_
              refine OpsQ.yes (Want.plain rfl) rfl (OpR.pickT rfl (c13) rfl) ?_
              refine OpsQ.yes (Want.plain rfl) rfl (OpR.pure rfl) ?_
              exact OpsQ.nil
            · obtain rfl := Option.some.inj ht4
              exact ⟨_, Gst.trans (Gst.only [0] rfl) (Gst.pick [] rfl rfl), rfl⟩
          · refine T.drawQ drawsX [.agg [.sl 2 (List.map e_arena_Span x1.fL), .val (.int .i64 x1.fN)], .val (.int .i64 x6), .val (.bool (x6 == 5)), .val (.bool (x6 == 5)), .sl 2 (List.map e_arena_Span x3), .val (.int .i64 (x3.length : Int)), .val (.bool ((x3.length : Int) == 1)), .val (.bool ((x3.length : Int) == 1)), .val (.bool ((x3.length : Int) == 1)), .sl 2 (List.map e_arena_Span x3), .nod [.val (.int .i64 x9.fAt), .val (.int .i64 x9.fN)], .agg [.val (.int .i64 x9.fAt), .val (.int .i64 x9.fN)], .agg [.val (.int .i64 0), .val (.int .i64 5)], .val (.bool (x9 == (⟨0, 5⟩ : arena_Span))), .val (.bool (x9 == (⟨0, 5⟩ : arena_Span))), .val (.bool (x9 == (⟨0, 5⟩ : arena_Span))), .agg [.sl 2 (List.map e_arena_Span x1.fL), .val (.int .i64 x1.fN)], .agg [.val (.int .i64 0), .val (.int .i64 5)], .sl 2 (List.map e_arena_Span [(⟨0, 5⟩ : arena_Span)]), .agg [.sl 2 (List.map e_arena_Span x11.fL), .val (.int .i64 x11.fN)], .val (.bool x12), .val (.bool x12), .val (.bool x12), .tup [], .tup [], .tup [], .tup [], .val (.bool false), .val (.bool false)] [0, 1, 2, 3, 4, 5, 6, 7, 8, 9, 10, 11, 12, 13, 14, 15, 16, 17, 18, 19, 20, 21, 22, 23, 24, 25, 26, 27, 28, 29, 30, 31, 32, 33, 34, 35, 36] (by decide +kernel) rfl ?_ rfl ?_
            · refine OpsQ.yes (Want.plain rfl) rfl (OpR.loadPtr 0 rfl rfl rfl rfl) ?_
              refine OpsQ.yes (Want.plain rfl) rfl (OpR.call0 fn30 (piece_Text_Len_c hx6) rfl) ?_
              refine OpsQ.yes (Want.plain rfl) rfl (OpR.pure rfl) ?_
              refine OpsQ.yes (Want.plain rfl) rfl (OpR.pure rfl) ?_
              refine OpsQ.yes (Want.bool rfl rfl rfl rfl (by rw [(beq_iff_eq.2 c7)]; rfl)) rfl (OpR.pure rfl) ?_
              refine OpsQ.yes (Want.bool rfl rfl rfl rfl (by rw [(beq_iff_eq.2 c7)]; rfl)) rfl (OpR.cast (OpR.pure rfl) (intE (lenM _ _))) ?_
              refine OpsQ.yes (Want.bool rfl rfl rfl rfl (by rw [(beq_iff_eq.2 c7)]; rfl)) rfl (OpR.pure rfl) ?_
              refine OpsQ.yes (Want.plain rfl) rfl (OpR.pickT rfl (beq_iff_eq.2 c7) rfl) ?_
              refine OpsQ.yes (Want.plain rfl) rfl (OpR.pure rfl) ?_
              refine OpsQ.yes (Want.bool rfl rfl rfl rfl (by rw [(beq_iff_eq.2 c8)]; rfl)) rfl (OpR.pure rfl) ?_
              refine OpsQ.yes (Want.bool rfl rfl rfl rfl (by rw [(beq_iff_eq.2 c8)]; rfl)) rfl (OpR.indexM e_arena_Span hx9 rfl rfl rfl rfl rfl) ?_
              refine OpsQ.yes (Want.bool rfl rfl rfl rfl (by rw [(beq_iff_eq.2 c8)]; rfl)) rfl (OpR.pure rfl) ?_
              refine OpsQ.yes (Want.bool rfl rfl rfl rfl (by rw [(beq_iff_eq.2 c8)]; rfl)) rfl (OpR.build rfl rfl rfl rfl rfl) ?_
              refine OpsQ.yes (Want.bool rfl rfl rfl rfl (by rw [(beq_iff_eq.2 c8)]; rfl)) rfl (OpR.cast (OpR.eqStruct rfl rfl rfl rfl rfl (by kernel_rfl) (by kernel_rfl)) (boolE (beq_arena_Span x9 (⟨0, 5⟩ : arena_Span)))) ?_
              refine OpsQ.yes (Want.plain rfl) rfl (OpR.pickT rfl (beq_iff_eq.2 c8) rfl) ?_
              refine OpsQ.yes (Want.plain rfl) rfl (OpR.pure rfl) ?_
              refine OpsQ.yes (Want.bool rfl rfl rfl rfl (by rw [(beq_iff_eq.2 c10)]; rfl)) rfl (OpR.loadPtr 0 rfl rfl rfl rfl) ?_
              refine OpsQ.yes (Want.bool rfl rfl rfl rfl (by rw [(beq_iff_eq.2 c10)]; rfl)) rfl (OpR.build rfl rfl rfl rfl rfl) ?_
              refine OpsQ.yes (Want.bool rfl rfl rfl rfl (by rw [(beq_iff_eq.2 c10)]; rfl)) rfl (OpR.lit rfl rfl rfl rfl rfl rfl rfl) ?_
              refine OpsQ.yes (Want.bool rfl rfl rfl rfl (by rw [(beq_iff_eq.2 c10)]; rfl)) rfl (OpR.call0 fn15 (piece_Of_c hx11) rfl) ?_
              refine OpsQ.yes (Want.bool rfl rfl rfl rfl (by rw [(beq_iff_eq.2 c10)]; rfl)) rfl (OpR.call0 fn18 (piece_Same_c hx12) rfl) ?_
              refine OpsQ.yes (Want.plain rfl) rfl (OpR.pickT rfl (beq_iff_eq.2 c10) rfl) ?_
              refine OpsQ.yes (Want.plain rfl) rfl (OpR.pure rfl) ?_
              refine OpsQ.no (Want.bool rfl rfl rfl rfl (by rw [(eq_false_of_ne_true c13)]; rfl)) rfl ?_
              refine OpsQ.no (Want.bool rfl rfl rfl rfl (by rw [(eq_false_of_ne_true c13)]; rfl)) rfl ?_
              refine OpsQ.no (Want.bool rfl rfl rfl rfl (by rw [(eq_false_of_ne_true c13)]; rfl)) rfl ?_
              refine OpsQ.no (Want.bool rfl rfl rfl rfl (by rw [(eq_false_of_ne_true c13)]; rfl)) rfl ?_
              refine OpsQ.yes (Want.plain rfl) rfl (OpR.pickF rfl (eq_false_of_ne_true c13) rfl) ?_
              refine OpsQ.yes (Want.plain rfl) rfl (OpR.pure rfl) ?_
              exact OpsQ.nil
            · obtain rfl := Option.some.inj ht4
              exact ⟨_, Gst.trans (Gst.only [0] rfl) (Gst.pick [] rfl rfl), rfl⟩
        · refine T.drawQ drawsX [.agg [.sl 2 (List.map e_arena_Span x1.fL), .val (.int .i64 x1.fN)], .val (.int .i64 x6), .val (.bool (x6 == 5)), .val (.bool (x6 == 5)), .sl 2 (List.map e_arena_Span x3), .val (.int .i64 (x3.length : Int)), .val (.bool ((x3.length : Int) == 1)), .val (.bool ((x3.length : Int) == 1)), .val (.bool ((x3.length : Int) == 1)), .sl 2 (List.map e_arena_Span x3), .nod [.val (.int .i64 x9.fAt), .val (.int .i64 x9.fN)], .agg [.val (.int .i64 x9.fAt), .val (.int .i64 x9.fN)], .agg [.val (.int .i64 0), .val (.int .i64 5)], .val (.bool (x9 == (⟨0, 5⟩ : arena_Span))), .val (.bool (x9 == (⟨0, 5⟩ : arena_Span))), .val (.bool (x9 == (⟨0, 5⟩ : arena_Span))), .tup [], .tup [], .tup [], .tup [], .tup [], .val (.bool false), .val (.bool false), .tup [], .tup [], .tup [], .tup [], .val (.bool false), .val (.bool false)] [0, 1, 2, 3, 4, 5, 6, 7, 8, 9, 10, 11, 12, 13, 14, 15, 16, 17, 18, 19, 20, 21, 22, 23, 24, 25, 26, 27, 28, 29, 30, 31, 32, 33, 34, 35, 36] (by decide +kernel) rfl ?_ rfl ?_
          · refine OpsQ.yes (Want.plain rfl) rfl (OpR.loadPtr 0 rfl rfl rfl rfl) ?_
            refine OpsQ.yes (Want.plain rfl) rfl (OpR.call0 fn30 (piece_Text_Len_c hx6) rfl) ?_
            refine OpsQ.yes (Want.plain rfl) rfl (OpR.pure rfl) ?_
            refine OpsQ.yes (Want.plain rfl) rfl (OpR.pure rfl) ?_
            refine OpsQ.yes (Want.bool rfl rfl rfl rfl (by rw [(beq_iff_eq.2 c7)]; rfl)) rfl (OpR.pure rfl) ?_
            refine OpsQ.yes (Want.bool rfl rfl rfl rfl (by rw [(beq_iff_eq.2 c7)]; rfl)) rfl (OpR.cast (OpR.pure rfl) (intE (lenM _ _))) ?_
            refine OpsQ.yes (Want.bool rfl rfl rfl rfl (by rw [(beq_iff_eq.2 c7)]; rfl)) rfl (OpR.pure rfl) ?_
            refine OpsQ.yes (Want.plain rfl) rfl (OpR.pickT rfl (beq_iff_eq.2 c7) rfl) ?_
            refine OpsQ.yes (Want.plain rfl) rfl (OpR.pure rfl) ?_
            refine OpsQ.yes (Want.bool rfl rfl rfl rfl (by rw [(beq_iff_eq.2 c8)]; rfl)) rfl (OpR.pure rfl) ?_
            refine OpsQ.yes (Want.bool rfl rfl rfl rfl (by rw [(beq_iff_eq.2 c8)]; rfl)) rfl (OpR.indexM e_arena_Span hx9 rfl rfl rfl rfl rfl) ?_
            refine OpsQ.yes (Want.bool rfl rfl rfl rfl (by rw [(beq_iff_eq.2 c8)]; rfl)) rfl (OpR.pure rfl) ?_
            refine OpsQ.yes (Want.bool rfl rfl rfl rfl (by rw [(beq_iff_eq.2 c8)]; rfl)) rfl (OpR.build rfl rfl rfl rfl rfl) ?_
            refine OpsQ.yes (Want.bool rfl rfl rfl rfl (by rw [(beq_iff_eq.2 c8)]; rfl)) rfl (OpR.cast (OpR.eqStruct rfl rfl rfl rfl rfl (by kernel_rfl) (by kernel_rfl)) (boolE (beq_arena_Span x9 (⟨0, 5⟩ : arena_Span)))) ?_
            refine OpsQ.yes (Want.plain rfl) rfl (OpR.pickT rfl (beq_iff_eq.2 c8) rfl) ?_
            refine OpsQ.yes (Want.plain rfl) rfl (OpR.pure rfl) ?_
            refine OpsQ.no (Want.bool rfl rfl rfl rfl (by rw [(beq_eq_false_iff_ne.2 c10)]; rfl)) rfl ?_
            refine OpsQ.no (Want.bool rfl rfl rfl rfl (by rw [(beq_eq_false_iff_ne.2 c10)]; rfl)) rfl ?_
            refine OpsQ.no (Want.bool rfl rfl rfl rfl (by rw [(beq_eq_false_iff_ne.2 c10)]; rfl)) rfl ?_
            refine OpsQ.no (Want.bool rfl rfl rfl rfl (by rw [(beq_eq_false_iff_ne.2 c10)]; rfl)) rfl ?_
            refine OpsQ.no (Want.bool rfl rfl rfl rfl (by rw [(beq_eq_false_iff_ne.2 c10)]; rfl)) rfl ?_
            refine OpsQ.yes (Want.plain rfl) rfl (OpR.pickF rfl (beq_eq_false_iff_ne.2 c10) rfl) ?_
            refine OpsQ.yes (Want.plain rfl) rfl (OpR.pure rfl) ?_
            refine OpsQ.no (Want.bool rfl rfl rfl rfl rfl) rfl ?_
            refine OpsQ.no (Want.bool rfl rfl rfl rfl rfl) rfl ?_
            refine OpsQ.no (Want.bool rfl rfl rfl rfl rfl) rfl ?_
            refine OpsQ.no (Want.bool rfl rfl rfl rfl rfl) rfl ?_
            refine OpsQ.yes (Want.plain rfl) rfl (OpR.pickF rfl rfl rfl) ?_
            refine OpsQ.yes (Want.plain rfl) rfl (OpR.pure rfl) ?_
            exact OpsQ.nil
          · obtain rfl := Option.some.inj ht4
            exact ⟨_, Gst.trans (Gst.only [0] rfl) (Gst.pick [] rfl rfl), rfl⟩
      · refine T.drawQ drawsX [.agg [.sl 2 (List.map e_arena_Span x1.fL), .val (.int .i64 x1.fN)], .val (.int .i64 x6), .val (.bool (x6 == 5)), .val (.bool (x6 == 5)), .sl 2 (List.map e_arena_Span x3), .val (.int .i64 (x3.length : Int)), .val (.bool ((x3.length : Int) == 1)), .val (.bool ((x3.length : Int) == 1)), .val (.bool ((x3.length : Int) == 1)), .tup [], .tup [], .tup [], .tup [], .tup [], .val (.bool false), .val (.bool false), .tup [], .tup [], .tup [], .tup [], .tup [], .val (.bool false), .val (.bool false), .tup [], .tup [], .tup [], .tup [], .val (.bool false), .val (.bool false)] [0, 1, 2, 3, 4, 5, 6, 7, 8, 9, 10, 11, 12, 13, 14, 15, 16, 17, 18, 19, 20, 21, 22, 23, 24, 25, 26, 27, 28, 29, 30, 31, 32, 33, 34, 35, 36] (by decide +kernel) rfl ?_ rfl ?_
        · refine OpsQ.yes (Want.plain rfl) rfl (OpR.loadPtr 0 rfl rfl rfl rfl) ?_
          refine OpsQ.yes (Want.plain rfl) rfl (OpR.call0 fn30 (piece_Text_Len_c hx6) rfl) ?_
          refine OpsQ.yes (Want.plain rfl) rfl (OpR.pure rfl) ?_
          refine OpsQ.yes (Want.plain rfl) rfl (OpR.pure rfl) ?_
          refine OpsQ.yes (Want.bool rfl rfl rfl rfl (by rw [(beq_iff_eq.2 c7)]; rfl)) rfl (OpR.pure rfl) ?_
          refine OpsQ.yes (Want.bool rfl rfl rfl rfl (by rw [(beq_iff_eq.2 c7)]; rfl)) rfl (OpR.cast (OpR.pure rfl) (intE (lenM _ _))) ?_
          refine OpsQ.yes (Want.bool rfl rfl rfl rfl (by rw [(beq_iff_eq.2 c7)]; rfl)) rfl (OpR.pure rfl) ?_
          refine OpsQ.yes (Want.plain rfl) rfl (OpR.pickT rfl (beq_iff_eq.2 c7) rfl) ?_
          refine OpsQ.yes (Want.plain rfl) rfl (OpR.pure rfl) ?_
          refine OpsQ.no (Want.bool rfl rfl rfl rfl (by rw [(beq_eq_false_iff_ne.2 c8)]; rfl)) rfl ?_
          refine OpsQ.no (Want.bool rfl rfl rfl rfl (by rw [(beq_eq_false_iff_ne.2 c8)]; rfl)) rfl ?_
          refine OpsQ.no (Want.bool rfl rfl rfl rfl (by rw [(beq_eq_false_iff_ne.2 c8)]; rfl)) rfl ?_
          refine OpsQ.no (Want.bool rfl rfl rfl rfl (by rw [(beq_eq_false_iff_ne.2 c8)]; rfl)) rfl ?_
          refine OpsQ.no (Want.bool rfl rfl rfl rfl (by rw [(beq_eq_false_iff_ne.2 c8)]; rfl)) rfl ?_
          refine OpsQ.yes (Want.plain rfl) rfl (OpR.pickF rfl (beq_eq_false_iff_ne.2 c8) rfl) ?_
          refine OpsQ.yes (Want.plain rfl) rfl (OpR.pure rfl) ?_
          refine OpsQ.no (Want.bool rfl rfl rfl rfl rfl) rfl ?_
          refine OpsQ.no (Want.bool rfl rfl rfl rfl rfl) rfl ?_
          refine OpsQ.no (Want.bool rfl rfl rfl rfl rfl) rfl ?_
          refine OpsQ.no (Want.bool rfl rfl rfl rfl rfl) rfl ?_
          refine OpsQ.no (Want.bool rfl rfl rfl rfl rfl) rfl ?_
          refine OpsQ.yes (Want.plain rfl) rfl (OpR.pickF rfl rfl rfl) ?_
          refine OpsQ.yes (Want.plain rfl) rfl (OpR.pure rfl) ?_
          refine OpsQ.no (Want.bool rfl rfl rfl rfl rfl) rfl ?_
          refine OpsQ.no (Want.bool rfl rfl rfl rfl rfl) rfl ?_
          refine OpsQ.no (Want.bool rfl rfl rfl rfl rfl) rfl ?_
          refine OpsQ.no (Want.bool rfl rfl rfl rfl rfl) rfl ?_
          refine OpsQ.yes (Want.plain rfl) rfl (OpR.pickF rfl rfl rfl) ?_
          refine OpsQ.yes (Want.plain rfl) rfl (OpR.pure rfl) ?_
          exact OpsQ.nil
        · obtain rfl := Option.some.inj ht4
          exact ⟨_, Gst.trans (Gst.only [0] rfl) (Gst.pick [] rfl rfl), rfl⟩
    · refine T.drawQ drawsX [.agg [.sl 2 (List.map e_arena_Span x1.fL), .val (.int .i64 x1.fN)], .val (.int .i64 x6), .val (.bool (x6 == 5)), .val (.bool (x6 == 5)), .tup [], .tup [], .tup [], .val (.bool false), .val (.bool false), .tup [], .tup [], .tup [], .tup [], .tup [], .val (.bool false), .val (.bool false), .tup [], .tup [], .tup [], .tup [], .tup [], .val (.bool false), .val (.bool false), .tup [], .tup [], .tup [], .tup [], .val (.bool false), .val (.bool false)] [0, 1, 2, 3, 4, 5, 6, 7, 8, 9, 10, 11, 12, 13, 14, 15, 16, 17, 18, 19, 20, 21, 22, 23, 24, 25, 26, 27, 28, 29, 30, 31, 32, 33, 34, 35, 36] (by decide +kernel) rfl ?_ rfl ?_
      · refine OpsQ.yes (Want.plain rfl) rfl (OpR.loadPtr 0 rfl rfl rfl rfl) ?_
        refine OpsQ.yes (Want.plain rfl) rfl (OpR.call0 fn30 (piece_Text_Len_c hx6) rfl) ?_
        refine OpsQ.yes (Want.plain rfl) rfl (OpR.pure rfl) ?_
        refine OpsQ.yes (Want.plain rfl) rfl (OpR.pure rfl) ?_
        refine OpsQ.no (Want.bool rfl rfl rfl rfl (by rw [(beq_eq_false_iff_ne.2 c7)]; rfl)) rfl ?_
        refine OpsQ.no (Want.bool rfl rfl rfl rfl (by rw [(beq_eq_false_iff_ne.2 c7)]; rfl)) rfl ?_
        refine OpsQ.no (Want.bool rfl rfl rfl rfl (by rw [(beq_eq_false_iff_ne.2 c7)]; rfl)) rfl ?_
        refine OpsQ.yes (Want.plain rfl) rfl (OpR.pickF rfl (beq_eq_false_iff_ne.2 c7) rfl) ?_
        refine OpsQ.yes (Want.plain rfl) rfl (OpR.pure rfl) ?_
        refine OpsQ.no (Want.bool rfl rfl rfl rfl rfl) rfl ?_
        refine OpsQ.no (Want.bool rfl rfl rfl rfl rfl) rfl ?_
        refine OpsQ.no (Want.bool rfl rfl rfl rfl rfl) rfl ?_
        refine OpsQ.no (Want.bool rfl rfl rfl rfl rfl) rfl ?_
        refine OpsQ.no (Want.bool rfl rfl rfl rfl rfl) rfl ?_
        refine OpsQ.yes (Want.plain rfl) rfl (OpR.pickF rfl rfl rfl) ?_
        refine OpsQ.yes (Want.plain rfl) rfl (OpR.pure rfl) ?_
        refine OpsQ.no (Want.bool rfl rfl rfl rfl rfl) rfl ?_
        refine OpsQ.no (Want.bool rfl rfl rfl rfl rfl) rfl ?_
        refine OpsQ.no (Want.bool rfl rfl rfl rfl rfl) rfl ?_
        refine OpsQ.no (Want.bool rfl rfl rfl rfl rfl) rfl ?_
        refine OpsQ.no (Want.bool rfl rfl rfl rfl rfl) rfl ?_
        refine OpsQ.yes (Want.plain rfl) rfl (OpR.pickF rfl rfl rfl) ?_
        refine OpsQ.yes (Want.plain rfl) rfl (OpR.pure rfl) ?_
        refine OpsQ.no (Want.bool rfl rfl rfl rfl rfl) rfl ?_
        refine OpsQ.no (Want.bool rfl rfl rfl rfl rfl) rfl ?_
        refine OpsQ.no (Want.bool rfl rfl rfl rfl rfl) rfl ?_
        refine OpsQ.no (Want.bool rfl rfl rfl rfl rfl) rfl ?_
        refine OpsQ.yes (Want.plain rfl) rfl (OpR.pickF rfl rfl rfl) ?_
        refine OpsQ.yes (Want.plain rfl) rfl (OpR.pure rfl) ?_
        exact OpsQ.nil
      · obtain rfl := Option.some.inj ht4
        exact ⟨_, Gst.trans (Gst.only [0] rfl) (Gst.pick [] rfl rfl), rfl⟩
  · rintro _ rfl
    show T X _ _ _
    refine T.ret ?_
    obtain rfl := Option.some.inj h0
    exact PostG.retP (ks := []) (Gst.only [0] rfl) undef (ResL.cons (ResV.tmp rfl) ResL.nil) rfl rfl rfl rfl
noncomputable def law04_PieceOf (a0 : List arena_Span) (a1 : List arena_Span) : Option Bool :=
  bnd (law04_Few a0) fun x1 =>
  bnd (law04_Few a1) fun x2 =>
  bnd (piece_Of x1.1) fun x3 =>
  bnd (piece_Of x2.1) fun x4 =>
  bnd (bnd (ref04_Of x1.2) fun x9 =>
  bnd (law04_like x3 x9) fun x10 =>
  if x10 = true then
    bnd (ref04_Of x2.2) fun x12 =>
    bnd (law04_like x4 x12) fun x13 =>
    if x13 = true then
      bnd (piece_Same x3 x4) fun x15 =>
      bnd (ref04_Of x1.2) fun x16 =>
      bnd (ref04_Spans x16) fun x17 =>
      bnd (ref04_Of x2.2) fun x18 =>
      bnd (ref04_Spans x18) fun x19 =>
      bnd (ref04_Same x17 x19) fun x20 =>
      if (x15 == x20) = true then
        bnd (piece_Same x3 x3) fun x22 =>
        if x22 = true then
          bnd (law04_awake) fun x24 =>
          some x24
        else
          some false
      else
        some false
    else
      some false
  else
    some false : Option Bool) fun t7 =>
  some t7
set_option maxHeartbeats 4000000 in
theorem law04_PieceOf_c {a0 : List arena_Span} {a1 : List arena_Span} {res : Bool} (h0 : law04_PieceOf a0 a1 = some res) : CallF X 3 [.sl 2 (List.map e_arena_Span a0), .sl 2 (List.map e_arena_Span a1)] [] (fun x => .val (.bool res)) (fun x => []) := by
  unfold law04_PieceOf at h0
  refine CallF.mkG (X := X) Try.func3 rfl rfl Try.ntmps3 rfl rfl ?_
  refine T.seq ?_
  refine T.region ?_
  refine TL.op1 (OpR.pure rfl) rfl ?_
  refine TL.nil ?_
  show T X _ _ _
  refine T.seq ?_
  refine T.region ?_
  refine TL.op1 (OpR.pure rfl) rfl ?_
  obtain ⟨x1, hx1, h0⟩ := bnd_some h0
  refine TL.op1 (OpR.call0 fn14 (law04_Few_c hx1) rfl) rfl ?_
  refine TL.op1 (OpR.pure rfl) rfl ?_
  refine TL.op1 (OpR.pure rfl) rfl ?_
  refine TL.op1 (OpR.pure rfl) rfl ?_
  refine TL.op1 (OpR.pure rfl) rfl ?_
  refine TL.op1 (OpR.pure rfl) rfl ?_
  refine TL.nil ?_
  show T X _ _ _
  refine T.seq ?_
  refine T.region ?_
  refine TL.op1 (OpR.pure rfl) rfl ?_
  obtain ⟨x2, hx2, h0⟩ := bnd_some h0
  refine TL.op1 (OpR.call0 fn14 (law04_Few_c hx2) rfl) rfl ?_
  refine TL.op1 (OpR.pure rfl) rfl ?_
  refine TL.op1 (OpR.pure rfl) rfl ?_
  refine TL.op1 (OpR.pure rfl) rfl ?_
  refine TL.op1 (OpR.pure rfl) rfl ?_
  refine TL.op1 (OpR.pure rfl) rfl ?_
  refine TL.nil ?_
  show T X _ _ _
  refine T.seq ?_
  refine T.region ?_
  refine TL.op1 (OpR.pure rfl) rfl ?_
  obtain ⟨x3, hx3, h0⟩ := bnd_some h0
  refine TL.op1 (OpR.call0 fn15 (piece_Of_c hx3) rfl) rfl ?_
  refine TL.op1 (OpR.pure rfl) rfl ?_
  obtain ⟨x4, hx4, h0⟩ := bnd_some h0
  refine TL.op1 (OpR.call0 fn15 (piece_Of_c hx4) rfl) rfl ?_
  refine TL.op (OpR.alloc rfl rfl (fun _ => rfl)) rfl (fun p5 => ?_)
  refine TL.op (OpR.alloc rfl rfl (fun _ => rfl)) rfl (fun p6 => ?_)
  refine TL.op0 (OpR.store 0 rfl rfl rfl rfl rfl rfl rfl rfl) ?_
  refine TL.op0 (OpR.store 1 rfl rfl rfl rfl rfl rfl rfl rfl) ?_
  refine TL.nil ?_
  show T X _ _ _
  refine T.seq ?_
  obtain ⟨t7, ht7, h0⟩ := bnd_some h0
  refine T.cutC (fun S' => S' = ⟨[(4, .val (.bool t7))], [], 56⟩) (fun _ h => h) ?_ ?_
  · obtain ⟨x9, hx9, ht7⟩ := bnd_some ht7
    obtain ⟨x10, hx10, ht7⟩ := bnd_some ht7
    rcases ite_some ht7 with ⟨c11, ht7⟩ | ⟨c11, ht7⟩
    · obtain ⟨x12, hx12, ht7⟩ := bnd_some ht7
      obtain ⟨x13, hx13, ht7⟩ := bnd_some ht7
      rcases ite_some ht7 with ⟨c14, ht7⟩ | ⟨c14, ht7⟩
      · obtain ⟨x15, hx15, ht7⟩ := bnd_some ht7
        obtain ⟨x16, hx16, ht7⟩ := bnd_some ht7
        obtain ⟨x17, hx17, ht7⟩ := bnd_some ht7
        obtain ⟨x18, hx18, ht7⟩ := bnd_some ht7
        obtain ⟨x19, hx19, ht7⟩ := bnd_some ht7
        obtain ⟨x20, hx20, ht7⟩ := bnd_some ht7
        rcases ite_some ht7 with ⟨c21, ht7⟩ | ⟨c21, ht7⟩
        · obtain ⟨x22, hx22, ht7⟩ := bnd_some ht7
          rcases ite_some ht7 with ⟨c23, ht7⟩ | ⟨c23, ht7⟩
          · obtain ⟨x24, hx24, ht7⟩ := bnd_some ht7
            refine T.drawQ drawsX [.agg [.sl 2 (List.map e_arena_Span x3.fL), .val (.int .i64 x3.fN)], .sl 2 (List.map e_ref03_Span x1.2), .sl 1 (List.map (eI .i64) x9), .val (.bool x10), .val (.bool x10), .agg [.sl 2 (List.map e_arena_Span x4.fL), .val (.int .i64 x4.fN)], .sl 2 (List.map e_ref03_Span x2.2), .sl 1 (List.map (eI .i64) x12), .val (.bool x13), .val (.bool x13), .val (.bool x13), .agg [.sl 2 (List.map e_arena_Span x3.fL), .val (.int .i64 x3.fN)], .agg [.sl 2 (List.map e_arena_Span x4.fL), .val (.int .i64 x4.fN)], .val (.bool x15), .sl 2 (List.map e_ref03_Span x1.2), .sl 1 (List.map (eI .i64) x16), .sl 2 (List.map e_ref03_Span x17), .sl 2 (List.map e_ref03_Span x2.2), .sl 1 (List.map (eI .i64) x18), .sl 2 (List.map e_ref03_Span x19), .val (.bool x20), .val (.bool (x15 == x20)), .val (.bool (x15 == x20)), .val (.bool (x15 == x20)), .agg [.sl 2 (List.map e_arena_Span x3.fL), .val (.int .i64 x3.fN)], .agg [.sl 2 (List.map e_arena_Span x3.fL), .val (.int .i64 x3.fN)], .val (.bool x22), .val (.bool x22), .val (.bool x22), .val (.bool x24), .val (.bool x24), .val (.bool x24)] [0, 1, 4, 5, 6, 7, 8, 9, 10, 11, 12, 13, 14, 15, 16, 17, 18, 19, 20, 21, 22, 23, 24, 25, 26, 27, 28, 29, 30, 31, 32, 33, 34, 35, 36, 37, 38, 39, 40, 41, 42, 43, 44, 45, 46, 47, 48, 49, 50, 51, 52, 53, 54, 55] (by decide +kernel) rfl ?_ rfl ?_
            · refine OpsQ.yes (Want.plain rfl) rfl (OpR.loadPtr 0 rfl rfl rfl rfl) ?_
              refine OpsQ.yes (Want.plain rfl) rfl (OpR.pure rfl) ?_
              refine OpsQ.yes (Want.plain rfl) rfl (OpR.call0 fn17 (ref04_Of_c hx9) rfl) ?_
              refine OpsQ.yes (Want.plain rfl) rfl (OpR.call0 fn16 (law04_like_c hx10) rfl) ?_
              refine OpsQ.yes (Want.plain rfl) rfl (OpR.pure rfl) ?_
              refine OpsQ.yes (Want.bool rfl rfl rfl rfl (by rw [(c11)]; rfl)) rfl (OpR.loadPtr 1 rfl rfl rfl rfl) ?_
              refine OpsQ.yes (Want.bool rfl rfl rfl rfl (by rw [(c11)]; rfl)) rfl (OpR.pure rfl) ?_
              refine OpsQ.yes (Want.bool rfl rfl rfl rfl (by rw [(c11)]; rfl)) rfl (OpR.call0 fn17 (ref04_Of_c hx12) rfl) ?_
              refine OpsQ.yes (Want.bool rfl rfl rfl rfl (by rw [(c11)]; rfl)) rfl (OpR.call0 fn16 (law04_like_c hx13) rfl) ?_
              refine OpsQ.yes (Want.plain rfl) rfl (OpR.pickT rfl (c11) rfl) ?_
              refine OpsQ.yes (Want.plain rfl) rfl (OpR.pure rfl) ?_
              refine OpsQ.yes (Want.bool rfl rfl rfl rfl (by rw [(c14)]; rfl)) rfl (OpR.loadPtr 0 rfl rfl rfl rfl) ?_
              refine OpsQ.yes (Want.bool rfl rfl rfl rfl (by rw [(c14)]; rfl)) rfl (OpR.loadPtr 1 rfl rfl rfl rfl) ?_
              refine OpsQ.yes (Want.bool rfl rfl rfl rfl (by rw [(c14)]; rfl)) rfl (OpR.call0 fn18 (piece_Same_c hx15) rfl) ?_
              refine OpsQ.yes (Want.bool rfl rfl rfl rfl (by rw [(c14)]; rfl)) rfl (OpR.pure rfl) ?_
              refine OpsQ.yes (Want.bool rfl rfl rfl rfl (by rw [(c14)]; rfl)) rfl (OpR.call0 fn17 (ref04_Of_c hx16) rfl) ?_
              refine OpsQ.yes (Want.bool rfl rfl rfl rfl (by rw [(c14)]; rfl)) rfl (OpR.call0 fn20 (ref04_Spans_c hx17) rfl) ?_
              refine OpsQ.yes (Want.bool rfl rfl rfl rfl (by rw [(c14)]; rfl)) rfl (OpR.pure rfl) ?_
              refine OpsQ.yes (Want.bool rfl rfl rfl rfl (by rw [(c14)]; rfl)) rfl (OpR.call0 fn17 (ref04_Of_c hx18) rfl) ?_
              refine OpsQ.yes (Want.bool rfl rfl rfl rfl (by rw [(c14)]; rfl)) rfl (OpR.call0 fn20 (ref04_Spans_c hx19) rfl) ?_
              refine OpsQ.yes (Want.bool rfl rfl rfl rfl (by rw [(c14)]; rfl)) rfl (OpR.call0 fn19 (ref04_Same_c hx20) rfl) ?_
              refine OpsQ.yes (Want.bool rfl rfl rfl rfl (by rw [(c14)]; rfl)) rfl (OpR.eqBool rfl rfl rfl rfl) ?_
              refine OpsQ.yes (Want.plain rfl) rfl (OpR.pickT rfl (c14) rfl) ?_
              refine OpsQ.yes (Want.plain rfl) rfl (OpR.pure rfl) ?_
              refine OpsQ.yes (Want.bool rfl rfl rfl rfl (by rw [(c21)]; rfl)) rfl (OpR.loadPtr 0 rfl rfl rfl rfl) ?_
              refine OpsQ.yes (Want.bool rfl rfl rfl rfl (by rw [(c21)]; rfl)) rfl (OpR.loadPtr 0 rfl rfl rfl rfl) ?_
              refine OpsQ.yes (Want.bool rfl rfl rfl rfl (by rw [(c21)]; rfl)) rfl (OpR.call0 fn18 (piece_Same_c hx22) rfl) ?_
              refine OpsQ.yes (Want.plain rfl) rfl (OpR.pickT rfl (c21) rfl) ?_
              refine OpsQ.yes (Want.plain rfl) rfl (OpR.pure rfl) ?_
              refine OpsQ.yes (Want.bool rfl rfl rfl rfl (by rw [(c23)]; rfl)) rfl (OpR.call0 fn21 (law04_awake_c hx24) rfl) ?_
              refine OpsQ.yes (Want.plain rfl) rfl (OpR.pickT rfl (c23) rfl) ?_
              refine OpsQ.yes (Want.plain rfl) rfl (OpR.pure rfl) ?_
              exact OpsQ.nil
            · obtain rfl := Option.some.inj ht7
              exact ⟨_, Gst.trans (Gst.only [4] rfl) (Gst.pick [] rfl rfl), rfl⟩
          · refine T.drawQ drawsX [.agg [.sl 2 (List.map e_arena_Span x3.fL), .val (.int .i64 x3.fN)], .sl 2 (List.map e_ref03_Span x1.2), .sl 1 (List.map (eI .i64) x9), .val (.bool x10), .val (.bool x10), .agg [.sl 2 (List.map e_arena_Span x4.fL), .val (.int .i64 x4.fN)], .sl 2 (List.map e_ref03_Span x2.2), .sl 1 (List.map (eI .i64) x12), .val (.bool x13), .val (.bool x13), .val (.bool x13), .agg [.sl 2 (List.map e_arena_Span x3.fL), .val (.int .i64 x3.fN)], .agg [.sl 2 (List.map e_arena_Span x4.fL), .val (.int .i64 x4.fN)], .val (.bool x15), .sl 2 (List.map e_ref03_Span x1.2), .sl 1 (List.map (eI .i64) x16), .sl 2 (List.map e_ref03_Span x17), .sl 2 (List.map e_ref03_Span x2.2), .sl 1 (List.map (eI .i64) x18), .sl 2 (List.map e_ref03_Span x19), .val (.bool x20), .val (.bool (x15 == x20)), .val (.bool (x15 == x20)), .val (.bool (x15 == x20)), .agg [.sl 2 (List.map e_arena_Span x3.fL), .val (.int .i64 x3.fN)], .agg [.sl 2 (List.map e_arena_Span x3.fL), .val (.int .i64 x3.fN)], .val (.bool x22), .val (.bool x22), .val (.bool x22), .tup [], .val (.bool false), .val (.bool false)] [0, 1, 4, 5, 6, 7, 8, 9, 10, 11, 12, 13, 14, 15, 16, 17, 18, 19, 20, 21, 22, 23, 24, 25, 26, 27, 28, 29, 30, 31, 32, 33, 34, 35, 36, 37, 38, 39, 40, 41, 42, 43, 44, 45, 46, 47, 48, 49, 50, 51, 52, 53, 54, 55] (by decide +kernel) rfl ?_ rfl ?_
            · refine OpsQ.yes (Want.plain rfl) rfl (OpR.loadPtr 0 rfl rfl rfl rfl) ?_
              refine OpsQ.yes (Want.plain rfl) rfl (OpR.pure rfl) ?_
              refine OpsQ.yes (Want.plain rfl) rfl (OpR.call0 fn17 (ref04_Of_c hx9) rfl) ?_
              refine OpsQ.yes (Want.plain rfl) rfl (OpR.call0 fn16 (law04_like_c hx10) rfl) ?_
              refine OpsQ.yes (Want.plain rfl) rfl (OpR.pure rfl) ?_
              refine OpsQ.yes (Want.bool rfl rfl rfl rfl (by rw [(c11)]; rfl)) rfl (OpR.loadPtr 1 rfl rfl rfl rfl) ?_
              refine OpsQ.yes (Want.bool rfl rfl rfl rfl (by rw [(c11)]; rfl)) rfl (OpR.pure rfl) ?_
              refine OpsQ.yes (Want.bool rfl rfl rfl rfl (by rw [(c11)]; rfl)) rfl (OpR.call0 fn17 (ref04_Of_c hx12) rfl) ?_
              refine OpsQ.yes (Want.bool rfl rfl rfl rfl (by rw [(c11)]; rfl)) rfl (OpR.call0 fn16 (law04_like_c hx13) rfl) ?_
              refine OpsQ.yes (Want.plain rfl) rfl (OpR.pickT rfl (c11) rfl) ?_
              refine OpsQ.yes (Want.plain rfl) rfl (OpR.pure rfl) ?_
              refine OpsQ.yes (Want.bool rfl rfl rfl rfl (by rw [(c14)]; rfl)) rfl (OpR.loadPtr 0 rfl rfl rfl rfl) ?_
              refine OpsQ.yes (Want.bool rfl rfl rfl rfl (by rw [(c14)]; rfl)) rfl (OpR.loadPtr 1 rfl rfl rfl rfl) ?_
              refine OpsQ.yes (Want.bool rfl rfl rfl rfl (by rw [(c14)]; rfl)) rfl (OpR.call0 fn18 (piece_Same_c hx15) rfl) ?_
              refine OpsQ.yes (Want.bool rfl rfl rfl rfl (by rw [(c14)]; rfl)) rfl (OpR.pure rfl) ?_
              refine OpsQ.yes (Want.bool rfl rfl rfl rfl (by rw [(c14)]; rfl)) rfl (OpR.call0 fn17 (ref04_Of_c hx16) rfl) ?_
              refine OpsQ.yes (Want.bool rfl rfl rfl rfl (by rw [(c14)]; rfl)) rfl (OpR.call0 fn20 (ref04_Spans_c hx17) rfl) ?_
              refine OpsQ.yes (Want.bool rfl rfl rfl rfl (by rw [(c14)]; rfl)) rfl (OpR.pure rfl) ?_
              refine OpsQ.yes (Want.bool rfl rfl rfl rfl (by rw [(c14)]; rfl)) rfl (OpR.call0 fn17 (ref04_Of_c hx18) rfl) ?_
              refine OpsQ.yes (Want.bool rfl rfl rfl rfl (by rw [(c14)]; rfl)) rfl (OpR.call0 fn20 (ref04_Spans_c hx19) rfl) ?_
              refine OpsQ.yes (Want.bool rfl rfl rfl rfl (by rw [(c14)]; rfl)) rfl (OpR.call0 fn19 (ref04_Same_c hx20) rfl) ?_
              refine OpsQ.yes (Want.bool rfl rfl rfl rfl (by rw [(c14)]; rfl)) rfl (OpR.eqBool rfl rfl rfl rfl) ?_
              refine OpsQ.yes (Want.plain rfl) rfl (OpR.pickT rfl (c14) rfl) ?_
              refine OpsQ.yes (Want.plain rfl) rfl (OpR.pure rfl) ?_
              refine OpsQ.yes (Want.bool rfl rfl rfl rfl (by rw [(c21)]; rfl)) rfl (OpR.loadPtr 0 rfl rfl rfl rfl) ?_
              refine OpsQ.yes (Want.bool rfl rfl rfl rfl (by rw [(c21)]; rfl)) rfl (OpR.loadPtr 0 rfl rfl rfl rfl) ?_
              refine OpsQ.yes (Want.bool rfl rfl rfl rfl (by rw [(c21)]; rfl)) rfl (OpR.call0 fn18 (piece_Same_c hx22) rfl) ?_
              refine OpsQ.yes (Want.plain rfl) rfl (OpR.pickT rfl (c21) rfl) ?_
              refine OpsQ.yes (Want.plain rfl) rfl (OpR.pure rfl) ?_
              refine OpsQ.no (Want.bool rfl rfl rfl rfl (by rw [(eq_false_of_ne_true c23)]; rfl)) rfl ?_
              refine OpsQ.yes (Want.plain rfl) rfl (OpR.pickF rfl (eq_false_of_ne_true c23) rfl) ?_
              refine OpsQ.yes (Want.plain rfl) rfl (OpR.pure rfl) ?_
              exact OpsQ.nil
            · obtain rfl := Option.some.inj ht7
              exact ⟨_, Gst.trans (Gst.only [4] rfl) (Gst.pick [] rfl rfl), rfl⟩
        · refine T.drawQ drawsX [.agg [.sl 2 (List.map e_arena_Span x3.fL), .val (.int .i64 x3.fN)], .sl 2 (List.map e_ref03_Span x1.2), .sl 1 (List.map (eI .i64) x9), .val (.bool x10), .val (.bool x10), .agg [.sl 2 (List.map e_arena_Span x4.fL), .val (.int .i64 x4.fN)], .sl 2 (List.map e_ref03_Span x2.2), .sl 1 (List.map (eI .i64) x12), .val (.bool x13), .val (.bool x13), .val (.bool x13), .agg [.sl 2 (List.map e_arena_Span x3.fL), .val (.int .i64 x3.fN)], .agg [.sl 2 (List.map e_arena_Span x4.fL), .val (.int .i64 x4.fN)], .val (.bool x15), .sl 2 (List.map e_ref03_Span x1.2), .sl 1 (List.map (eI .i64) x16), .sl 2 (List.map e_ref03_Span x17), .sl 2 (List.map e_ref03_Span x2.2), .sl 1 (List.map (eI .i64) x18), .sl 2 (List.map e_ref03_Span x19), .val (.bool x20), .val (.bool (x15 == x20)), .val (.bool (x15 == x20)), .val (.bool (x15 == x20)), .tup [], .tup [], .tup [], .val (.bool false), .val (.bool false), .tup [], .val (.bool false), .val (.bool false)] [0, 1, 4, 5, 6, 7, 8, 9, 10, 11, 12, 13, 14, 15, 16, 17, 18, 19, 20, 21, 22, 23, 24, 25, 26, 27, 28, 29, 30, 31, 32, 33, 34, 35, 36, 37, 38, 39, 40, 41, 42, 43, 44, 45, 46, 47, 48, 49, 50, 51, 52, 53, 54, 55] (by decide +kernel) rfl ?_ rfl ?_
          · refine OpsQ.yes (Want.plain rfl) rfl (OpR.loadPtr 0 rfl rfl rfl rfl) ?_
            refine OpsQ.yes (Want.plain rfl) rfl (OpR.pure rfl) ?_
            refine OpsQ.yes (Want.plain rfl) rfl (OpR.call0 fn17 (ref04_Of_c hx9) rfl) ?_
            refine OpsQ.yes (Want.plain rfl) rfl (OpR.call0 fn16 (law04_like_c hx10) rfl) ?_
            refine OpsQ.yes (Want.plain rfl) rfl (OpR.pure rfl) ?_
            refine OpsQ.yes (Want.bool rfl rfl rfl rfl (by rw [(c11)]; rfl)) rfl (OpR.loadPtr 1 rfl rfl rfl rfl) ?_
            refine OpsQ.yes (Want.bool rfl rfl rfl rfl (by rw [(c11)]; rfl)) rfl (OpR.pure rfl) ?_
            refine OpsQ.yes (Want.bool rfl rfl rfl rfl (by rw [(c11)]; rfl)) rfl (OpR.call0 fn17 (ref04_Of_c hx12) rfl) ?_
            refine OpsQ.yes (Want.bool rfl rfl rfl rfl (by rw [(c11)]; rfl)) rfl (OpR.call0 fn16 (law04_like_c hx13) rfl) ?_
            refine OpsQ.yes (Want.plain rfl) rfl (OpR.pickT rfl (c11) rfl) ?_
            refine OpsQ.yes (Want.plain rfl) rfl (OpR.pure rfl) ?_
            refine OpsQ.yes (Want.bool rfl rfl rfl rfl (by rw [(c14)]; rfl)) rfl (OpR.loadPtr 0 rfl rfl rfl rfl) ?_
            refine OpsQ.yes (Want.bool rfl rfl rfl rfl (by rw [(c14)]; rfl)) rfl (OpR.loadPtr 1 rfl rfl rfl rfl) ?_
            refine OpsQ.yes (Want.bool rfl rfl rfl rfl (by rw [(c14)]; rfl)) rfl (OpR.call0 fn18 (piece_Same_c hx15) rfl) ?_
            refine OpsQ.yes (Want.bool rfl rfl rfl rfl (by rw [(c14)]; rfl)) rfl (OpR.pure rfl) ?_
            refine OpsQ.yes (Want.bool rfl rfl rfl rfl (by rw [(c14)]; rfl)) rfl (OpR.call0 fn17 (ref04_Of_c hx16) rfl) ?_
            refine OpsQ.yes (Want.bool rfl rfl rfl rfl (by rw [(c14)]; rfl)) rfl (OpR.call0 fn20 (ref04_Spans_c hx17) rfl) ?_
            refine OpsQ.yes (Want.bool rfl rfl rfl rfl (by rw [(c14)]; rfl)) rfl (OpR.pure rfl) ?_
            refine OpsQ.yes (Want.bool rfl rfl rfl rfl (by rw [(c14)]; rfl)) rfl (OpR.call0 fn17 (ref04_Of_c hx18) rfl) ?_
            refine OpsQ.yes (Want.bool rfl rfl rfl rfl (by rw [(c14)]; rfl)) rfl (OpR.call0 fn20 (ref04_Spans_c hx19) rfl) ?_
            refine OpsQ.yes (Want.bool rfl rfl rfl rfl (by rw [(c14)]; rfl)) rfl (OpR.call0 fn19 (ref04_Same_c hx20) rfl) ?_
            refine OpsQ.yes (Want.bool rfl rfl rfl rfl (by rw [(c14)]; rfl)) rfl (OpR.eqBool rfl rfl rfl rfl) ?_
            refine OpsQ.yes (Want.plain rfl) rfl (OpR.pickT rfl (c14) rfl) ?_
            refine OpsQ.yes (Want.plain rfl) rfl (OpR.pure rfl) ?_
            refine OpsQ.no (Want.bool rfl rfl rfl rfl (by rw [(eq_false_of_ne_true c21)]; rfl)) rfl ?_
            refine OpsQ.no (Want.bool rfl rfl rfl rfl (by rw [(eq_false_of_ne_true c21)]; rfl)) rfl ?_
            refine OpsQ.no (Want.bool rfl rfl rfl rfl (by rw [(eq_false_of_ne_true c21)]; rfl)) rfl ?_
            refine OpsQ.yes (Want.plain rfl) rfl (OpR.pickF rfl (eq_false_of_ne_true c21) rfl) ?_
            refine OpsQ.yes (Want.plain rfl) rfl (OpR.pure rfl) ?_
            refine OpsQ.no (Want.bool rfl rfl rfl rfl rfl) rfl ?_
            refine OpsQ.yes (Want.plain rfl) rfl (OpR.pickF rfl rfl rfl) ?_
            refine OpsQ.yes (Want.plain rfl) rfl (OpR.pure rfl) ?_
            exact OpsQ.nil
          · obtain rfl := Option.some.inj ht7
            exact ⟨_, Gst.trans (Gst.only [4] rfl) (Gst.pick [] rfl rfl), rfl⟩
      · refine T.drawQ drawsX [.agg [.sl 2 (List.map e_arena_Span x3.fL), .val (.int .i64 x3.fN)], .sl 2 (List.map e_ref03_Span x1.2), .sl 1 (List.map (eI .i64) x9), .val (.bool x10), .val (.bool x10), .agg [.sl 2 (List.map e_arena_Span x4.fL), .val (.int .i64 x4.fN)], .sl 2 (List.map e_ref03_Span x2.2), .sl 1 (List.map (eI .i64) x12), .val (.bool x13), .val (.bool x13), .val (.bool x13), .tup [], .tup [], .tup [], .tup [], .tup [], .tup [], .tup [], .tup [], .tup [], .tup [], .tup [], .val (.bool false), .val (.bool false), .tup [], .tup [], .tup [], .val (.bool false), .val (.bool false), .tup [], .val (.bool false), .val (.bool false)] [0, 1, 4, 5, 6, 7, 8, 9, 10, 11, 12, 13, 14, 15, 16, 17, 18, 19, 20, 21, 22, 23, 24, 25, 26, 27, 28, 29, 30, 31, 32, 33, 34, 35, 36, 37, 38, 39, 40, 41, 42, 43, 44, 45, 46, 47, 48, 49, 50, 51, 52, 53, 54, 55] (by decide +kernel) rfl ?_ rfl ?_
        · refine OpsQ.yes (Want.plain rfl) rfl (OpR.loadPtr 0 rfl rfl rfl rfl) ?_
          refine OpsQ.yes (Want.plain rfl) rfl (OpR.pure rfl) ?_
          refine OpsQ.yes (Want.plain rfl) rfl (OpR.call0 fn17 (ref04_Of_c hx9) rfl) ?_
          refine OpsQ.yes (Want.plain rfl) rfl (OpR.call0 fn16 (law04_like_c hx10) rfl) ?_
          refine OpsQ.yes (Want.plain rfl) rfl (OpR.pure rfl) ?_
          refine OpsQ.yes (Want.bool rfl rfl rfl rfl (by rw [(c11)]; rfl)) rfl (OpR.loadPtr 1 rfl rfl rfl rfl) ?_
          refine OpsQ.yes (Want.bool rfl rfl rfl rfl (by rw [(c11)]; rfl)) rfl (OpR.pure rfl) ?_
          refine OpsQ.yes (Want.bool rfl rfl rfl rfl (by rw [(c11)]; rfl)) rfl (OpR.call0 fn17 (ref04_Of_c hx12) rfl) ?_
          refine OpsQ.yes (Want.bool rfl rfl rfl rfl (by rw [(c11)]; rfl)) rfl (OpR.call0 fn16 (law04_like_c hx13) rfl) ?_
          refine OpsQ.yes (Want.plain rfl) rfl (OpR.pickT rfl (c11) rfl) ?_
          refine OpsQ.yes (Want.plain rfl) rfl (OpR.pure rfl) ?_
          refine OpsQ.no (Want.bool rfl rfl rfl rfl (by rw [(eq_false_of_ne_true c14)]; rfl)) rfl ?_
          refine OpsQ.no (Want.bool rfl rfl rfl rfl (by rw [(eq_false_of_ne_true c14)]; rfl)) rfl ?_
          refine OpsQ.no (Want.bool rfl rfl rfl rfl (by rw [(eq_false_of_ne_true c14)]; rfl)) rfl ?_
          refine OpsQ.no (Want.bool rfl rfl rfl rfl (by rw [(eq_false_of_ne_true c14)]; rfl)) rfl ?_
          refine OpsQ.no (Want.bool rfl rfl rfl rfl (by rw [(eq_false_of_ne_true c14)]; rfl)) rfl ?_
          refine OpsQ.no (Want.bool rfl rfl rfl rfl (by rw [(eq_false_of_ne_true c14)]; rfl)) rfl ?_
          refine OpsQ.no (Want.bool rfl rfl rfl rfl (by rw [(eq_false_of_ne_true c14)]; rfl)) rfl ?_
          refine OpsQ.no (Want.bool rfl rfl rfl rfl (by rw [(eq_false_of_ne_true c14)]; rfl)) rfl ?_
          refine OpsQ.no (Want.bool rfl rfl rfl rfl (by rw [(eq_false_of_ne_true c14)]; rfl)) rfl ?_
          refine OpsQ.no (Want.bool rfl rfl rfl rfl (by rw [(eq_false_of_ne_true c14)]; rfl)) rfl ?_
          refine OpsQ.no (Want.bool rfl rfl rfl rfl (by rw [(eq_false_of_ne_true c14)]; rfl)) rfl ?_
          refine OpsQ.yes (Want.plain rfl) rfl (OpR.pickF rfl (eq_false_of_ne_true c14) rfl) ?_
          refine OpsQ.yes (Want.plain rfl) rfl (OpR.pure rfl) ?_
          refine OpsQ.no (Want.bool rfl rfl rfl rfl rfl) rfl ?_
          refine OpsQ.no (Want.bool rfl rfl rfl rfl rfl) rfl ?_
          refine OpsQ.no (Want.bool rfl rfl rfl rfl rfl) rfl ?_
          refine OpsQ.yes (Want.plain rfl) rfl (OpR.pickF rfl rfl rfl) ?_
          refine OpsQ.yes (Want.plain rfl) rfl (OpR.pure rfl) ?_
          refine OpsQ.no (Want.bool rfl rfl rfl rfl rfl) rfl ?_
          refine OpsQ.yes (Want.plain rfl) rfl (OpR.pickF rfl rfl rfl) ?_
          refine OpsQ.yes (Want.plain rfl) rfl (OpR.pure rfl) ?_
          exact OpsQ.nil
        · obtain rfl := Option.some.inj ht7
          exact ⟨_, Gst.trans (Gst.only [4] rfl) (Gst.pick [] rfl rfl), rfl⟩
    · refine T.drawQ drawsX [.agg [.sl 2 (List.map e_arena_Span x3.fL), .val (.int .i64 x3.fN)], .sl 2 (List.map e_ref03_Span x1.2), .sl 1 (List.map (eI .i64) x9), .val (.bool x10), .val (.bool x10), .tup [], .tup [], .tup [], .tup [], .val (.bool false), .val (.bool false), .tup [], .tup [], .tup [], .tup [], .tup [], .tup [], .tup [], .tup [], .tup [], .tup [], .tup [], .val (.bool false), .val (.bool false), .tup [], .tup [], .tup [], .val (.bool false), .val (.bool false), .tup [], .val (.bool false), .val (.bool false)] [0, 1, 4, 5, 6, 7, 8, 9, 10, 11, 12, 13, 14, 15, 16, 17, 18, 19, 20, 21, 22, 23, 24, 25, 26, 27, 28, 29, 30, 31, 32, 33, 34, 35, 36, 37, 38, 39, 40, 41, 42, 43, 44, 45, 46, 47, 48, 49, 50, 51, 52, 53, 54, 55] (by decide +kernel) rfl ?_ rfl ?_
      · refine OpsQ.yes (Want.plain rfl) rfl (OpR.loadPtr 0 rfl rfl rfl rfl) ?_
        refine OpsQ.yes (Want.plain rfl) rfl (OpR.pure rfl) ?_
        refine OpsQ.yes (Want.plain rfl) rfl (OpR.call0 fn17 (ref04_Of_c hx9) rfl) ?_
        refine OpsQ.yes (Want.plain rfl) rfl (OpR.call0 fn16 (law04_like_c hx10) rfl) ?_
        refine OpsQ.yes (Want.plain rfl) rfl (OpR.pure rfl) ?_
        refine OpsQ.no (Want.bool rfl rfl rfl rfl (by rw [(eq_false_of_ne_true c11)]; rfl)) rfl ?_
        refine OpsQ.no (Want.bool rfl rfl rfl rfl (by rw [(eq_false_of_ne_true c11)]; rfl)) rfl ?_
        refine OpsQ.no (Want.bool rfl rfl rfl rfl (by rw [(eq_false_of_ne_true c11)]; rfl)) rfl ?_
        refine OpsQ.no (Want.bool rfl rfl rfl rfl (by rw [(eq_false_of_ne_true c11)]; rfl)) rfl ?_
        refine OpsQ.yes (Want.plain rfl) rfl (OpR.pickF rfl (eq_false_of_ne_true c11) rfl) ?_
        refine OpsQ.yes (Want.plain rfl) rfl (OpR.pure rfl) ?_
        refine OpsQ.no (Want.bool rfl rfl rfl rfl rfl) rfl ?_
        refine OpsQ.no (Want.bool rfl rfl rfl rfl rfl) rfl ?_
        refine OpsQ.no (Want.bool rfl rfl rfl rfl rfl) rfl ?_
        refine OpsQ.no (Want.bool rfl rfl rfl rfl rfl) rfl ?_
        refine OpsQ.no (Want.bool rfl rfl rfl rfl rfl) rfl ?_
        refine OpsQ.no (Want.bool rfl rfl rfl rfl rfl) rfl ?_
        refine OpsQ.no (Want.bool rfl rfl rfl rfl rfl) rfl ?_
        refine OpsQ.no (Want.bool rfl rfl rfl rfl rfl) rfl ?_
        refine OpsQ.no (Want.bool rfl rfl rfl rfl rfl) rfl ?_
        refine OpsQ.no (Want.bool rfl rfl rfl rfl rfl) rfl ?_
        refine OpsQ.no (Want.bool rfl rfl rfl rfl rfl) rfl ?_
        refine OpsQ.yes (Want.plain rfl) rfl (OpR.pickF rfl rfl rfl) ?_
        refine OpsQ.yes (Want.plain rfl) rfl (OpR.pure rfl) ?_
        refine OpsQ.no (Want.bool rfl rfl rfl rfl rfl) rfl ?_
        refine OpsQ.no (Want.bool rfl rfl rfl rfl rfl) rfl ?_
        refine OpsQ.no (Want.bool rfl rfl rfl rfl rfl) rfl ?_
        refine OpsQ.yes (Want.plain rfl) rfl (OpR.pickF rfl rfl rfl) ?_
        refine OpsQ.yes (Want.plain rfl) rfl (OpR.pure rfl) ?_
        refine OpsQ.no (Want.bool rfl rfl rfl rfl rfl) rfl ?_
        refine OpsQ.yes (Want.plain rfl) rfl (OpR.pickF rfl rfl rfl) ?_
        refine OpsQ.yes (Want.plain rfl) rfl (OpR.pure rfl) ?_
        exact OpsQ.nil
      · obtain rfl := Option.some.inj ht7
        exact ⟨_, Gst.trans (Gst.only [4] rfl) (Gst.pick [] rfl rfl), rfl⟩
  · rintro _ rfl
    show T X _ _ _
    refine T.ret ?_
    obtain rfl := Option.some.inj h0
    exact PostG.retP (ks := []) (Gst.only [4] rfl) undef (ResL.cons (ResV.tmp rfl) ResL.nil) rfl rfl rfl rfl
noncomputable def ref04_place (a0 : List Int) (a1 : Int) : Option Int :=
  if a1 < 0 then
    some 0
  else
    if a1 > (a0.length : Int) then
      some (a0.length : Int)
    else
      some a1
set_option maxHeartbeats 4000000 in
theorem ref04_place_c {a0 : List Int} {a1 : Int} {res : Int} (h0 : ref04_place a0 a1 = some res) : CallF X 68 [.sl 1 (List.map (eI .i64) a0), .val (.int .i64 a1)] [] (fun x => .val (.int .i64 res)) (fun x => []) := by
  unfold ref04_place at h0
  refine CallF.mkG (X := X) Try.func68 rfl rfl Try.ntmps68 rfl rfl ?_
  refine T.seq ?_
  refine T.region ?_
  refine TL.op1 (OpR.pure rfl) rfl ?_
  refine TL.nil ?_
  show T X _ _ _
  refine T.seq ?_
  refine T.seq ?_
  refine T.region ?_
  refine TL.op1 (OpR.pure rfl) rfl ?_
  refine TL.op1 (OpR.pure rfl) rfl ?_
  refine TL.nil ?_
  show T X _ _ _
  rcases ite_some h0 with ⟨c1, h0⟩ | ⟨c1, h0⟩
  · refine T.condT rfl (decide_eq_true c1) ?_
    refine T.seq ?_
    refine T.region ?_
    refine TL.op1 (OpR.pure rfl) rfl ?_
    refine TL.nil ?_
    show T X _ _ _
    refine T.ret ?_
    obtain rfl := Option.some.inj h0
    exact PostG.retP (ks := []) (Gst.only [4] rfl) undef (ResL.cons (ResV.tmp rfl) ResL.nil) rfl rfl rfl rfl
  · refine T.condF rfl (decide_eq_false c1) ?_
    refine T.skip ?_
    show T X _ _ _
    refine T.seq ?_
    refine T.seq ?_
    refine T.region ?_
    refine TL.op1 (OpR.pure rfl) rfl ?_
    refine TL.op1 (OpR.pure rfl) rfl ?_
    refine TL.op1 (OpR.cast (OpR.pure rfl) (intE (lenM _ _))) rfl ?_
    refine TL.op1 (OpR.pure rfl) rfl ?_
    refine TL.nil ?_
    show T X _ _ _
    rcases ite_some h0 with ⟨c2, h0⟩ | ⟨c2, h0⟩
    · refine T.condT rfl (decide_eq_true c2) ?_
      refine T.seq ?_
      refine T.region ?_
      refine TL.op1 (OpR.pure rfl) rfl ?_
      refine TL.op1 (OpR.cast (OpR.pure rfl) (intE (lenM _ _))) rfl ?_
      refine TL.op1 (OpR.pure rfl) rfl ?_
      refine TL.nil ?_
      show T X _ _ _
      refine T.ret ?_
      obtain rfl := Option.some.inj h0
      exact PostG.retP (ks := []) (Gst.only [4] rfl) undef (ResL.cons (ResV.tmp rfl) ResL.nil) rfl rfl rfl rfl
    · refine T.condF rfl (decide_eq_false c2) ?_
      refine T.skip ?_
      show T X _ _ _
      refine T.seq ?_
      refine T.region ?_
      refine TL.op1 (OpR.pure rfl) rfl ?_
      refine TL.op1 (OpR.pure rfl) rfl ?_
      refine TL.nil ?_
      show T X _ _ _
      refine T.ret ?_
      obtain rfl := Option.some.inj h0
      exact PostG.retP (ks := []) (Gst.only [4] rfl) undef (ResL.cons (ResV.tmp rfl) ResL.nil) rfl rfl rfl rfl
noncomputable def ref04_Slice (a0 : List Int) (a1 : Int) (a2 : Int) : Option (List Int) :=
  bnd (ref04_place a0 a1) fun x1 =>
  bnd (ref04_place a0 a2) fun x2 =>
  if x2 ≤ x1 then
    some []
  else
    bnd (cut a0 x1 x2) fun x4 =>
    some x4
set_option maxHeartbeats 4000000 in
theorem ref04_Slice_c {a0 : List Int} {a1 : Int} {a2 : Int} {res : (List Int)} (h0 : ref04_Slice a0 a1 a2 = some res) : CallF X 23 [.sl 1 (List.map (eI .i64) a0), .val (.int .i64 a1), .val (.int .i64 a2)] [] (fun x => .sl 1 (List.map (eI .i64) res)) (fun x => []) := by
  unfold ref04_Slice at h0
  refine CallF.mkG (X := X) Try.func23 rfl rfl Try.ntmps23 rfl rfl ?_
  refine T.seq ?_
  refine T.region ?_
  refine TL.op1 (OpR.pure rfl) rfl ?_
  refine TL.nil ?_
  show T X _ _ _
  refine T.seq ?_
  refine T.region ?_
  refine TL.op1 (OpR.pure rfl) rfl ?_
  refine TL.op1 (OpR.pure rfl) rfl ?_
  obtain ⟨x1, hx1, h0⟩ := bnd_some h0
  refine TL.op1 (OpR.call0 fn68 (ref04_place_c hx1) rfl) rfl ?_
  refine TL.op1 (OpR.pure rfl) rfl ?_
  refine TL.op1 (OpR.pure rfl) rfl ?_
  obtain ⟨x2, hx2, h0⟩ := bnd_some h0
  refine TL.op1 (OpR.call0 fn68 (ref04_place_c hx2) rfl) rfl ?_
  refine TL.op1 (OpR.pure rfl) rfl ?_
  refine TL.op1 (OpR.pure rfl) rfl ?_
  refine TL.nil ?_
  show T X _ _ _
  refine T.seq ?_
  refine T.seq ?_
  refine T.region ?_
  refine TL.op1 (OpR.pure rfl) rfl ?_
  refine TL.op1 (OpR.pure rfl) rfl ?_
  refine TL.op1 (OpR.pure rfl) rfl ?_
  refine TL.nil ?_
  show T X _ _ _
  rcases ite_some h0 with ⟨c3, h0⟩ | ⟨c3, h0⟩
  · refine T.condT rfl (decide_eq_true c3) ?_
    refine T.seq ?_
    refine T.region ?_
    refine TL.op1 (OpR.pure rfl) rfl ?_
    refine TL.nil ?_
    show T X _ _ _
    refine T.ret ?_
    obtain rfl := Option.some.inj h0
    exact PostG.retP (ks := []) (Gst.trans (Gst.only [6] rfl) (Gst.denil (ReS.cons (Re.base .nil) ReS.nil) ReO.nil)) undef (ResL.cons (ResV.tmp rfl) ResL.nil) rfl rfl rfl rfl
  · refine T.condF rfl (decide_eq_false c3) ?_
    refine T.skip ?_
    show T X _ _ _
    refine T.seq ?_
    refine T.region ?_
    refine TL.op1 (OpR.pure rfl) rfl ?_
    refine TL.op1 (OpR.pure rfl) rfl ?_
    refine TL.op1 (OpR.pure rfl) rfl ?_
    obtain ⟨x4, hx4, h0⟩ := bnd_some h0
    refine TL.op1 (OpR.sliceM (sz := 1) (eI .i64) hx4 rfl rfl rfl rfl (BdM.some rfl) (BdM.some rfl) rfl) rfl ?_
    refine TL.op1 (OpR.pure rfl) rfl ?_
    refine TL.nil ?_
    show T X _ _ _
    refine T.ret ?_
    obtain rfl := Option.some.inj h0
    exact PostG.retP (ks := []) (Gst.only [6] rfl) undef (ResL.cons (ResV.tmp rfl) ResL.nil) rfl rfl rfl rfl
noncomputable def piece_Text_Insert (a0 : piece_Text) (a1 : Int) (a2 : piece_Text) : Option piece_Text :=
  bnd (piece_Text_Slice a0 0 a1) fun x3 =>
  bnd (piece_Text_Slice a0 a1 a0.fN) fun x4 =>
  bnd (piece_Concat [x3, a2, x4]) fun x5 =>
  some x5
set_option maxHeartbeats 4000000 in
theorem piece_Text_Insert_c {a0 : piece_Text} {a1 : Int} {a2 : piece_Text} {res : piece_Text} (h0 : piece_Text_Insert a0 a1 a2 = some res) : CallF X 24 [.agg [.sl 2 (List.map e_arena_Span a0.fL), .val (.int .i64 a0.fN)], .val (.int .i64 a1), .agg [.sl 2 (List.map e_arena_Span a2.fL), .val (.int .i64 a2.fN)]] [] (fun x => .agg [.sl 2 (List.map e_arena_Span res.fL), .val (.int .i64 res.fN)]) (fun x => []) := by
  unfold piece_Text_Insert at h0
  refine CallF.mkG (X := X) Try.func24 rfl rfl Try.ntmps24 rfl rfl ?_
  refine T.seq ?_
  refine T.region ?_
  refine TL.op1 (OpR.boxImm rfl rfl) rfl ?_
  refine TL.op1 (OpR.boxImm rfl rfl) rfl ?_
  refine TL.op (OpR.alloc rfl rfl (fun _ => rfl)) rfl (fun p1 => ?_)
  refine TL.nil ?_
  show T X _ _ _
  refine T.seq ?_
  obtain ⟨x3, hx3, h0⟩ := bnd_some h0
  obtain ⟨x4, hx4, h0⟩ := bnd_some h0
  obtain ⟨x5, hx5, h0⟩ := bnd_some h0
  refine T.drawS drawsX (fun env2 => [.agg [.sl 2 (List.map e_arena_Span a0.fL), .val (.int .i64 a0.fN)], .val (.int .i64 a1), .agg [.sl 2 (List.map e_arena_Span x3.fL), .val (.int .i64 x3.fN)], .agg [.sl 2 (List.map e_arena_Span a2.fL), .val (.int .i64 a2.fN)], .agg [.sl 2 (List.map e_arena_Span a0.fL), .val (.int .i64 a0.fN)], .val (.int .i64 a1), .nod [.val (.int .i64 a0.fN)], .val (.int .i64 a0.fN), .agg [.sl 2 (List.map e_arena_Span x4.fL), .val (.int .i64 x4.fN)], .sl 2 (List.map e_piece_Text [x3, a2, x4]), .agg [.sl 2 (List.map e_arena_Span x5.fL), .val (.int .i64 x5.fN)], .dead]) (fun D env2 => [(bif D 11 then .var (blk p1) [.sl 2 (List.map e_arena_Span x5.fL), .val (.int .i64 x5.fN)] 27 else .var (blk p1) [.val (.slice none 0 0), .val (.int .i64 0)] 27)]) [0, 0, 3, 0, 0, 0, 0, 64, 247, 511, 1023, 2047] [0, 1, 2, 3, 5, 6, 7, 8, 9, 10, 11, 12, 13, 14, 15, 16, 17] (fun env2 => [.var (blk p1) [.sl 2 (List.map e_arena_Span x5.fL), .val (.int .i64 x5.fN)] 27]) (by decide +kernel) (by decide +kernel) (fun _ => rfl) (fun _ => rfl) ?_ (fun _ => rfl) (fun _ => rfl) ?_
  · refine OpsS.cons' true ?_ (fun _ _ _ _ _ _ _ => rfl) ?_
    · intro D env2 hA
      have e11 : D 11 = false := hA.no 11 _ rfl rfl
      exact OpS.yes (o0 := [.var (blk p1) [.val (.slice none 0 0), .val (.int .i64 0)] 27]) (o1 := fun x => [.var (blk p1) [.val (.slice none 0 0), .val (.int .i64 0)] 27]) (d := fun x => .agg [.sl 2 (List.map e_arena_Span a0.fL), .val (.int .i64 a0.fN)]) (Want.plain rfl) (by first | rfl | simp only [e11, cond_true, cond_false, List.cons_append, List.nil_append, List.append_nil]) (fun x => by first | rfl | simp only [ins_self, ins_ne D (show 0 ≠ 11 by decide), upd_self, e11, cond_true, cond_false, List.cons_append, List.nil_append, List.append_nil]) (fun x => rfl) (OpR.pure rfl)
    refine OpsS.cons' true ?_ (fun _ _ _ _ _ _ _ => rfl) ?_
    · intro D env2 hA
      have e11 : D 11 = false := hA.no 11 _ rfl rfl
      exact OpS.yes (o0 := [.var (blk p1) [.val (.slice none 0 0), .val (.int .i64 0)] 27]) (o1 := fun x => [.var (blk p1) [.val (.slice none 0 0), .val (.int .i64 0)] 27]) (d := fun x => .val (.int .i64 a1)) (Want.plain rfl) (by first | rfl | simp only [e11, cond_true, cond_false, List.cons_append, List.nil_append, List.append_nil]) (fun x => by first | rfl | simp only [ins_self, ins_ne D (show 1 ≠ 11 by decide), upd_self, e11, cond_true, cond_false, List.cons_append, List.nil_append, List.append_nil]) (fun x => rfl) (OpR.pure rfl)
    refine OpsS.cons' true ?_ (fun _ _ _ _ _ _ _ => rfl) ?_
    · intro D env2 hA
      have e11 : D 11 = false := hA.no 11 _ rfl rfl
      exact OpS.yes (o0 := [.var (blk p1) [.val (.slice none 0 0), .val (.int .i64 0)] 27]) (o1 := fun x => [.var (blk p1) [.val (.slice none 0 0), .val (.int .i64 0)] 27]) (d := fun x => .agg [.sl 2 (List.map e_arena_Span x3.fL), .val (.int .i64 x3.fN)]) (Want.plain rfl) (by first | rfl | simp only [e11, cond_true, cond_false, List.cons_append, List.nil_append, List.append_nil]) (fun x => by first | rfl | simp only [ins_self, ins_ne D (show 2 ≠ 11 by decide), upd_self, e11, cond_true, cond_false, List.cons_append, List.nil_append, List.append_nil]) (fun x => rfl) (OpR.call0 fn22 (piece_Text_Slice_c hx3) rfl)
    refine OpsS.cons' true ?_ (fun _ _ _ _ _ _ _ => rfl) ?_
    · intro D env2 hA
      have e11 : D 11 = false := hA.no 11 _ rfl rfl
      exact OpS.yes (o0 := [.var (blk p1) [.val (.slice none 0 0), .val (.int .i64 0)] 27]) (o1 := fun x => [.var (blk p1) [.val (.slice none 0 0), .val (.int .i64 0)] 27]) (d := fun x => .agg [.sl 2 (List.map e_arena_Span a2.fL), .val (.int .i64 a2.fN)]) (Want.plain rfl) (by first | rfl | simp only [e11, cond_true, cond_false, List.cons_append, List.nil_append, List.append_nil]) (fun x => by first | rfl | simp only [ins_self, ins_ne D (show 3 ≠ 11 by decide), upd_self, e11, cond_true, cond_false, List.cons_append, List.nil_append, List.append_nil]) (fun x => rfl) (OpR.pure rfl)
    refine OpsS.cons' true ?_ (fun _ _ _ _ _ _ _ => rfl) ?_
    · intro D env2 hA
      have e11 : D 11 = false := hA.no 11 _ rfl rfl
      exact OpS.yes (o0 := [.var (blk p1) [.val (.slice none 0 0), .val (.int .i64 0)] 27]) (o1 := fun x => [.var (blk p1) [.val (.slice none 0 0), .val (.int .i64 0)] 27]) (d := fun x => .agg [.sl 2 (List.map e_arena_Span a0.fL), .val (.int .i64 a0.fN)]) (Want.plain rfl) (by first | rfl | simp only [e11, cond_true, cond_false, List.cons_append, List.nil_append, List.append_nil]) (fun x => by first | rfl | simp only [ins_self, ins_ne D (show 4 ≠ 11 by decide), upd_self, e11, cond_true, cond_false, List.cons_append, List.nil_append, List.append_nil]) (fun x => rfl) (OpR.pure rfl)
    refine OpsS.cons' true ?_ (fun _ _ _ _ _ _ _ => rfl) ?_
    · intro D env2 hA
      have e11 : D 11 = false := hA.no 11 _ rfl rfl
      exact OpS.yes (o0 := [.var (blk p1) [.val (.slice none 0 0), .val (.int .i64 0)] 27]) (o1 := fun x => [.var (blk p1) [.val (.slice none 0 0), .val (.int .i64 0)] 27]) (d := fun x => .val (.int .i64 a1)) (Want.plain rfl) (by first | rfl | simp only [e11, cond_true, cond_false, List.cons_append, List.nil_append, List.append_nil]) (fun x => by first | rfl | simp only [ins_self, ins_ne D (show 5 ≠ 11 by decide), upd_self, e11, cond_true, cond_false, List.cons_append, List.nil_append, List.append_nil]) (fun x => rfl) (OpR.pure rfl)
    refine OpsS.cons' true ?_ (fun _ _ _ _ _ _ _ => rfl) ?_
    · intro D env2 hA
      have e11 : D 11 = false := hA.no 11 _ rfl rfl
      exact OpS.yes (o0 := [.var (blk p1) [.val (.slice none 0 0), .val (.int .i64 0)] 27]) (o1 := fun x => [.var (blk p1) [.val (.slice none 0 0), .val (.int .i64 0)] 27]) (d := fun x => .nod [.val (.int .i64 a0.fN)]) (Want.plain rfl) (by first | rfl | simp only [e11, cond_true, cond_false, List.cons_append, List.nil_append, List.append_nil]) (fun x => by first | rfl | simp only [ins_self, ins_ne D (show 6 ≠ 11 by decide), upd_self, e11, cond_true, cond_false, List.cons_append, List.nil_append, List.append_nil]) (fun x => rfl) (OpR.pure rfl)
    refine OpsS.cons' true ?_ (fun _ _ _ _ _ _ _ => rfl) ?_
    · intro D env2 hA
      have e11 : D 11 = false := hA.no 11 _ rfl rfl
      exact OpS.yes (o0 := [.var (blk p1) [.val (.slice none 0 0), .val (.int .i64 0)] 27]) (o1 := fun x => [.var (blk p1) [.val (.slice none 0 0), .val (.int .i64 0)] 27]) (d := fun x => .val (.int .i64 a0.fN)) (Want.plain rfl) (by first | rfl | simp only [e11, cond_true, cond_false, List.cons_append, List.nil_append, List.append_nil]) (fun x => by first | rfl | simp only [ins_self, ins_ne D (show 7 ≠ 11 by decide), upd_self, e11, cond_true, cond_false, List.cons_append, List.nil_append, List.append_nil]) (fun x => rfl) (OpR.pure rfl)
    refine OpsS.cons' true ?_ (fun _ _ _ _ _ _ _ => rfl) ?_
    · intro D env2 hA
      have e11 : D 11 = false := hA.no 11 _ rfl rfl
      exact OpS.yes (o0 := [.var (blk p1) [.val (.slice none 0 0), .val (.int .i64 0)] 27]) (o1 := fun x => [.var (blk p1) [.val (.slice none 0 0), .val (.int .i64 0)] 27]) (d := fun x => .agg [.sl 2 (List.map e_arena_Span x4.fL), .val (.int .i64 x4.fN)]) (Want.plain rfl) (by first | rfl | simp only [e11, cond_true, cond_false, List.cons_append, List.nil_append, List.append_nil]) (fun x => by first | rfl | simp only [ins_self, ins_ne D (show 8 ≠ 11 by decide), upd_self, e11, cond_true, cond_false, List.cons_append, List.nil_append, List.append_nil]) (fun x => rfl) (OpR.call0 fn22 (piece_Text_Slice_c hx4) rfl)
    refine OpsS.cons' true ?_ (fun _ _ _ _ _ _ _ => rfl) ?_
    · intro D env2 hA
      have e11 : D 11 = false := hA.no 11 _ rfl rfl
      exact OpS.yes (o0 := [.var (blk p1) [.val (.slice none 0 0), .val (.int .i64 0)] 27]) (o1 := fun x => [.var (blk p1) [.val (.slice none 0 0), .val (.int .i64 0)] 27]) (d := fun x => .sl 2 (List.map e_piece_Text [x3, a2, x4])) (Want.plain rfl) (by first | rfl | simp only [e11, cond_true, cond_false, List.cons_append, List.nil_append, List.append_nil]) (fun x => by first | rfl | simp only [ins_self, ins_ne D (show 9 ≠ 11 by decide), upd_self, e11, cond_true, cond_false, List.cons_append, List.nil_append, List.append_nil]) (fun x => rfl) (OpR.lit rfl rfl rfl rfl rfl rfl rfl)
    refine OpsS.cons' true ?_ (fun _ _ _ _ _ _ _ => rfl) ?_
    · intro D env2 hA
      have e11 : D 11 = false := hA.no 11 _ rfl rfl
      exact OpS.yes (o0 := [.var (blk p1) [.val (.slice none 0 0), .val (.int .i64 0)] 27]) (o1 := fun x => [.var (blk p1) [.val (.slice none 0 0), .val (.int .i64 0)] 27]) (d := fun x => .agg [.sl 2 (List.map e_arena_Span x5.fL), .val (.int .i64 x5.fN)]) (Want.plain rfl) (by first | rfl | simp only [e11, cond_true, cond_false, List.cons_append, List.nil_append, List.append_nil]) (fun x => by first | rfl | simp only [ins_self, ins_ne D (show 10 ≠ 11 by decide), upd_self, e11, cond_true, cond_false, List.cons_append, List.nil_append, List.append_nil]) (fun x => rfl) (OpR.call0 fn28 (piece_Concat_c hx5) rfl)
    refine OpsS.cons' true ?_ (fun _ _ _ _ _ _ _ => rfl) ?_
    · intro D env2 hA
      exact OpS.yes (o0 := [.var (blk p1) [.val (.slice none 0 0), .val (.int .i64 0)] 27]) (o1 := fun x => [.var (blk p1) [.sl 2 (List.map e_arena_Span x5.fL), .val (.int .i64 x5.fN)] 27]) (d := fun x => .dead) (Want.plain rfl) (by first | rfl | simp only [hA.me, cond_true, cond_false, List.cons_append, List.nil_append, List.append_nil]) (fun x => by first | rfl | simp only [ins_self, upd_self, hA.me, cond_true, cond_false, List.cons_append, List.nil_append, List.append_nil]) (fun x => rfl) (OpR.store 0 rfl rfl rfl rfl rfl rfl rfl rfl)
    exact trivial
  · intro env2
    show T X _ _ _
    refine T.ret ?_
    obtain rfl := Option.some.inj h0
    exact PostG.retP (ks := []) (Gst.only [6] rfl) undef (ResL.cons (ResV.var 0 rfl rfl rfl rfl) ResL.nil) rfl rfl rfl rfl
noncomputable def ref04_Concat.l1 (x13 : List Int) (s17 : Int × (List Int)) : Option (Lp (Int × (List Int)) (List Int)) :=
  if s17.1 < (x13.length : Int) then
    bnd (idx x13 s17.1) fun x26 =>
    bnd (app 8 s17.2 [x26]) fun x27 =>
    some (Lp.next (w64 (s17.1 + 1), x27))
  else
    some (Lp.done s17.2)
noncomputable def ref04_Concat.l2 (a0 : List (List Int)) (s4 : Int × (List Int)) : Option (Lp (Int × (List Int)) (List Int)) :=
  if s4.1 < (a0.length : Int) then
    bnd (idx a0 s4.1) fun x13 =>
    bnd (loop (ref04_Concat.l1 x13) (0, s4.2) : Option (List Int)) fun t14 =>
    some (Lp.next (w64 (s4.1 + 1), t14))
  else
    some (Lp.done s4.2)
noncomputable def ref04_Concat (a0 : List (List Int)) : Option (List Int) :=
  bnd (loop (ref04_Concat.l2 a0) (0, []) : Option (List Int)) fun t1 =>
  some t1
set_option maxHeartbeats 4000000 in
theorem ref04_Concat_c {a0 : List (List Int)} {res : (List Int)} (h0 : ref04_Concat a0 = some res) : CallF X 29 [.sl 1 (List.map e_sl31 a0)] [] (fun x => .sl 1 (List.map (eI .i64) res)) (fun x => []) := by
  unfold ref04_Concat at h0
  refine CallF.mkG (X := X) Try.func29 rfl rfl Try.ntmps29 rfl rfl ?_
  refine T.seq ?_
  refine T.region ?_
  refine TL.op1 (OpR.pure rfl) rfl ?_
  refine TL.nil ?_
  show T X _ _ _
  refine T.seq ?_
  refine T.region ?_
  refine TL.op1 (OpR.pure rfl) rfl ?_
  refine TL.nil ?_
  show T X _ _ _
  refine T.seq ?_
  refine T.seq ?_
  refine T.region ?_
  refine TL.op1 (OpR.pure rfl) rfl ?_
  refine TL.op1 (OpR.cast (OpR.pure rfl) (intE (lenM _ _))) rfl ?_
  refine TL.op1 (OpR.pure rfl) rfl ?_
  refine TL.nil ?_
  show T X _ _ _
  obtain ⟨t1, ht1, h0⟩ := bnd_some h0
  refine T.cutC (fun S' => ∃ y2 : Value, S' = ⟨[(3, .val y2), (2, .val (.slice none 0 0))], [.row y2 (List.map (eI .i64) t1) 1 3], 27⟩) (fun _ h => h) ?_ ?_
  · refine T.block ?_
    obtain ⟨n5, n10⟩ := loop_some ht1
    refine T.loop (fun n S' => ∃ S'', Gst S' S'' ∧ ∃ y3 : Value, ∃ s4 : Int × (List Int), S'' = ⟨[(10, .val (.int .i64 s4.1)), (9, .val (.int .i64 (a0.length : Int))), (8, .sl 1 (List.map e_sl31 a0)), (3, .val y3), (2, .val (.slice none 0 0))], [.row y3 (List.map (eI .i64) s4.2) 1 3], 27⟩ ∧ iter (ref04_Concat.l2 a0) n s4 = some t1) n5 ?_ ?_
    · exact ⟨_, Gst.trans (Gst.only [2, 3, 8, 9, 10] rfl) (Gst.nilRow (ow := []) 1 3 rfl), (.slice none 0 0), (0, []), rfl, n10⟩
    rintro n5 _ ⟨_, g, y3, s4, rfl, i9⟩
    refine T.ghost g ?_
    obtain ⟨m6, q7, rfl, q8, i9⟩ := iter_succ i9
    unfold ref04_Concat.l2 at q8
    refine T.seq ?_
    refine T.region ?_
    refine TL.op1 (OpR.pure rfl) rfl ?_
    refine TL.nil ?_
    show T X _ _ _
    refine T.seq ?_
    rcases ite_some q8 with ⟨c12, q8⟩ | ⟨c12, q8⟩
    · refine T.condT rfl (decide_eq_true c12) ?_
      refine T.skip ?_
      show T X _ _ _
      refine T.seq ?_
      refine T.block ?_
      refine T.seq ?_
      refine T.region ?_
      obtain ⟨x13, hx13, q8⟩ := bnd_some q8
      refine TL.op1 (OpR.indexM e_sl31 hx13 rfl rfl rfl rfl rfl) rfl ?_
      refine TL.op1 (OpR.pure rfl) rfl ?_
      refine TL.op1 (OpR.pure rfl) rfl ?_
      refine TL.nil ?_
      show T X _ _ _
      refine T.seq ?_
      refine T.region ?_
      refine TL.op1 (OpR.pure rfl) rfl ?_
      refine TL.op1 (OpR.cast (OpR.pure rfl) (intE (lenM _ _))) rfl ?_
      refine TL.op1 (OpR.pure rfl) rfl ?_
      refine TL.nil ?_
      show T X _ _ _
      obtain ⟨t14, ht14, q8⟩ := bnd_some q8
      refine T.cutC (fun S' => ∃ y15 : Value, S' = ⟨[(10, .val (.int .i64 s4.1)), (9, .val (.int .i64 (a0.length : Int))), (8, .sl 1 (List.map e_sl31 a0)), (3, .val y15), (2, .val (.slice none 0 0))], [.row y15 (List.map (eI .i64) t14) 1 3], 27⟩) (fun _ h => h) ?_ ?_
      · refine T.block ?_
        obtain ⟨n18, n23⟩ := loop_some ht14
        refine T.loop (fun n S' => ∃ S'', Gst S' S'' ∧ ∃ y16 : Value, ∃ s17 : Int × (List Int), S'' = ⟨[(16, .val (.int .i64 s17.1)), (15, .val (.int .i64 (x13.length : Int))), (14, .sl 1 (List.map (eI .i64) x13)), (10, .val (.int .i64 s4.1)), (9, .val (.int .i64 (a0.length : Int))), (8, .sl 1 (List.map e_sl31 a0)), (3, .val y16), (2, .val (.slice none 0 0))], [.row y16 (List.map (eI .i64) s17.2) 1 3], 27⟩ ∧ iter (ref04_Concat.l1 x13) n s17 = some t14) n18 ?_ ?_
        · exact ⟨_, Gst.only [2, 3, 8, 9, 10, 14, 15, 16] rfl, y3, (0, s4.2), rfl, n23⟩
        rintro n18 _ ⟨_, g, y16, s17, rfl, i22⟩
        refine T.ghost g ?_
        obtain ⟨m19, q20, rfl, q21, i22⟩ := iter_succ i22
        unfold ref04_Concat.l1 at q21
        refine T.seq ?_
        refine T.region ?_
        refine TL.op1 (OpR.pure rfl) rfl ?_
        refine TL.nil ?_
        show T X _ _ _
        refine T.seq ?_
        rcases ite_some q21 with ⟨c25, q21⟩ | ⟨c25, q21⟩
        · refine T.condT rfl (decide_eq_true c25) ?_
          refine T.skip ?_
          show T X _ _ _
          refine T.seq ?_
          refine T.block ?_
          refine T.seq ?_
          refine T.region ?_
          obtain ⟨x26, hx26, q21⟩ := bnd_some q21
          refine TL.op1 (OpR.indexM (eI .i64) hx26 rfl rfl rfl rfl rfl) rfl ?_
          refine TL.op1 (OpR.pure rfl) rfl ?_
          refine TL.op1 (OpR.pure rfl) rfl ?_
          refine TL.nil ?_
          show T X _ _ _
          refine T.region ?_
          refine TL.op1 (OpR.pure rfl) rfl ?_
          refine TL.op1 (OpR.pure rfl) rfl ?_
          refine TL.op1 (OpR.lit rfl rfl rfl rfl rfl rfl rfl) rfl ?_
          obtain ⟨x27, hx27, q21⟩ := bnd_some q21
          refine TL.op (OpR.appendM (m := [x26]) (eI .i64) 0 hx27 rfl rfl rfl rfl rfl rfl rfl rfl rfl (fun _ => rfl)) rfl (fun v28 => ?_)
          refine TL.op1 (OpR.pure rfl) rfl ?_
          refine TL.nil ?_
          show T X _ _ _
          refine T.region ?_
          refine TL.op1 (OpR.pure rfl) rfl ?_
          refine TL.op1 (OpR.pure rfl) rfl ?_
          refine TL.nil ?_
          obtain rfl := Option.some.inj q21
          exact ⟨m19, Nat.lt_succ_self _, _, Gst.only [2, 3, 8, 9, 10, 14, 15, 16] rfl, v28, (w64 (s17.1 + 1), x27), rfl, i22⟩
        · refine T.condF rfl (decide_eq_false c25) ?_
          refine T.exit ?_
          obtain rfl := Option.some.inj q21
          obtain rfl : _ = _ := i22
          exact ⟨_, Gst.only [2, 3, 8, 9, 10] rfl, y16, rfl⟩
      · rintro _ ⟨y15, rfl⟩
        show T X _ _ _
        refine T.region ?_
        refine TL.op1 (OpR.pure rfl) rfl ?_
        refine TL.op1 (OpR.pure rfl) rfl ?_
        refine TL.nil ?_
        obtain rfl := Option.some.inj q8
        exact ⟨m6, Nat.lt_succ_self _, _, Gst.only [2, 3, 8, 9, 10] rfl, y15, (w64 (s4.1 + 1), t14), rfl, i9⟩
    · refine T.condF rfl (decide_eq_false c12) ?_
      refine T.exit ?_
      obtain rfl := Option.some.inj q8
      obtain rfl : _ = _ := i9
      exact ⟨_, Gst.only [2, 3] rfl, y3, rfl⟩
  · rintro _ ⟨y2, rfl⟩
    show T X _ _ _
    refine T.seq ?_
    refine T.region ?_
    refine TL.op1 (OpR.pure rfl) rfl ?_
    refine TL.op1 (OpR.pure rfl) rfl ?_
    refine TL.nil ?_
    show T X _ _ _
    refine T.ret ?_
    obtain rfl := Option.some.inj h0
    exact PostG.retP (ks := []) (Gst.trans (Gst.only [2] rfl) (Gst.trans (Gst.freezeRow 0 rfl rfl (ReS.cons (Re.base .all) ReS.nil) (ReO.same ReO.nil)) (Gst.pick [] rfl rfl))) undef (ResL.cons (ResV.tmp rfl) ResL.nil) rfl rfl rfl rfl
noncomputable def ref04_Insert (a0 : List Int) (a1 : Int) (a2 : List Int) : Option (List Int) :=
  bnd (ref04_place a0 a1) fun x1 =>
  bnd (cut a0 0 x1) fun x3 =>
  bnd (cut a0 x1 (a0.length : Int)) fun x4 =>
  bnd (ref04_Concat [x3, a2, x4]) fun x5 =>
  some x5
set_option maxHeartbeats 4000000 in
theorem ref04_Insert_c {a0 : List Int} {a1 : Int} {a2 : List Int} {res : (List Int)} (h0 : ref04_Insert a0 a1 a2 = some res) : CallF X 25 [.sl 1 (List.map (eI .i64) a0), .val (.int .i64 a1), .sl 1 (List.map (eI .i64) a2)] [] (fun x => .sl 1 (List.map (eI .i64) res)) (fun x => []) := by
  unfold ref04_Insert at h0
  refine CallF.mkG (X := X) Try.func25 rfl rfl Try.ntmps25 rfl rfl ?_
  refine T.seq ?_
  refine T.region ?_
  refine TL.op1 (OpR.pure rfl) rfl ?_
  refine TL.nil ?_
  show T X _ _ _
  refine T.seq ?_
  refine T.region ?_
  refine TL.op1 (OpR.pure rfl) rfl ?_
  refine TL.op1 (OpR.pure rfl) rfl ?_
  obtain ⟨x1, hx1, h0⟩ := bnd_some h0
  refine TL.op1 (OpR.call0 fn68 (ref04_place_c hx1) rfl) rfl ?_
  refine TL.op1 (OpR.pure rfl) rfl ?_
  refine TL.nil ?_
  show T X _ _ _
  refine T.seq ?_
  obtain ⟨x3, hx3, h0⟩ := bnd_some h0
  obtain ⟨x4, hx4, h0⟩ := bnd_some h0
  obtain ⟨x5, hx5, h0⟩ := bnd_some h0
  refine T.drawQ drawsX [.sl 1 (List.map (eI .i64) a0), .val (.int .i64 x1), .sl 1 (List.map (eI .i64) x3), .sl 1 (List.map (eI .i64) a2), .sl 1 (List.map (eI .i64) a0), .val (.int .i64 x1), .sl 1 (List.map (eI .i64) x4), .sl 1 (List.map e_sl31 [x3, a2, x4]), .sl 1 (List.map (eI .i64) x5), .sl 1 (List.map (eI .i64) x5)] [0, 1, 2, 6, 7, 8, 9, 10, 11, 12, 13, 14, 15, 16, 17, 18, 19] (by decide +kernel) rfl ?_ rfl ?_
  · refine OpsQ.yes (Want.plain rfl) rfl (OpR.pure rfl) ?_
    refine OpsQ.yes (Want.plain rfl) rfl (OpR.pure rfl) ?_
    refine OpsQ.yes (Want.plain rfl) rfl (OpR.sliceM (sz := 1) (eI .i64) hx3 rfl rfl rfl rfl BdM.none (BdM.some rfl) rfl) ?_
    refine OpsQ.yes (Want.plain rfl) rfl (OpR.pure rfl) ?_
    refine OpsQ.yes (Want.plain rfl) rfl (OpR.pure rfl) ?_
    refine OpsQ.yes (Want.plain rfl) rfl (OpR.pure rfl) ?_
    refine OpsQ.yes (Want.plain rfl) rfl (OpR.sliceM (sz := 1) (eI .i64) hx4 rfl rfl rfl rfl (BdM.some rfl) BdM.none rfl) ?_
    refine OpsQ.yes (Want.plain rfl) rfl (OpR.lit rfl rfl rfl rfl rfl rfl rfl) ?_
    refine OpsQ.yes (Want.plain rfl) rfl (OpR.call0 fn29 (ref04_Concat_c hx5) rfl) ?_
    refine OpsQ.yes (Want.plain rfl) rfl (OpR.pure rfl) ?_
    exact OpsQ.nil
  · show T X _ _ _
    refine T.ret ?_
    obtain rfl := Option.some.inj h0
    exact PostG.retP (ks := []) (Gst.only [6] rfl) undef (ResL.cons (ResV.tmp rfl) ResL.nil) rfl rfl rfl rfl
noncomputable def ref04_Delete (a0 : List Int) (a1 : Int) (a2 : Int) : Option (List Int) :=
  bnd (ref04_place a0 a1) fun x1 =>
  bnd (ref04_place a0 a2) fun x2 =>
  if x2 ≤ x1 then
    some a0
  else
    bnd (cut a0 0 x1) fun x5 =>
    bnd (cut a0 x2 (a0.length : Int)) fun x6 =>
    bnd (ref04_Concat [x5, x6]) fun x7 =>
    some x7
set_option maxHeartbeats 4000000 in
theorem ref04_Delete_c {a0 : List Int} {a1 : Int} {a2 : Int} {res : (List Int)} (h0 : ref04_Delete a0 a1 a2 = some res) : CallF X 27 [.sl 1 (List.map (eI .i64) a0), .val (.int .i64 a1), .val (.int .i64 a2)] [] (fun x => .sl 1 (List.map (eI .i64) res)) (fun x => []) := by
  unfold ref04_Delete at h0
  refine CallF.mkG (X := X) Try.func27 rfl rfl Try.ntmps27 rfl rfl ?_
  refine T.seq ?_
  refine T.region ?_
  refine TL.op1 (OpR.pure rfl) rfl ?_
  refine TL.nil ?_
  show T X _ _ _
  refine T.seq ?_
  refine T.region ?_
  refine TL.op1 (OpR.pure rfl) rfl ?_
  refine TL.op1 (OpR.pure rfl) rfl ?_
  obtain ⟨x1, hx1, h0⟩ := bnd_some h0
  refine TL.op1 (OpR.call0 fn68 (ref04_place_c hx1) rfl) rfl ?_
  refine TL.op1 (OpR.pure rfl) rfl ?_
  refine TL.op1 (OpR.pure rfl) rfl ?_
  obtain ⟨x2, hx2, h0⟩ := bnd_some h0
  refine TL.op1 (OpR.call0 fn68 (ref04_place_c hx2) rfl) rfl ?_
  refine TL.op1 (OpR.pure rfl) rfl ?_
  refine TL.op1 (OpR.pure rfl) rfl ?_
  refine TL.nil ?_
  show T X _ _ _
  refine T.seq ?_
  refine T.seq ?_
  refine T.region ?_
  refine TL.op1 (OpR.pure rfl) rfl ?_
  refine TL.op1 (OpR.pure rfl) rfl ?_
  refine TL.op1 (OpR.pure rfl) rfl ?_
  refine TL.nil ?_
  show T X _ _ _
  rcases ite_some h0 with ⟨c3, h0⟩ | ⟨c3, h0⟩
  · refine T.condT rfl (decide_eq_true c3) ?_
    refine T.seq ?_
    refine T.region ?_
    refine TL.op1 (OpR.pure rfl) rfl ?_
    refine TL.op1 (OpR.pure rfl) rfl ?_
    refine TL.nil ?_
    show T X _ _ _
    refine T.ret ?_
    obtain rfl := Option.some.inj h0
    exact PostG.retP (ks := []) (Gst.only [6] rfl) undef (ResL.cons (ResV.tmp rfl) ResL.nil) rfl rfl rfl rfl
  · refine T.condF rfl (decide_eq_false c3) ?_
    refine T.skip ?_
    show T X _ _ _
    refine T.seq ?_
    obtain ⟨x5, hx5, h0⟩ := bnd_some h0
    obtain ⟨x6, hx6, h0⟩ := bnd_some h0
    obtain ⟨x7, hx7, h0⟩ := bnd_some h0
    refine T.drawQ drawsX [.sl 1 (List.map (eI .i64) a0), .val (.int .i64 x1), .sl 1 (List.map (eI .i64) x5), .sl 1 (List.map (eI .i64) a0), .val (.int .i64 x2), .sl 1 (List.map (eI .i64) x6), .sl 1 (List.map e_sl31 [x5, x6]), .sl 1 (List.map (eI .i64) x7), .sl 1 (List.map (eI .i64) x7)] [0, 1, 2, 6, 7, 8, 9, 10, 11, 12, 13, 14, 15, 17, 18, 19, 20, 21, 22, 23, 24] (by decide +kernel) rfl ?_ rfl ?_
    · refine OpsQ.yes (Want.plain rfl) rfl (OpR.pure rfl) ?_
      refine OpsQ.yes (Want.plain rfl) rfl (OpR.pure rfl) ?_
      refine OpsQ.yes (Want.plain rfl) rfl (OpR.sliceM (sz := 1) (eI .i64) hx5 rfl rfl rfl rfl BdM.none (BdM.some rfl) rfl) ?_
      refine OpsQ.yes (Want.plain rfl) rfl (OpR.pure rfl) ?_
      refine OpsQ.yes (Want.plain rfl) rfl (OpR.pure rfl) ?_
      refine OpsQ.yes (Want.plain rfl) rfl (OpR.sliceM (sz := 1) (eI .i64) hx6 rfl rfl rfl rfl (BdM.some rfl) BdM.none rfl) ?_
      refine OpsQ.yes (Want.plain rfl) rfl (OpR.lit rfl rfl rfl rfl rfl rfl rfl) ?_
      refine OpsQ.yes (Want.plain rfl) rfl (OpR.call0 fn29 (ref04_Concat_c hx7) rfl) ?_
      refine OpsQ.yes (Want.plain rfl) rfl (OpR.pure rfl) ?_
      exact OpsQ.nil
    · show T X _ _ _
      refine T.ret ?_
      obtain rfl := Option.some.inj h0
      exact PostG.retP (ks := []) (Gst.only [6] rfl) undef (ResL.cons (ResV.tmp rfl) ResL.nil) rfl rfl rfl rfl
noncomputable def law04_PieceCuts (a0 : List arena_Span) (a1 : List arena_Span) (a2 : Int × Int) : Option Bool :=
  bnd (law04_Few a0) fun x2 =>
  bnd (law04_Few a1) fun x3 =>
  bnd (piece_Of x2.1) fun x4 =>
  bnd (piece_Of x3.1) fun x5 =>
  bnd (ref04_Of x2.2) fun x8 =>
  bnd (ref04_Of x3.2) fun x9 =>
  bnd (bnd (piece_Text_Slice x4 a2.1 a2.2) fun x11 =>
  bnd (ref04_Slice x8 a2.1 a2.2) fun x12 =>
  bnd (law04_like x11 x12) fun x13 =>
  if x13 = true then
    bnd (piece_Text_Insert x4 a2.1 x5) fun x15 =>
    bnd (ref04_Insert x8 a2.1 x9) fun x16 =>
    bnd (law04_like x15 x16) fun x17 =>
    if x17 = true then
      bnd (piece_Text_Delete x4 a2.1 a2.2) fun x19 =>
      bnd (ref04_Delete x8 a2.1 a2.2) fun x20 =>
      bnd (law04_like x19 x20) fun x21 =>
      if x21 = true then
        bnd (piece_Concat [x4, x5, x4]) fun x23 =>
        bnd (ref04_Concat [x8, x9, x8]) fun x24 =>
        bnd (law04_like x23 x24) fun x25 =>
        some x25
      else
        some false
    else
      some false
  else
    some false : Option Bool) fun t10 =>
  bnd (if t10 = true then
    bnd (law04_like x4 x8) fun x28 =>
    if x28 = true then
      bnd (law04_awake) fun x30 =>
      some x30
    else
      some false
  else
    some false : Option Bool) fun t26 =>
  some t26
set_option maxHeartbeats 4000000 in
theorem law04_PieceCuts_c {a0 : List arena_Span} {a1 : List arena_Span} {a2 : Int × Int} {res : Bool} (h0 : law04_PieceCuts a0 a1 a2 = some res) : CallF X 4 [.sl 2 (List.map e_arena_Span a0), .sl 2 (List.map e_arena_Span a1), .agg [.val (.int .i64 a2.1), .val (.int .i64 a2.2)]] [] (fun x => .val (.bool res)) (fun x => []) := by
  unfold law04_PieceCuts at h0
  refine CallF.mkG (X := X) Try.func4 rfl rfl Try.ntmps4 rfl rfl ?_
  refine T.seq ?_
  refine T.region ?_
  refine TL.op1 (OpR.boxImm rfl rfl) rfl ?_
  refine TL.op1 (OpR.pure rfl) rfl ?_
  refine TL.nil ?_
  show T X _ _ _
  refine T.seq ?_
  refine T.drawQ drawsX [.nod [.val (.int .i64 a2.1), .val (.int .i64 a2.2)], .val (.int .i64 a2.1), .nod [.val (.int .i64 a2.2)], .val (.int .i64 a2.2), .val (.int .i64 a2.1), .val (.int .i64 a2.2)] [0, 1, 2, 5, 6, 7, 8, 18, 19, 20, 21] (by decide +kernel) rfl ?_ rfl ?_
  · refine OpsQ.yes (Want.plain rfl) rfl (OpR.indexNod rfl rfl rfl rfl rfl ⟨by decide, by decide⟩ rfl) ?_
    refine OpsQ.yes (Want.plain rfl) rfl (OpR.pure rfl) ?_
    refine OpsQ.yes (Want.plain rfl) rfl (OpR.indexNod rfl rfl rfl rfl rfl ⟨by decide, by decide⟩ rfl) ?_
    refine OpsQ.yes (Want.plain rfl) rfl (OpR.pure rfl) ?_
    refine OpsQ.yes (Want.plain rfl) rfl (OpR.pure rfl) ?_
    refine OpsQ.yes (Want.plain rfl) rfl (OpR.pure rfl) ?_
    exact OpsQ.nil
  · show T X _ _ _
    refine T.seq ?_
    refine T.region ?_
    refine TL.op1 (OpR.pure rfl) rfl ?_
    obtain ⟨x2, hx2, h0⟩ := bnd_some h0
    refine TL.op1 (OpR.call0 fn14 (law04_Few_c hx2) rfl) rfl ?_
    refine TL.op1 (OpR.pure rfl) rfl ?_
    refine TL.op1 (OpR.pure rfl) rfl ?_
    refine TL.op1 (OpR.pure rfl) rfl ?_
    refine TL.op1 (OpR.pure rfl) rfl ?_
    refine TL.op1 (OpR.pure rfl) rfl ?_
    refine TL.nil ?_
    show T X _ _ _
    refine T.seq ?_
    refine T.region ?_
    refine TL.op1 (OpR.pure rfl) rfl ?_
    obtain ⟨x3, hx3, h0⟩ := bnd_some h0
    refine TL.op1 (OpR.call0 fn14 (law04_Few_c hx3) rfl) rfl ?_
    refine TL.op1 (OpR.pure rfl) rfl ?_
    refine TL.op1 (OpR.pure rfl) rfl ?_
    refine TL.op1 (OpR.pure rfl) rfl ?_
    refine TL.op1 (OpR.pure rfl) rfl ?_
    refine TL.op1 (OpR.pure rfl) rfl ?_
    refine TL.nil ?_
    show T X _ _ _
    refine T.seq ?_
    refine T.region ?_
    refine TL.op1 (OpR.pure rfl) rfl ?_
    obtain ⟨x4, hx4, h0⟩ := bnd_some h0
    refine TL.op1 (OpR.call0 fn15 (piece_Of_c hx4) rfl) rfl ?_
    refine TL.op1 (OpR.pure rfl) rfl ?_
    obtain ⟨x5, hx5, h0⟩ := bnd_some h0
    refine TL.op1 (OpR.call0 fn15 (piece_Of_c hx5) rfl) rfl ?_
    refine TL.op (OpR.alloc rfl rfl (fun _ => rfl)) rfl (fun p6 => ?_)
    refine TL.op (OpR.alloc rfl rfl (fun _ => rfl)) rfl (fun p7 => ?_)
    refine TL.op0 (OpR.store 0 rfl rfl rfl rfl rfl rfl rfl rfl) ?_
    refine TL.op0 (OpR.store 1 rfl rfl rfl rfl rfl rfl rfl rfl) ?_
    refine TL.nil ?_
    show T X _ _ _
    refine T.seq ?_
    refine T.region ?_
    refine TL.op1 (OpR.pure rfl) rfl ?_
    obtain ⟨x8, hx8, h0⟩ := bnd_some h0
    refine TL.op1 (OpR.call0 fn17 (ref04_Of_c hx8) rfl) rfl ?_
    refine TL.op1 (OpR.pure rfl) rfl ?_
    obtain ⟨x9, hx9, h0⟩ := bnd_some h0
    refine TL.op1 (OpR.call0 fn17 (ref04_Of_c hx9) rfl) rfl ?_
    refine TL.op1 (OpR.pure rfl) rfl ?_
    refine TL.op1 (OpR.pure rfl) rfl ?_
    refine TL.nil ?_
    show T X _ _ _
    refine T.seq ?_
    obtain ⟨t10, ht10, h0⟩ := bnd_some h0
    refine T.cutC (fun S' => S' = ⟨[(17, .val (.bool t10)), (15, .sl 1 (List.map (eI .i64) x8)), (13, .val (.pointer (some ⟨(blk p6), 0, none⟩))), (6, .val (.bool false))], [.var (blk p6) [.sl 2 (List.map e_arena_Span x4.fL), .val (.int .i64 x4.fN)] 27], 93⟩) (fun _ h => h) ?_ ?_
    · refine T.region ?_
      refine TL.op1 (OpR.loadPtr 0 rfl rfl rfl rfl) rfl ?_
      refine TL.op1 (OpR.pure rfl) rfl ?_
      refine TL.op1 (OpR.pure rfl) rfl ?_
      obtain ⟨x11, hx11, ht10⟩ := bnd_some ht10
      refine TL.op1 (OpR.call0 fn22 (piece_Text_Slice_c hx11) rfl) rfl ?_
      refine TL.op1 (OpR.pure rfl) rfl ?_
      refine TL.op1 (OpR.pure rfl) rfl ?_
      refine TL.op1 (OpR.pure rfl) rfl ?_
      obtain ⟨x12, hx12, ht10⟩ := bnd_some ht10
      refine TL.op1 (OpR.call0 fn23 (ref04_Slice_c hx12) rfl) rfl ?_
      obtain ⟨x13, hx13, ht10⟩ := bnd_some ht10
      refine TL.op1 (OpR.call0 fn16 (law04_like_c hx13) rfl) rfl ?_
      refine TL.op1 (OpR.pure rfl) rfl ?_
      rcases ite_some ht10 with ⟨c14, ht10⟩ | ⟨c14, ht10⟩
      · refine TL.on rfl rfl rfl rfl (c14) ?_
        refine TL.op1 (OpR.loadPtr 0 rfl rfl rfl rfl) rfl ?_
        refine TL.on rfl rfl rfl rfl (c14) ?_
        refine TL.op1 (OpR.pure rfl) rfl ?_
        refine TL.on rfl rfl rfl rfl (c14) ?_
        refine TL.op1 (OpR.loadPtr 1 rfl rfl rfl rfl) rfl ?_
        refine TL.on rfl rfl rfl rfl (c14) ?_
        obtain ⟨x15, hx15, ht10⟩ := bnd_some ht10
        refine TL.op1 (OpR.call0 fn24 (piece_Text_Insert_c hx15) rfl) rfl ?_
        refine TL.on rfl rfl rfl rfl (c14) ?_
        refine TL.op1 (OpR.pure rfl) rfl ?_
        refine TL.on rfl rfl rfl rfl (c14) ?_
        refine TL.op1 (OpR.pure rfl) rfl ?_
        refine TL.on rfl rfl rfl rfl (c14) ?_
        refine TL.op1 (OpR.pure rfl) rfl ?_
        refine TL.on rfl rfl rfl rfl (c14) ?_
        obtain ⟨x16, hx16, ht10⟩ := bnd_some ht10
        refine TL.op1 (OpR.call0 fn25 (ref04_Insert_c hx16) rfl) rfl ?_
        refine TL.on rfl rfl rfl rfl (c14) ?_
        obtain ⟨x17, hx17, ht10⟩ := bnd_some ht10
        refine TL.op1 (OpR.call0 fn16 (law04_like_c hx17) rfl) rfl ?_
        refine TL.op1 (OpR.pickT rfl (c14) rfl) rfl ?_
        refine TL.op1 (OpR.pure rfl) rfl ?_
        rcases ite_some ht10 with ⟨c18, ht10⟩ | ⟨c18, ht10⟩
        · refine TL.on rfl rfl rfl rfl (c18) ?_
          refine TL.op1 (OpR.loadPtr 0 rfl rfl rfl rfl) rfl ?_
          refine TL.on rfl rfl rfl rfl (c18) ?_
          refine TL.op1 (OpR.pure rfl) rfl ?_
          refine TL.on rfl rfl rfl rfl (c18) ?_
          refine TL.op1 (OpR.pure rfl) rfl ?_
          refine TL.on rfl rfl rfl rfl (c18) ?_
          obtain ⟨x19, hx19, ht10⟩ := bnd_some ht10
          refine TL.op1 (OpR.call0 fn26 (piece_Text_Delete_c hx19) rfl) rfl ?_
          refine TL.on rfl rfl rfl rfl (c18) ?_
          refine TL.op1 (OpR.pure rfl) rfl ?_
          refine TL.on rfl rfl rfl rfl (c18) ?_
          refine TL.op1 (OpR.pure rfl) rfl ?_
          refine TL.on rfl rfl rfl rfl (c18) ?_
          refine TL.op1 (OpR.pure rfl) rfl ?_
          refine TL.on rfl rfl rfl rfl (c18) ?_
          obtain ⟨x20, hx20, ht10⟩ := bnd_some ht10
          refine TL.op1 (OpR.call0 fn27 (ref04_Delete_c hx20) rfl) rfl ?_
          refine TL.on rfl rfl rfl rfl (c18) ?_
          obtain ⟨x21, hx21, ht10⟩ := bnd_some ht10
          refine TL.op1 (OpR.call0 fn16 (law04_like_c hx21) rfl) rfl ?_
          refine TL.op1 (OpR.pickT rfl (c18) rfl) rfl ?_
          refine TL.op1 (OpR.pure rfl) rfl ?_
          rcases ite_some ht10 with ⟨c22, ht10⟩ | ⟨c22, ht10⟩
          · refine TL.on rfl rfl rfl rfl (c22) ?_
            refine TL.op1 (OpR.loadPtr 0 rfl rfl rfl rfl) rfl ?_
            refine TL.on rfl rfl rfl rfl (c22) ?_
            refine TL.op1 (OpR.loadPtr 1 rfl rfl rfl rfl) rfl ?_
            refine TL.on rfl rfl rfl rfl (c22) ?_
            refine TL.op1 (OpR.loadPtr 0 rfl rfl rfl rfl) rfl ?_
            refine TL.on rfl rfl rfl rfl (c22) ?_
            refine TL.op1 (OpR.lit rfl rfl rfl rfl rfl rfl rfl) rfl ?_
            refine TL.on rfl rfl rfl rfl (c22) ?_
            obtain ⟨x23, hx23, ht10⟩ := bnd_some ht10
            refine TL.op1 (OpR.call0 fn28 (piece_Concat_c hx23) rfl) rfl ?_
            refine TL.on rfl rfl rfl rfl (c22) ?_
            refine TL.op1 (OpR.pure rfl) rfl ?_
            refine TL.on rfl rfl rfl rfl (c22) ?_
            refine TL.op1 (OpR.pure rfl) rfl ?_
            refine TL.on rfl rfl rfl rfl (c22) ?_
            refine TL.op1 (OpR.pure rfl) rfl ?_
            refine TL.on rfl rfl rfl rfl (c22) ?_
            refine TL.op1 (OpR.lit rfl rfl rfl rfl rfl rfl rfl) rfl ?_
            refine TL.on rfl rfl rfl rfl (c22) ?_
            obtain ⟨x24, hx24, ht10⟩ := bnd_some ht10
            refine TL.op1 (OpR.call0 fn29 (ref04_Concat_c hx24) rfl) rfl ?_
            refine TL.on rfl rfl rfl rfl (c22) ?_
            obtain ⟨x25, hx25, ht10⟩ := bnd_some ht10
            refine TL.op1 (OpR.call0 fn16 (law04_like_c hx25) rfl) rfl ?_
            refine TL.op1 (OpR.pickT rfl (c22) rfl) rfl ?_
            refine TL.op1 (OpR.pure rfl) rfl ?_
            refine TL.nil ?_
            obtain rfl := Option.some.inj ht10
            exact ⟨_, Gst.trans (Gst.only [6, 13, 15, 17] rfl) (Gst.pick [0] rfl rfl), rfl⟩
          · refine TL.off rfl rfl rfl rfl (eq_false_of_ne_true c22) rfl rfl ?_
            refine TL.off rfl rfl rfl rfl (eq_false_of_ne_true c22) rfl rfl ?_
            refine TL.off rfl rfl rfl rfl (eq_false_of_ne_true c22) rfl rfl ?_
            refine TL.off rfl rfl rfl rfl (eq_false_of_ne_true c22) rfl rfl ?_
            refine TL.off rfl rfl rfl rfl (eq_false_of_ne_true c22) rfl rfl ?_
            refine TL.off rfl rfl rfl rfl (eq_false_of_ne_true c22) rfl rfl ?_
            refine TL.off rfl rfl rfl rfl (eq_false_of_ne_true c22) rfl rfl ?_
            refine TL.off rfl rfl rfl rfl (eq_false_of_ne_true c22) rfl rfl ?_
            refine TL.off rfl rfl rfl rfl (eq_false_of_ne_true c22) rfl rfl ?_
            refine TL.off rfl rfl rfl rfl (eq_false_of_ne_true c22) rfl rfl ?_
            refine TL.off rfl rfl rfl rfl (eq_false_of_ne_true c22) rfl rfl ?_
            refine TL.op1 (OpR.pickF rfl (eq_false_of_ne_true c22) rfl) rfl ?_
            refine TL.op1 (OpR.pure rfl) rfl ?_
            refine TL.nil ?_
            obtain rfl := Option.some.inj ht10
            exact ⟨_, Gst.trans (Gst.only [6, 13, 15, 17] rfl) (Gst.pick [0] rfl rfl), rfl⟩
        · refine TL.off rfl rfl rfl rfl (eq_false_of_ne_true c18) rfl rfl ?_
          refine TL.off rfl rfl rfl rfl (eq_false_of_ne_true c18) rfl rfl ?_
          refine TL.off rfl rfl rfl rfl (eq_false_of_ne_true c18) rfl rfl ?_
          refine TL.off rfl rfl rfl rfl (eq_false_of_ne_true c18) rfl rfl ?_
          refine TL.off rfl rfl rfl rfl (eq_false_of_ne_true c18) rfl rfl ?_
          refine TL.off rfl rfl rfl rfl (eq_false_of_ne_true c18) rfl rfl ?_
          refine TL.off rfl rfl rfl rfl (eq_false_of_ne_true c18) rfl rfl ?_
          refine TL.off rfl rfl rfl rfl (eq_false_of_ne_true c18) rfl rfl ?_
          refine TL.off rfl rfl rfl rfl (eq_false_of_ne_true c18) rfl rfl ?_
          refine TL.op1 (OpR.pickF rfl (eq_false_of_ne_true c18) rfl) rfl ?_
          refine TL.op1 (OpR.pure rfl) rfl ?_
          refine TL.off rfl rfl rfl rfl rfl rfl rfl ?_
          refine TL.off rfl rfl rfl rfl rfl rfl rfl ?_
          refine TL.off rfl rfl rfl rfl rfl rfl rfl ?_
          refine TL.off rfl rfl rfl rfl rfl rfl rfl ?_
          refine TL.off rfl rfl rfl rfl rfl rfl rfl ?_
          refine TL.off rfl rfl rfl rfl rfl rfl rfl ?_
          refine TL.off rfl rfl rfl rfl rfl rfl rfl ?_
          refine TL.off rfl rfl rfl rfl rfl rfl rfl ?_
          refine TL.off rfl rfl rfl rfl rfl rfl rfl ?_
          refine TL.off rfl rfl rfl rfl rfl rfl rfl ?_
          refine TL.off rfl rfl rfl rfl rfl rfl rfl ?_
          refine TL.op1 (OpR.pickF rfl rfl rfl) rfl ?_
          refine TL.op1 (OpR.pure rfl) rfl ?_
          refine TL.nil ?_
          obtain rfl := Option.some.inj ht10
          exact ⟨_, Gst.trans (Gst.only [6, 13, 15, 17] rfl) (Gst.pick [0] rfl rfl), rfl⟩
      · refine TL.off rfl rfl rfl rfl (eq_false_of_ne_true c14) rfl rfl ?_
        refine TL.off rfl rfl rfl rfl (eq_false_of_ne_true c14) rfl rfl ?_
        refine TL.off rfl rfl rfl rfl (eq_false_of_ne_true c14) rfl rfl ?_
        refine TL.off rfl rfl rfl rfl (eq_false_of_ne_true c14) rfl rfl ?_
        refine TL.off rfl rfl rfl rfl (eq_false_of_ne_true c14) rfl rfl ?_
        refine TL.off rfl rfl rfl rfl (eq_false_of_ne_true c14) rfl rfl ?_
        refine TL.off rfl rfl rfl rfl (eq_false_of_ne_true c14) rfl rfl ?_
        refine TL.off rfl rfl rfl rfl (eq_false_of_ne_true c14) rfl rfl ?_
        refine TL.off rfl rfl rfl rfl (eq_false_of_ne_true c14) rfl rfl ?_
        refine TL.op1 (OpR.pickF rfl (eq_false_of_ne_true c14) rfl) rfl ?_
        refine TL.op1 (OpR.pure rfl) rfl ?_
        refine TL.off rfl rfl rfl rfl rfl rfl rfl ?_
        refine TL.off rfl rfl rfl rfl rfl rfl rfl ?_
        refine TL.off rfl rfl rfl rfl rfl rfl rfl ?_
        refine TL.off rfl rfl rfl rfl rfl rfl rfl ?_
        refine TL.off rfl rfl rfl rfl rfl rfl rfl ?_
        refine TL.off rfl rfl rfl rfl rfl rfl rfl ?_
        refine TL.off rfl rfl rfl rfl rfl rfl rfl ?_
        refine TL.off rfl rfl rfl rfl rfl rfl rfl ?_
        refine TL.off rfl rfl rfl rfl rfl rfl rfl ?_
        refine TL.op1 (OpR.pickF rfl rfl rfl) rfl ?_
        refine TL.op1 (OpR.pure rfl) rfl ?_
        refine TL.off rfl rfl rfl rfl rfl rfl rfl ?_
        refine TL.off rfl rfl rfl rfl rfl rfl rfl ?_
        refine TL.off rfl rfl rfl rfl rfl rfl rfl ?_
        refine TL.off rfl rfl rfl rfl rfl rfl rfl ?_
        refine TL.off rfl rfl rfl rfl rfl rfl rfl ?_
        refine TL.off rfl rfl rfl rfl rfl rfl rfl ?_
        refine TL.off rfl rfl rfl rfl rfl rfl rfl ?_
        refine TL.off rfl rfl rfl rfl rfl rfl rfl ?_
        refine TL.off rfl rfl rfl rfl rfl rfl rfl ?_
        refine TL.off rfl rfl rfl rfl rfl rfl rfl ?_
        refine TL.off rfl rfl rfl rfl rfl rfl rfl ?_
        refine TL.op1 (OpR.pickF rfl rfl rfl) rfl ?_
        refine TL.op1 (OpR.pure rfl) rfl ?_
        refine TL.nil ?_
        obtain rfl := Option.some.inj ht10
        exact ⟨_, Gst.trans (Gst.only [6, 13, 15, 17] rfl) (Gst.pick [0] rfl rfl), rfl⟩
    · rintro _ rfl
      show T X _ _ _
      refine T.seq ?_
      obtain ⟨t26, ht26, h0⟩ := bnd_some h0
      refine T.cutC (fun S' => S' = ⟨[(6, .val (.bool t26))], [], 93⟩) (fun _ h => h) ?_ ?_
      · refine T.region ?_
        refine TL.op1 (OpR.pure rfl) rfl ?_
        refine TL.op1 (OpR.pure rfl) rfl ?_
        rcases ite_some ht26 with ⟨c27, ht26⟩ | ⟨c27, ht26⟩
        · refine TL.on rfl rfl rfl rfl (c27) ?_
          refine TL.op1 (OpR.loadPtr 0 rfl rfl rfl rfl) rfl ?_
          refine TL.on rfl rfl rfl rfl (c27) ?_
          refine TL.op1 (OpR.pure rfl) rfl ?_
          refine TL.on rfl rfl rfl rfl (c27) ?_
          obtain ⟨x28, hx28, ht26⟩ := bnd_some ht26
          refine TL.op1 (OpR.call0 fn16 (law04_like_c hx28) rfl) rfl ?_
          refine TL.op1 (OpR.pickT rfl (c27) rfl) rfl ?_
          refine TL.op1 (OpR.pure rfl) rfl ?_
          rcases ite_some ht26 with ⟨c29, ht26⟩ | ⟨c29, ht26⟩
          · refine TL.on rfl rfl rfl rfl (c29) ?_
            obtain ⟨x30, hx30, ht26⟩ := bnd_some ht26
            refine TL.op1 (OpR.call0 fn21 (law04_awake_c hx30) rfl) rfl ?_
            refine TL.op1 (OpR.pickT rfl (c29) rfl) rfl ?_
            refine TL.op1 (OpR.pure rfl) rfl ?_
            refine TL.nil ?_
            obtain rfl := Option.some.inj ht26
            exact ⟨_, Gst.trans (Gst.only [6] rfl) (Gst.pick [] rfl rfl), rfl⟩
          · refine TL.off rfl rfl rfl rfl (eq_false_of_ne_true c29) rfl rfl ?_
            refine TL.op1 (OpR.pickF rfl (eq_false_of_ne_true c29) rfl) rfl ?_
            refine TL.op1 (OpR.pure rfl) rfl ?_
            refine TL.nil ?_
            obtain rfl := Option.some.inj ht26
            exact ⟨_, Gst.trans (Gst.only [6] rfl) (Gst.pick [] rfl rfl), rfl⟩
        · refine TL.off rfl rfl rfl rfl (eq_false_of_ne_true c27) rfl rfl ?_
          refine TL.off rfl rfl rfl rfl (eq_false_of_ne_true c27) rfl rfl ?_
          refine TL.off rfl rfl rfl rfl (eq_false_of_ne_true c27) rfl rfl ?_
          refine TL.op1 (OpR.pickF rfl (eq_false_of_ne_true c27) rfl) rfl ?_
          refine TL.op1 (OpR.pure rfl) rfl ?_
          refine TL.off rfl rfl rfl rfl rfl rfl rfl ?_
          refine TL.op1 (OpR.pickF rfl rfl rfl) rfl ?_
          refine TL.op1 (OpR.pure rfl) rfl ?_
          refine TL.nil ?_
          obtain rfl := Option.some.inj ht26
          exact ⟨_, Gst.trans (Gst.only [6] rfl) (Gst.pick [] rfl rfl), rfl⟩
      · rintro _ rfl
        show T X _ _ _
        refine T.ret ?_
        obtain rfl := Option.some.inj h0
        exact PostG.retP (ks := []) (Gst.only [6] rfl) undef (ResL.cons (ResV.tmp rfl) ResL.nil) rfl rfl rfl rfl
noncomputable def law04_PieceBack (a0 : List arena_Span) (a1 : List arena_Span) (a2 : Int) : Option Bool :=
  bnd (law04_Few a0) fun x1 =>
  bnd (law04_Few a1) fun x2 =>
  bnd (piece_Of x1.1) fun x3 =>
  bnd (piece_Of x2.1) fun x4 =>
  bnd (if a2 < 0 then
    some 0
  else
    some a2 : Option Int) fun t7 =>
  bnd (piece_Text_Len x3) fun x9 =>
  bnd (if t7 > x9 then
    bnd (piece_Text_Len x3) fun x12 =>
    some x12
  else
    some t7 : Option Int) fun t10 =>
  bnd (piece_Text_Insert x3 a2 x4) fun x13 =>
  bnd (bnd (piece_Text_Len x13) fun x17 =>
  bnd (piece_Text_Len x3) fun x18 =>
  bnd (piece_Text_Len x4) fun x19 =>
  if x17 = (w64 (x18 + x19)) then
    bnd (piece_Text_Len x4) fun x21 =>
    bnd (piece_Text_Delete x13 t10 (w64 (t10 + x21))) fun x22 =>
    bnd (piece_Same x22 x3) fun x23 =>
    if x23 = true then
      bnd (piece_Text_Len x4) fun x25 =>
      bnd (piece_Text_Slice x13 t10 (w64 (t10 + x25))) fun x26 =>
      bnd (piece_Same x26 x4) fun x27 =>
      if x27 = true then
        bnd (piece_Text_Slice x3 0 a2) fun x29 =>
        bnd (piece_Text_Len x3) fun x30 =>
        bnd (piece_Text_Slice x3 a2 x30) fun x31 =>
        bnd (piece_Concat [x29, x31]) fun x32 =>
        bnd (piece_Same x32 x3) fun x33 =>
        if x33 = true then
          bnd (law04_awake) fun x35 =>
          some x35
        else
          some false
      else
        some false
    else
      some false
  else
    some false : Option Bool) fun t15 =>
  some t15
set_option maxHeartbeats 4000000 in
theorem law04_PieceBack_c {a0 : List arena_Span} {a1 : List arena_Span} {a2 : Int} {res : Bool} (h0 : law04_PieceBack a0 a1 a2 = some res) : CallF X 5 [.sl 2 (List.map e_arena_Span a0), .sl 2 (List.map e_arena_Span a1), .val (.int .i64 a2)] [] (fun x => .val (.bool res)) (fun x => []) := by
  unfold law04_PieceBack at h0
  refine CallF.mkG (X := X) Try.func5 rfl rfl Try.ntmps5 rfl rfl ?_
  refine T.seq ?_
  refine T.region ?_
  refine TL.op1 (OpR.pure rfl) rfl ?_
  refine TL.nil ?_
  show T X _ _ _
  refine T.seq ?_
  refine T.region ?_
  refine TL.op1 (OpR.pure rfl) rfl ?_
  obtain ⟨x1, hx1, h0⟩ := bnd_some h0
  refine TL.op1 (OpR.call0 fn14 (law04_Few_c hx1) rfl) rfl ?_
  refine TL.op1 (OpR.pure rfl) rfl ?_
  refine TL.op1 (OpR.pure rfl) rfl ?_
  refine TL.op1 (OpR.pure rfl) rfl ?_
  refine TL.op1 (OpR.pure rfl) rfl ?_
  refine TL.op1 (OpR.pure rfl) rfl ?_
  refine TL.nil ?_
  show T X _ _ _
  refine T.seq ?_
  refine T.region ?_
  refine TL.op1 (OpR.pure rfl) rfl ?_
  obtain ⟨x2, hx2, h0⟩ := bnd_some h0
  refine TL.op1 (OpR.call0 fn14 (law04_Few_c hx2) rfl) rfl ?_
  refine TL.op1 (OpR.pure rfl) rfl ?_
  refine TL.op1 (OpR.pure rfl) rfl ?_
  refine TL.op1 (OpR.pure rfl) rfl ?_
  refine TL.op1 (OpR.pure rfl) rfl ?_
  refine TL.op1 (OpR.pure rfl) rfl ?_
  refine TL.nil ?_
  show T X _ _ _
  refine T.seq ?_
  refine T.region ?_
  refine TL.op1 (OpR.pure rfl) rfl ?_
  obtain ⟨x3, hx3, h0⟩ := bnd_some h0
  refine TL.op1 (OpR.call0 fn15 (piece_Of_c hx3) rfl) rfl ?_
  refine TL.op1 (OpR.pure rfl) rfl ?_
  obtain ⟨x4, hx4, h0⟩ := bnd_some h0
  refine TL.op1 (OpR.call0 fn15 (piece_Of_c hx4) rfl) rfl ?_
  refine TL.op (OpR.alloc rfl rfl (fun _ => rfl)) rfl (fun p5 => ?_)
  refine TL.op (OpR.alloc rfl rfl (fun _ => rfl)) rfl (fun p6 => ?_)
  refine TL.op0 (OpR.store 0 rfl rfl rfl rfl rfl rfl rfl rfl) ?_
  refine TL.op0 (OpR.store 1 rfl rfl rfl rfl rfl rfl rfl rfl) ?_
  refine TL.nil ?_
  show T X _ _ _
  refine T.seq ?_
  refine T.region ?_
  refine TL.op1 (OpR.pure rfl) rfl ?_
  refine TL.op1 (OpR.pure rfl) rfl ?_
  refine TL.nil ?_
  show T X _ _ _
  refine T.seq ?_
  refine T.seq ?_
  refine T.region ?_
  refine TL.op1 (OpR.pure rfl) rfl ?_
  refine TL.op1 (OpR.pure rfl) rfl ?_
  refine TL.nil ?_
  show T X _ _ _
  obtain ⟨t7, ht7, h0⟩ := bnd_some h0
  refine T.cutC (fun S' => S' = ⟨[(13, .val (.int .i64 t7)), (12, .val (.pointer (some ⟨(blk p6), 0, none⟩))), (11, .val (.pointer (some ⟨(blk p5), 0, none⟩))), (6, .val (.bool false)), (2, .val (.int .i64 a2))], [.var (blk p5) [.sl 2 (List.map e_arena_Span x3.fL), .val (.int .i64 x3.fN)] 27, .var (blk p6) [.sl 2 (List.map e_arena_Span x4.fL), .val (.int .i64 x4.fN)] 27], 89⟩) (fun _ h => h) ?_ ?_
  · rcases ite_some ht7 with ⟨c8, ht7⟩ | ⟨c8, ht7⟩
    · refine T.condT rfl (decide_eq_true c8) ?_
      refine T.region ?_
      refine TL.op1 (OpR.pure rfl) rfl ?_
      refine TL.nil ?_
      obtain rfl := Option.some.inj ht7
      exact ⟨_, Gst.only [2, 6, 11, 12, 13] rfl, rfl⟩
    · refine T.condF rfl (decide_eq_false c8) ?_
      refine T.skip ?_
      obtain rfl := Option.some.inj ht7
      exact ⟨_, Gst.only [2, 6, 11, 12, 13] rfl, rfl⟩
  · rintro _ rfl
    show T X _ _ _
    refine T.seq ?_
    refine T.seq ?_
    refine T.region ?_
    refine TL.op1 (OpR.pure rfl) rfl ?_
    refine TL.op1 (OpR.loadPtr 0 rfl rfl rfl rfl) rfl ?_
    obtain ⟨x9, hx9, h0⟩ := bnd_some h0
    refine TL.op1 (OpR.call0 fn30 (piece_Text_Len_c hx9) rfl) rfl ?_
    refine TL.op1 (OpR.pure rfl) rfl ?_
    refine TL.nil ?_
    show T X _ _ _
    obtain ⟨t10, ht10, h0⟩ := bnd_some h0
    refine T.cutC (fun S' => S' = ⟨[(13, .val (.int .i64 t10)), (12, .val (.pointer (some ⟨(blk p6), 0, none⟩))), (11, .val (.pointer (some ⟨(blk p5), 0, none⟩))), (6, .val (.bool false)), (2, .val (.int .i64 a2))], [.var (blk p5) [.sl 2 (List.map e_arena_Span x3.fL), .val (.int .i64 x3.fN)] 27, .var (blk p6) [.sl 2 (List.map e_arena_Span x4.fL), .val (.int .i64 x4.fN)] 27], 89⟩) (fun _ h => h) ?_ ?_
    · rcases ite_some ht10 with ⟨c11, ht10⟩ | ⟨c11, ht10⟩
      · refine T.condT rfl (decide_eq_true c11) ?_
        refine T.region ?_
        refine TL.op1 (OpR.loadPtr 0 rfl rfl rfl rfl) rfl ?_
        obtain ⟨x12, hx12, ht10⟩ := bnd_some ht10
        refine TL.op1 (OpR.call0 fn30 (piece_Text_Len_c hx12) rfl) rfl ?_
        refine TL.op1 (OpR.pure rfl) rfl ?_
        refine TL.nil ?_
        obtain rfl := Option.some.inj ht10
        exact ⟨_, Gst.only [2, 6, 11, 12, 13] rfl, rfl⟩
      · refine T.condF rfl (decide_eq_false c11) ?_
        refine T.skip ?_
        obtain rfl := Option.some.inj ht10
        exact ⟨_, Gst.only [2, 6, 11, 12, 13] rfl, rfl⟩
    · rintro _ rfl
      show T X _ _ _
      refine T.seq ?_
      refine T.region ?_
      refine TL.op1 (OpR.loadPtr 0 rfl rfl rfl rfl) rfl ?_
      refine TL.op1 (OpR.pure rfl) rfl ?_
      refine TL.op1 (OpR.loadPtr 1 rfl rfl rfl rfl) rfl ?_
      obtain ⟨x13, hx13, h0⟩ := bnd_some h0
      refine TL.op1 (OpR.call0 fn24 (piece_Text_Insert_c hx13) rfl) rfl ?_
      refine TL.op (OpR.alloc rfl rfl (fun _ => rfl)) rfl (fun p14 => ?_)
      refine TL.op0 (OpR.store 2 rfl rfl rfl rfl rfl rfl rfl rfl) ?_
      refine TL.nil ?_
      show T X _ _ _
      refine T.seq ?_
      obtain ⟨t15, ht15, h0⟩ := bnd_some h0
      refine T.cutC (fun S' => S' = ⟨[(6, .val (.bool t15))], [], 89⟩) (fun _ h => h) ?_ ?_
      · obtain ⟨x17, hx17, ht15⟩ := bnd_some ht15
        obtain ⟨x18, hx18, ht15⟩ := bnd_some ht15
        obtain ⟨x19, hx19, ht15⟩ := bnd_some ht15
        rcases ite_some ht15 with ⟨c20, ht15⟩ | ⟨c20, ht15⟩
        · obtain ⟨x21, hx21, ht15⟩ := bnd_some ht15
          obtain ⟨x22, hx22, ht15⟩ := bnd_some ht15
          obtain ⟨x23, hx23, ht15⟩ := bnd_some ht15
          rcases ite_some ht15 with ⟨c24, ht15⟩ | ⟨c24, ht15⟩
          · obtain ⟨x25, hx25, ht15⟩ := bnd_some ht15
            obtain ⟨x26, hx26, ht15⟩ := bnd_some ht15
            obtain ⟨x27, hx27, ht15⟩ := bnd_some ht15
            rcases ite_some ht15 with ⟨c28, ht15⟩ | ⟨c28, ht15⟩
            · obtain ⟨x29, hx29, ht15⟩ := bnd_some ht15
              obtain ⟨x30, hx30, ht15⟩ := bnd_some ht15
              obtain ⟨x31, hx31, ht15⟩ := bnd_some ht15
              obtain ⟨x32, hx32, ht15⟩ := bnd_some ht15
              obtain ⟨x33, hx33, ht15⟩ := bnd_some ht15
              rcases ite_some ht15 with ⟨c34, ht15⟩ | ⟨c34, ht15⟩
              · obtain ⟨x35, hx35, ht15⟩ := bnd_some ht15
                refine T.drawQ drawsX [.agg [.sl 2 (List.map e_arena_Span x13.fL), .val (.int .i64 x13.fN)], .val (.int .i64 x17), .agg [.sl 2 (List.map e_arena_Span x3.fL), .val (.int .i64 x3.fN)], .val (.int .i64 x18), .agg [.sl 2 (List.map e_arena_Span x4.fL), .val (.int .i64 x4.fN)], .val (.int .i64 x19), .val (.int .i64 (w64 (x18 + x19))), .val (.bool (x17 == (w64 (x18 + x19)))), .val (.bool (x17 == (w64 (x18 + x19)))), .agg [.sl 2 (List.map e_arena_Span x13.fL), .val (.int .i64 x13.fN)], .val (.int .i64 t10), .val (.int .i64 t10), .agg [.sl 2 (List.map e_arena_Span x4.fL), .val (.int .i64 x4.fN)], .val (.int .i64 x21), .val (.int .i64 (w64 (t10 + x21))), .agg [.sl 2 (List.map e_arena_Span x22.fL), .val (.int .i64 x22.fN)], .agg [.sl 2 (List.map e_arena_Span x3.fL), .val (.int .i64 x3.fN)], .val (.bool x23), .val (.bool x23), .val (.bool x23), .agg [.sl 2 (List.map e_arena_Span x13.fL), .val (.int .i64 x13.fN)], .val (.int .i64 t10), .val (.int .i64 t10), .agg [.sl 2 (List.map e_arena_Span x4.fL), .val (.int .i64 x4.fN)], .val (.int .i64 x25), .val (.int .i64 (w64 (t10 + x25))), .agg [.sl 2 (List.map e_arena_Span x26.fL), .val (.int .i64 x26.fN)], .agg [.sl 2 (List.map e_arena_Span x4.fL), .val (.int .i64 x4.fN)], .val (.bool x27), .val (.bool x27), .val (.bool x27), .agg [.sl 2 (List.map e_arena_Span x3.fL), .val (.int .i64 x3.fN)], .val (.int .i64 a2), .agg [.sl 2 (List.map e_arena_Span x29.fL), .val (.int .i64 x29.fN)], .agg [.sl 2 (List.map e_arena_Span x3.fL), .val (.int .i64 x3.fN)], .val (.int .i64 a2), .agg [.sl 2 (List.map e_arena_Span x3.fL), .val (.int .i64 x3.fN)], .val (.int .i64 x30), .agg [.sl 2 (List.map e_arena_Span x31.fL), .val (.int .i64 x31.fN)], .sl 2 (List.map e_piece_Text [x29, x31]), .agg [.sl 2 (List.map e_arena_Span x32.fL), .val (.int .i64 x32.fN)], .agg [.sl 2 (List.map e_arena_Span x3.fL), .val (.int .i64 x3.fN)], .val (.bool x33), .val (.bool x33), .val (.bool x33), .val (.bool x35), .val (.bool x35), .val (.bool x35)] [2, 6, 11, 12, 13, 14, 38, 39, 40, 41, 42, 43, 44, 45, 46, 47, 48, 49, 50, 51, 52, 53, 54, 55, 56, 57, 58, 59, 60, 61, 62, 63, 64, 65, 66, 67, 68, 69, 70, 71, 72, 73, 74, 75, 76, 77, 78, 79, 80, 81, 82, 83, 84, 85, 86, 87, 88] (by decide +kernel) rfl ?_ rfl ?_
                · refine OpsQ.yes (Want.plain rfl) rfl (OpR.loadPtr 2 rfl rfl rfl rfl) ?_
                  refine OpsQ.yes (Want.plain rfl) rfl (OpR.call0 fn30 (piece_Text_Len_c hx17) rfl) ?_
                  refine OpsQ.yes (Want.plain rfl) rfl (OpR.loadPtr 0 rfl rfl rfl rfl) ?_
                  refine OpsQ.yes (Want.plain rfl) rfl (OpR.call0 fn30 (piece_Text_Len_c hx18) rfl) ?_
                  refine OpsQ.yes (Want.plain rfl) rfl (OpR.loadPtr 1 rfl rfl rfl rfl) ?_
                  refine OpsQ.yes (Want.plain rfl) rfl (OpR.call0 fn30 (piece_Text_Len_c hx19) rfl) ?_
                  refine OpsQ.yes (Want.plain rfl) rfl (OpR.pure rfl) ?_
                  refine OpsQ.yes (Want.plain rfl) rfl (OpR.pure rfl) ?_
                  refine OpsQ.yes (Want.plain rfl) rfl (OpR.pure rfl) ?_
                  refine OpsQ.yes (Want.bool rfl rfl rfl rfl (by rw [(beq_iff_eq.2 c20)]; rfl)) rfl (OpR.loadPtr 2 rfl rfl rfl rfl) ?_
                  refine OpsQ.yes (Want.bool rfl rfl rfl rfl (by rw [(beq_iff_eq.2 c20)]; rfl)) rfl (OpR.pure rfl) ?_
                  refine OpsQ.yes (Want.bool rfl rfl rfl rfl (by rw [(beq_iff_eq.2 c20)]; rfl)) rfl (OpR.pure rfl) ?_
                  refine OpsQ.yes (Want.bool rfl rfl rfl rfl (by rw [(beq_iff_eq.2 c20)]; rfl)) rfl (OpR.loadPtr 1 rfl rfl rfl rfl) ?_
                  refine OpsQ.yes (Want.bool rfl rfl rfl rfl (by rw [(beq_iff_eq.2 c20)]; rfl)) rfl (OpR.call0 fn30 (piece_Text_Len_c hx21) rfl) ?_
                  refine OpsQ.yes (Want.bool rfl rfl rfl rfl (by rw [(beq_iff_eq.2 c20)]; rfl)) rfl (OpR.pure rfl) ?_
                  refine OpsQ.yes (Want.bool rfl rfl rfl rfl (by rw [(beq_iff_eq.2 c20)]; rfl)) rfl (OpR.call0 fn26 (piece_Text_Delete_c hx22) rfl) ?_
                  refine OpsQ.yes (Want.bool rfl rfl rfl rfl (by rw [(beq_iff_eq.2 c20)]; rfl)) rfl (OpR.loadPtr 0 rfl rfl rfl rfl) ?_
                  refine OpsQ.yes (Want.bool rfl rfl rfl rfl (by rw [(beq_iff_eq.2 c20)]; rfl)) rfl (OpR.call0 fn18 (piece_Same_c hx23) rfl) ?_
                  refine OpsQ.yes (Want.plain rfl) rfl (OpR.pickT rfl (beq_iff_eq.2 c20) rfl) ?_
                  refine OpsQ.yes (Want.plain rfl) rfl (OpR.pure rfl) ?_
                  refine OpsQ.yes (Want.bool rfl rfl rfl rfl (by rw [(c24)]; rfl)) rfl (OpR.loadPtr 2 rfl rfl rfl rfl) ?_
                  refine OpsQ.yes (Want.bool rfl rfl rfl rfl (by rw [(c24)]; rfl)) rfl (OpR.pure rfl) ?_
                  refine OpsQ.yes (Want.bool rfl rfl rfl rfl (by rw [(c24)]; rfl)) rfl (OpR.pure rfl) ?_
                  refine OpsQ.yes (Want.bool rfl rfl rfl rfl (by rw [(c24)]; rfl)) rfl (OpR.loadPtr 1 rfl rfl rfl rfl) ?_
                  refine OpsQ.yes (Want.bool rfl rfl rfl rfl (by rw [(c24)]; rfl)) rfl (OpR.call0 fn30 (piece_Text_Len_c hx25) rfl) ?_
                  refine OpsQ.yes (Want.bool rfl rfl rfl rfl (by rw [(c24)]; rfl)) rfl (OpR.pure rfl) ?_
                  refine OpsQ.yes (Want.bool rfl rfl rfl rfl (by rw [(c24)]; rfl)) rfl (OpR.call0 fn22 (piece_Text_Slice_c hx26) rfl) ?_
                  refine OpsQ.yes (Want.bool rfl rfl rfl rfl (by rw [(c24)]; rfl)) rfl (OpR.loadPtr 1 rfl rfl rfl rfl) ?_
                  refine OpsQ.yes (Want.bool rfl rfl rfl rfl (by rw [(c24)]; rfl)) rfl (OpR.call0 fn18 (piece_Same_c hx27) rfl) ?_
                  refine OpsQ.yes (Want.plain rfl) rfl (OpR.pickT rfl (c24) rfl) ?_
                  refine OpsQ.yes (Want.plain rfl) rfl (OpR.pure rfl) ?_
                  refine OpsQ.yes (Want.bool rfl rfl rfl rfl (by rw [(c28)]; rfl)) rfl (OpR.loadPtr 0 rfl rfl rfl rfl) ?_
                  refine OpsQ.yes (Want.bool rfl rfl rfl rfl (by rw [(c28)]; rfl)) rfl (OpR.pure rfl) ?_
                  refine OpsQ.yes (Want.bool rfl rfl rfl rfl (by rw [(c28)]; rfl)) rfl (OpR.call0 fn22 (piece_Text_Slice_c hx29) rfl) ?_
                  refine OpsQ.yes (Want.bool rfl rfl rfl rfl (by rw [(c28)]; rfl)) rfl (OpR.loadPtr 0 rfl rfl rfl rfl) ?_
                  refine OpsQ.yes (Want.bool rfl rfl rfl rfl (by rw [(c28)]; rfl)) rfl (OpR.pure rfl) ?_
                  refine OpsQ.yes (Want.bool rfl rfl rfl rfl (by rw [(c28)]; rfl)) rfl (OpR.loadPtr 0 rfl rfl rfl rfl) ?_
                  refine OpsQ.yes (Want.bool rfl rfl rfl rfl (by rw [(c28)]; rfl)) rfl (OpR.call0 fn30 (piece_Text_Len_c hx30) rfl) ?_
                  refine OpsQ.yes (Want.bool rfl rfl rfl rfl (by rw [(c28)]; rfl)) rfl (OpR.call0 fn22 (piece_Text_Slice_c hx31) rfl) ?_
                  refine OpsQ.yes (Want.bool rfl rfl rfl rfl (by rw [(c28)]; rfl)) rfl (OpR.lit rfl rfl rfl rfl rfl rfl rfl) ?_
                  refine OpsQ.yes (Want.bool rfl rfl rfl rfl (by rw [(c28)]; rfl)) rfl (OpR.call0 fn28 (piece_Concat_c hx32) rfl) ?_
                  refine OpsQ.yes (Want.bool rfl rfl rfl rfl (by rw [(c28)]; rfl)) rfl (OpR.loadPtr 0 rfl rfl rfl rfl) ?_
                  refine OpsQ.yes (Want.bool rfl rfl rfl rfl (by rw [(c28)]; rfl)) rfl (OpR.call0 fn18 (piece_Same_c hx33) rfl) ?_
                  refine OpsQ.yes (Want.plain rfl) rfl (OpR.pickT rfl (c28) rfl) ?_
                  refine OpsQ.yes (Want.plain rfl) rfl (OpR.pure rfl) ?_
                  refine OpsQ.yes (Want.bool rfl rfl rfl rfl (by rw [(c34)]; rfl)) rfl (OpR.call0 fn21 (law04_awake_c hx35) rfl) ?_
                  refine OpsQ.yes (Want.plain rfl) rfl (OpR.pickT rfl (c34) rfl) ?_
                  refine OpsQ.yes (Want.plain rfl) rfl (OpR.pure rfl) ?_
                  exact OpsQ.nil
                · obtain rfl := Option.some.inj ht15
                  exact ⟨_, Gst.trans (Gst.only [6] rfl) (Gst.pick [] rfl rfl), rfl⟩
              · refine T.drawQ drawsX [.agg [.sl 2 (List.map e_arena_Span x13.fL), .val (.int .i64 x13.fN)], .val (.int .i64 x17), .agg [.sl 2 (List.map e_arena_Span x3.fL), .val (.int .i64 x3.fN)], .val (.int .i64 x18), .agg [.sl 2 (List.map e_arena_Span x4.fL), .val (.int .i64 x4.fN)], .val (.int .i64 x19), .val (.int .i64 (w64 (x18 + x19))), .val (.bool (x17 == (w64 (x18 + x19)))), .val (.bool (x17 == (w64 (x18 + x19)))), .agg [.sl 2 (List.map e_arena_Span x13.fL), .val (.int .i64 x13.fN)], .val (.int .i64 t10), .val (.int .i64 t10), .agg [.sl 2 (List.map e_arena_Span x4.fL), .val (.int .i64 x4.fN)], .val (.int .i64 x21), .val (.int .i64 (w64 (t10 + x21))), .agg [.sl 2 (List.map e_arena_Span x22.fL), .val (.int .i64 x22.fN)], .agg [.sl 2 (List.map e_arena_Span x3.fL), .val (.int .i64 x3.fN)], .val (.bool x23), .val (.bool x23), .val (.bool x23), .agg [.sl 2 (List.map e_arena_Span x13.fL), .val (.int .i64 x13.fN)], .val (.int .i64 t10), .val (.int .i64 t10), .agg [.sl 2 (List.map e_arena_Span x4.fL), .val (.int .i64 x4.fN)], .val (.int .i64 x25), .val (.int .i64 (w64 (t10 + x25))), .agg [.sl 2 (List.map e_arena_Span x26.fL), .val (.int .i64 x26.fN)], .agg [.sl 2 (List.map e_arena_Span x4.fL), .val (.int .i64 x4.fN)], .val (.bool x27), .val (.bool x27), .val (.bool x27), .agg [.sl 2 (List.map e_arena_Span x3.fL), .val (.int .i64 x3.fN)], .val (.int .i64 a2), .agg [.sl 2 (List.map e_arena_Span x29.fL), .val (.int .i64 x29.fN)], .agg [.sl 2 (List.map e_arena_Span x3.fL), .val (.int .i64 x3.fN)], .val (.int .i64 a2), .agg [.sl 2 (List.map e_arena_Span x3.fL), .val (.int .i64 x3.fN)], .val (.int .i64 x30), .agg [.sl 2 (List.map e_arena_Span x31.fL), .val (.int .i64 x31.fN)], .sl 2 (List.map e_piece_Text [x29, x31]), .agg [.sl 2 (List.map e_arena_Span x32.fL), .val (.int .i64 x32.fN)], .agg [.sl 2 (List.map e_arena_Span x3.fL), .val (.int .i64 x3.fN)], .val (.bool x33), .val (.bool x33), .val (.bool x33), .tup [], .val (.bool false), .val (.bool false)] [2, 6, 11, 12, 13, 14, 38, 39, 40, 41, 42, 43, 44, 45, 46, 47, 48, 49, 50, 51, 52, 53, 54, 55, 56, 57, 58, 59, 60, 61, 62, 63, 64, 65, 66, 67, 68, 69, 70, 71, 72, 73, 74, 75, 76, 77, 78, 79, 80, 81, 82, 83, 84, 85, 86, 87, 88] (by decide +kernel) rfl ?_ rfl ?_
                · refine OpsQ.yes (Want.plain rfl) rfl (OpR.loadPtr 2 rfl rfl rfl rfl) ?_
                  refine OpsQ.yes (Want.plain rfl) rfl (OpR.call0 fn30 (piece_Text_Len_c hx17) rfl) ?_
                  refine OpsQ.yes (Want.plain rfl) rfl (OpR.loadPtr 0 rfl rfl rfl rfl) ?_
                  refine OpsQ.yes (Want.plain rfl) rfl (OpR.call0 fn30 (piece_Text_Len_c hx18) rfl) ?_
                  refine OpsQ.yes (Want.plain rfl) rfl (OpR.loadPtr 1 rfl rfl rfl rfl) ?_
                  refine OpsQ.yes (Want.plain rfl) rfl (OpR.call0 fn30 (piece_Text_Len_c hx19) rfl) ?_
                  refine OpsQ.yes (Want.plain rfl) rfl (OpR.pure rfl) ?_
                  refine OpsQ.yes (Want.plain rfl) rfl (OpR.pure rfl) ?_
                  refine OpsQ.yes (Want.plain rfl) rfl (OpR.pure rfl) ?_
                  refine OpsQ.yes (Want.bool rfl rfl rfl rfl (by rw [(beq_iff_eq.2 c20)]; rfl)) rfl (OpR.loadPtr 2 rfl rfl rfl rfl) ?_
                  refine OpsQ.yes (Want.bool rfl rfl rfl rfl (by rw [(beq_iff_eq.2 c20)]; rfl)) rfl (OpR.pure rfl) ?_
                  refine OpsQ.yes (Want.bool rfl rfl rfl rfl (by rw [(beq_iff_eq.2 c20)]; rfl)) rfl (OpR.pure rfl) ?_
                  refine OpsQ.yes (Want.bool rfl rfl rfl rfl (by rw [(beq_iff_eq.2 c20)]; rfl)) rfl (OpR.loadPtr 1 rfl rfl rfl rfl) ?_
                  refine OpsQ.yes (Want.bool rfl rfl rfl rfl (by rw [(beq_iff_eq.2 c20)]; rfl)) rfl (OpR.call0 fn30 (piece_Text_Len_c hx21) rfl) ?_
                  refine OpsQ.yes (Want.bool rfl rfl rfl rfl (by rw [(beq_iff_eq.2 c20)]; rfl)) rfl (OpR.pure rfl) ?_
                  refine OpsQ.yes (Want.bool rfl rfl rfl rfl (by rw [(beq_iff_eq.2 c20)]; rfl)) rfl (OpR.call0 fn26 (piece_Text_Delete_c hx22) rfl) ?_
                  refine OpsQ.yes (Want.bool rfl rfl rfl rfl (by rw [(beq_iff_eq.2 c20)]; rfl)) rfl (OpR.loadPtr 0 rfl rfl rfl rfl) ?_
                  refine OpsQ.yes (Want.bool rfl rfl rfl rfl (by rw [(beq_iff_eq.2 c20)]; rfl)) rfl (OpR.call0 fn18 (piece_Same_c hx23) rfl) ?_
                  refine OpsQ.yes (Want.plain rfl) rfl (OpR.pickT rfl (beq_iff_eq.2 c20) rfl) ?_
                  refine OpsQ.yes (Want.plain rfl) rfl (OpR.pure rfl) ?_
                  refine OpsQ.yes (Want.bool rfl rfl rfl rfl (by rw [(c24)]; rfl)) rfl (OpR.loadPtr 2 rfl rfl rfl rfl) ?_
                  refine OpsQ.yes (Want.bool rfl rfl rfl rfl (by rw [(c24)]; rfl)) rfl (OpR.pure rfl) ?_
                  refine OpsQ.yes (Want.bool rfl rfl rfl rfl (by rw [(c24)]; rfl)) rfl (OpR.pure rfl) ?_
                  refine OpsQ.yes (Want.bool rfl rfl rfl rfl (by rw [(c24)]; rfl)) rfl (OpR.loadPtr 1 rfl rfl rfl rfl) ?_
                  refine OpsQ.yes (Want.bool rfl rfl rfl rfl (by rw [(c24)]; rfl)) rfl (OpR.call0 fn30 (piece_Text_Len_c hx25) rfl) ?_
                  refine OpsQ.yes (Want.bool rfl rfl rfl rfl (by rw [(c24)]; rfl)) rfl (OpR.pure rfl) ?_
                  refine OpsQ.yes (Want.bool rfl rfl rfl rfl (by rw [(c24)]; rfl)) rfl (OpR.call0 fn22 (piece_Text_Slice_c hx26) rfl) ?_
                  refine OpsQ.yes (Want.bool rfl rfl rfl rfl (by rw [(c24)]; rfl)) rfl (OpR.loadPtr 1 rfl rfl rfl rfl) ?_
                  refine OpsQ.yes (Want.bool rfl rfl rfl rfl (by rw [(c24)]; rfl)) rfl (OpR.call0 fn18 (piece_Same_c hx27) rfl) ?_
                  refine OpsQ.yes (Want.plain rfl) rfl (OpR.pickT rfl (c24) rfl) ?_
                  refine OpsQ.yes (Want.plain rfl) rfl (OpR.pure rfl) ?_
                  refine OpsQ.yes (Want.bool rfl rfl rfl rfl (by rw [(c28)]; rfl)) rfl (OpR.loadPtr 0 rfl rfl rfl rfl) ?_
                  refine OpsQ.yes (Want.bool rfl rfl rfl rfl (by rw [(c28)]; rfl)) rfl (OpR.pure rfl) ?_
                  refine OpsQ.yes (Want.bool rfl rfl rfl rfl (by rw [(c28)]; rfl)) rfl (OpR.call0 fn22 (piece_Text_Slice_c hx29) rfl) ?_
                  refine OpsQ.yes (Want.bool rfl rfl rfl rfl (by rw [(c28)]; rfl)) rfl (OpR.loadPtr 0 rfl rfl rfl rfl) ?_
                  refine OpsQ.yes (Want.bool rfl rfl rfl rfl (by rw [(c28)]; rfl)) rfl (OpR.pure rfl) ?_
                  refine OpsQ.yes (Want.bool rfl rfl rfl rfl (by rw [(c28)]; rfl)) rfl (OpR.loadPtr 0 rfl rfl rfl rfl) ?_
                  refine OpsQ.yes (Want.bool rfl rfl rfl rfl (by rw [(c28)]; rfl)) rfl (OpR.call0 fn30 (piece_Text_Len_c hx30) rfl) ?_
                  refine OpsQ.yes (Want.bool rfl rfl rfl rfl (by rw [(c28)]; rfl)) rfl (OpR.call0 fn22 (piece_Text_Slice_c hx31) rfl) ?_
                  refine OpsQ.yes (Want.bool rfl rfl rfl rfl (by rw [(c28)]; rfl)) rfl (OpR.lit rfl rfl rfl rfl rfl rfl rfl) ?_
                  refine OpsQ.yes (Want.bool rfl rfl rfl rfl (by rw [(c28)]; rfl)) rfl (OpR.call0 fn28 (piece_Concat_c hx32) rfl) ?_
                  refine OpsQ.yes (Want.bool rfl rfl rfl rfl (by rw [(c28)]; rfl)) rfl (OpR.loadPtr 0 rfl rfl rfl rfl) ?_
                  refine OpsQ.yes (Want.bool rfl rfl rfl rfl (by rw [(c28)]; rfl)) rfl (OpR.call0 fn18 (piece_Same_c hx33) rfl) ?_
                  refine OpsQ.yes (Want.plain rfl) rfl (OpR.pickT rfl (c28) rfl) ?_
                  refine OpsQ.yes (Want.plain rfl) rfl (OpR.pure rfl) ?_
                  refine OpsQ.no (Want.bool rfl rfl rfl rfl (by rw [(eq_false_of_ne_true c34)]; rfl)) rfl ?_
                  refine OpsQ.yes (Want.plain rfl) rfl (OpR.pickF rfl (eq_false_of_ne_true c34) rfl) ?_
                  refine OpsQ.yes (Want.plain rfl) rfl (OpR.pure rfl) ?_
                  exact OpsQ.nil
                · obtain rfl := Option.some.inj ht15
                  exact ⟨_, Gst.trans (Gst.only [6] rfl) (Gst.pick [] rfl rfl), rfl⟩
            · refine T.drawQ drawsX [.agg [.sl 2 (List.map e_arena_Span x13.fL), .val (.int .i64 x13.fN)], .val (.int .i64 x17), .agg [.sl 2 (List.map e_arena_Span x3.fL), .val (.int .i64 x3.fN)], .val (.int .i64 x18), .agg [.sl 2 (List.map e_arena_Span x4.fL), .val (.int .i64 x4.fN)], .val (.int .i64 x19), .val (.int .i64 (w64 (x18 + x19))), .val (.bool (x17 == (w64 (x18 + x19)))), .val (.bool (x17 == (w64 (x18 + x19)))), .agg [.sl 2 (List.map e_arena_Span x13.fL), .val (.int .i64 x13.fN)], .val (.int .i64 t10), .val (.int .i64 t10), .agg [.sl 2 (List.map e_arena_Span x4.fL), .val (.int .i64 x4.fN)], .val (.int .i64 x21), .val (.int .i64 (w64 (t10 + x21))), .agg [.sl 2 (List.map e_arena_Span x22.fL), .val (.int .i64 x22.fN)], .agg [.sl 2 (List.map e_arena_Span x3.fL), .val (.int .i64 x3.fN)], .val (.bool x23), .val (.bool x23), .val (.bool x23), .agg [.sl 2 (List.map e_arena_Span x13.fL), .val (.int .i64 x13.fN)], .val (.int .i64 t10), .val (.int .i64 t10), .agg [.sl 2 (List.map e_arena_Span x4.fL), .val (.int .i64 x4.fN)], .val (.int .i64 x25), .val (.int .i64 (w64 (t10 + x25))), .agg [.sl 2 (List.map e_arena_Span x26.fL), .val (.int .i64 x26.fN)], .agg [.sl 2 (List.map e_arena_Span x4.fL), .val (.int .i64 x4.fN)], .val (.bool x27), .val (.bool x27), .val (.bool x27), .tup [], .tup [], .tup [], .tup [], .tup [], .tup [], .tup [], .tup [], .tup [], .tup [], .tup [], .tup [], .val (.bool false), .val (.bool false), .tup [], .val (.bool false), .val (.bool false)] [2, 6, 11, 12, 13, 14, 38, 39, 40, 41, 42, 43, 44, 45, 46, 47, 48, 49, 50, 51, 52, 53, 54, 55, 56, 57, 58, 59, 60, 61, 62, 63, 64, 65, 66, 67, 68, 69, 70, 71, 72, 73, 74, 75, 76, 77, 78, 79, 80, 81, 82, 83, 84, 85, 86, 87, 88] (by decide +kernel) rfl ?_ rfl ?_
              · refine OpsQ.yes (Want.plain rfl) rfl (OpR.loadPtr 2 rfl rfl rfl rfl) ?_
                refine OpsQ.yes (Want.plain rfl) rfl (OpR.call0 fn30 (piece_Text_Len_c hx17) rfl) ?_
                refine OpsQ.yes (Want.plain rfl) rfl (OpR.loadPtr 0 rfl rfl rfl rfl) ?_
                refine OpsQ.yes (Want.plain rfl) rfl (OpR.call0 fn30 (piece_Text_Len_c hx18) rfl) ?_
                refine OpsQ.yes (Want.plain rfl) rfl (OpR.loadPtr 1 rfl rfl rfl rfl) ?_
                refine OpsQ.yes (Want.plain rfl) rfl (OpR.call0 fn30 (piece_Text_Len_c hx19) rfl) ?_
                refine OpsQ.yes (Want.plain rfl) rfl (OpR.pure rfl) ?_
                refine OpsQ.yes (Want.plain rfl) rfl (OpR.pure rfl) ?_
                refine OpsQ.yes (Want.plain rfl) rfl (OpR.pure rfl) ?_
                refine OpsQ.yes (Want.bool rfl rfl rfl rfl (by rw [(beq_iff_eq.2 c20)]; rfl)) rfl (OpR.loadPtr 2 rfl rfl rfl rfl) ?_
                refine OpsQ.yes (Want.bool rfl rfl rfl rfl (by rw [(beq_iff_eq.2 c20)]; rfl)) rfl (OpR.pure rfl) ?_
                refine OpsQ.yes (Want.bool rfl rfl rfl rfl (by rw [(beq_iff_eq.2 c20)]; rfl)) rfl (OpR.pure rfl) ?_
                refine OpsQ.yes (Want.bool rfl rfl rfl rfl (by rw [(beq_iff_eq.2 c20)]; rfl)) rfl (OpR.loadPtr 1 rfl rfl rfl rfl) ?_
                refine OpsQ.yes (Want.bool rfl rfl rfl rfl (by rw [(beq_iff_eq.2 c20)]; rfl)) rfl (OpR.call0 fn30 (piece_Text_Len_c hx21) rfl) ?_
                refine OpsQ.yes (Want.bool rfl rfl rfl rfl (by rw [(beq_iff_eq.2 c20)]; rfl)) rfl (OpR.pure rfl) ?_
                refine OpsQ.yes (Want.bool rfl rfl rfl rfl (by rw [(beq_iff_eq.2 c20)]; rfl)) rfl (OpR.call0 fn26 (piece_Text_Delete_c hx22) rfl) ?_
                refine OpsQ.yes (Want.bool rfl rfl rfl rfl (by rw [(beq_iff_eq.2 c20)]; rfl)) rfl (OpR.loadPtr 0 rfl rfl rfl rfl) ?_
                refine OpsQ.yes (Want.bool rfl rfl rfl rfl (by rw [(beq_iff_eq.2 c20)]; rfl)) rfl (OpR.call0 fn18 (piece_Same_c hx23) rfl) ?_
                refine OpsQ.yes (Want.plain rfl) rfl (OpR.pickT rfl (beq_iff_eq.2 c20) rfl) ?_
                refine OpsQ.yes (Want.plain rfl) rfl (OpR.pure rfl) ?_
                refine OpsQ.yes (Want.bool rfl rfl rfl rfl (by rw [(c24)]; rfl)) rfl (OpR.loadPtr 2 rfl rfl rfl rfl) ?_
                refine OpsQ.yes (Want.bool rfl rfl rfl rfl (by rw [(c24)]; rfl)) rfl (OpR.pure rfl) ?_
                refine OpsQ.yes (Want.bool rfl rfl rfl rfl (by rw [(c24)]; rfl)) rfl (OpR.pure rfl) ?_
                refine OpsQ.yes (Want.bool rfl rfl rfl rfl (by rw [(c24)]; rfl)) rfl (OpR.loadPtr 1 rfl rfl rfl rfl) ?_
                refine OpsQ.yes (Want.bool rfl rfl rfl rfl (by rw [(c24)]; rfl)) rfl (OpR.call0 fn30 (piece_Text_Len_c hx25) rfl) ?_
                refine OpsQ.yes (Want.bool rfl rfl rfl rfl (by rw [(c24)]; rfl)) rfl (OpR.pure rfl) ?_
                refine OpsQ.yes (Want.bool rfl rfl rfl rfl (by rw [(c24)]; rfl)) rfl (OpR.call0 fn22 (piece_Text_Slice_c hx26) rfl) ?_
                refine OpsQ.yes (Want.bool rfl rfl rfl rfl (by rw [(c24)]; rfl)) rfl (OpR.loadPtr 1 rfl rfl rfl rfl) ?_
                refine OpsQ.yes (Want.bool rfl rfl rfl rfl (by rw [(c24)]; rfl)) rfl (OpR.call0 fn18 (piece_Same_c hx27) rfl) ?_
                refine OpsQ.yes (Want.plain rfl) rfl (OpR.pickT rfl (c24) rfl) ?_
                refine OpsQ.yes (Want.plain rfl) rfl (OpR.pure rfl) ?_
                refine OpsQ.no (Want.bool rfl rfl rfl rfl (by rw [(eq_false_of_ne_true c28)]; rfl)) rfl ?_
                refine OpsQ.no (Want.bool rfl rfl rfl rfl (by rw [(eq_false_of_ne_true c28)]; rfl)) rfl ?_
                refine OpsQ.no (Want.bool rfl rfl rfl rfl (by rw [(eq_false_of_ne_true c28)]; rfl)) rfl ?_
                refine OpsQ.no (Want.bool rfl rfl rfl rfl (by rw [(eq_false_of_ne_true c28)]; rfl)) rfl ?_
                refine OpsQ.no (Want.bool rfl rfl rfl rfl (by rw [(eq_false_of_ne_true c28)]; rfl)) rfl ?_
                refine OpsQ.no (Want.bool rfl rfl rfl rfl (by rw [(eq_false_of_ne_true c28)]; rfl)) rfl ?_
                refine OpsQ.no (Want.bool rfl rfl rfl rfl (by rw [(eq_false_of_ne_true c28)]; rfl)) rfl ?_
                refine OpsQ.no (Want.bool rfl rfl rfl rfl (by rw [(eq_false_of_ne_true c28)]; rfl)) rfl ?_
                refine OpsQ.no (Want.bool rfl rfl rfl rfl (by rw [(eq_false_of_ne_true c28)]; rfl)) rfl ?_
                refine OpsQ.no (Want.bool rfl rfl rfl rfl (by rw [(eq_false_of_ne_true c28)]; rfl)) rfl ?_
                refine OpsQ.no (Want.bool rfl rfl rfl rfl (by rw [(eq_false_of_ne_true c28)]; rfl)) rfl ?_
                refine OpsQ.no (Want.bool rfl rfl rfl rfl (by rw [(eq_false_of_ne_true c28)]; rfl)) rfl ?_
                refine OpsQ.yes (Want.plain rfl) rfl (OpR.pickF rfl (eq_false_of_ne_true c28) rfl) ?_
                refine OpsQ.yes (Want.plain rfl) rfl (OpR.pure rfl) ?_
                refine OpsQ.no (Want.bool rfl rfl rfl rfl rfl) rfl ?_
                refine OpsQ.yes (Want.plain rfl) rfl (OpR.pickF rfl rfl rfl) ?_
                refine OpsQ.yes (Want.plain rfl) rfl (OpR.pure rfl) ?_
                exact OpsQ.nil
              · obtain rfl := Option.some.inj ht15
                exact ⟨_, Gst.trans (Gst.only [6] rfl) (Gst.pick [] rfl rfl), rfl⟩
          · refine T.drawQ drawsX [.agg [.sl 2 (List.map e_arena_Span x13.fL), .val (.int .i64 x13.fN)], .val (.int .i64 x17), .agg [.sl 2 (List.map e_arena_Span x3.fL), .val (.int .i64 x3.fN)], .val (.int .i64 x18), .agg [.sl 2 (List.map e_arena_Span x4.fL), .val (.int .i64 x4.fN)], .val (.int .i64 x19), .val (.int .i64 (w64 (x18 + x19))), .val (.bool (x17 == (w64 (x18 + x19)))), .val (.bool (x17 == (w64 (x18 + x19)))), .agg [.sl 2 (List.map e_arena_Span x13.fL), .val (.int .i64 x13.fN)], .val (.int .i64 t10), .val (.int .i64 t10), .agg [.sl 2 (List.map e_arena_Span x4.fL), .val (.int .i64 x4.fN)], .val (.int .i64 x21), .val (.int .i64 (w64 (t10 + x21))), .agg [.sl 2 (List.map e_arena_Span x22.fL), .val (.int .i64 x22.fN)], .agg [.sl 2 (List.map e_arena_Span x3.fL), .val (.int .i64 x3.fN)], .val (.bool x23), .val (.bool x23), .val (.bool x23), .tup [], .tup [], .tup [], .tup [], .tup [], .tup [], .tup [], .tup [], .tup [], .val (.bool false), .val (.bool false), .tup [], .tup [], .tup [], .tup [], .tup [], .tup [], .tup [], .tup [], .tup [], .tup [], .tup [], .tup [], .val (.bool false), .val (.bool false), .tup [], .val (.bool false), .val (.bool false)] [2, 6, 11, 12, 13, 14, 38, 39, 40, 41, 42, 43, 44, 45, 46, 47, 48, 49, 50, 51, 52, 53, 54, 55, 56, 57, 58, 59, 60, 61, 62, 63, 64, 65, 66, 67, 68, 69, 70, 71, 72, 73, 74, 75, 76, 77, 78, 79, 80, 81, 82, 83, 84, 85, 86, 87, 88] (by decide +kernel) rfl ?_ rfl ?_
            · refine OpsQ.yes (Want.plain rfl) rfl (OpR.loadPtr 2 rfl rfl rfl rfl) ?_
              refine OpsQ.yes (Want.plain rfl) rfl (OpR.call0 fn30 (piece_Text_Len_c hx17) rfl) ?_
              refine OpsQ.yes (Want.plain rfl) rfl (OpR.loadPtr 0 rfl rfl rfl rfl) ?_
              refine OpsQ.yes (Want.plain rfl) rfl (OpR.call0 fn30 (piece_Text_Len_c hx18) rfl) ?_
              refine OpsQ.yes (Want.plain rfl) rfl (OpR.loadPtr 1 rfl rfl rfl rfl) ?_
              refine OpsQ.yes (Want.plain rfl) rfl (OpR.call0 fn30 (piece_Text_Len_c hx19) rfl) ?_
              refine OpsQ.yes (Want.plain rfl) rfl (OpR.pure rfl) ?_
              refine OpsQ.yes (Want.plain rfl) rfl (OpR.pure rfl) ?_
              refine OpsQ.yes (Want.plain rfl) rfl (OpR.pure rfl) ?_
              refine OpsQ.yes (Want.bool rfl rfl rfl rfl (by rw [(beq_iff_eq.2 c20)]; rfl)) rfl (OpR.loadPtr 2 rfl rfl rfl rfl) ?_
              refine OpsQ.yes (Want.bool rfl rfl rfl rfl (by rw [(beq_iff_eq.2 c20)]; rfl)) rfl (OpR.pure rfl) ?_
              refine OpsQ.yes (Want.bool rfl rfl rfl rfl (by rw [(beq_iff_eq.2 c20)]; rfl)) rfl (OpR.pure rfl) ?_
              refine OpsQ.yes (Want.bool rfl rfl rfl rfl (by rw [(beq_iff_eq.2 c20)]; rfl)) rfl (OpR.loadPtr 1 rfl rfl rfl rfl) ?_
              refine OpsQ.yes (Want.bool rfl rfl rfl rfl (by rw [(beq_iff_eq.2 c20)]; rfl)) rfl (OpR.call0 fn30 (piece_Text_Len_c hx21) rfl) ?_
              refine OpsQ.yes (Want.bool rfl rfl rfl rfl (by rw [(beq_iff_eq.2 c20)]; rfl)) rfl (OpR.pure rfl) ?_
              refine OpsQ.yes (Want.bool rfl rfl rfl rfl (by rw [(beq_iff_eq.2 c20)]; rfl)) rfl (OpR.call0 fn26 (piece_Text_Delete_c hx22) rfl) ?_
              refine OpsQ.yes (Want.bool rfl rfl rfl rfl (by rw [(beq_iff_eq.2 c20)]; rfl)) rfl (OpR.loadPtr 0 rfl rfl rfl rfl) ?_
              refine OpsQ.yes (Want.bool rfl rfl rfl rfl (by rw [(beq_iff_eq.2 c20)]; rfl)) rfl (OpR.call0 fn18 (piece_Same_c hx23) rfl) ?_
              refine OpsQ.yes (Want.plain rfl) rfl (OpR.pickT rfl (beq_iff_eq.2 c20) rfl) ?_
              refine OpsQ.yes (Want.plain rfl) rfl (OpR.pure rfl) ?_
              refine OpsQ.no (Want.bool rfl rfl rfl rfl (by rw [(eq_false_of_ne_true c24)]; rfl)) rfl ?_
              refine OpsQ.no (Want.bool rfl rfl rfl rfl (by rw [(eq_false_of_ne_true c24)]; rfl)) rfl ?_
              refine OpsQ.no (Want.bool rfl rfl rfl rfl (by rw [(eq_false_of_ne_true c24)]; rfl)) rfl ?_
              refine OpsQ.no (Want.bool rfl rfl rfl rfl (by rw [(eq_false_of_ne_true c24)]; rfl)) rfl ?_
              refine OpsQ.no (Want.bool rfl rfl rfl rfl (by rw [(eq_false_of_ne_true c24)]; rfl)) rfl ?_
              refine OpsQ.no (Want.bool rfl rfl rfl rfl (by rw [(eq_false_of_ne_true c24)]; rfl)) rfl ?_
              refine OpsQ.no (Want.bool rfl rfl rfl rfl (by rw [(eq_false_of_ne_true c24)]; rfl)) rfl ?_
              refine OpsQ.no (Want.bool rfl rfl rfl rfl (by rw [(eq_false_of_ne_true c24)]; rfl)) rfl ?_
              refine OpsQ.no (Want.bool rfl rfl rfl rfl (by rw [(eq_false_of_ne_true c24)]; rfl)) rfl ?_
              refine OpsQ.yes (Want.plain rfl) rfl (OpR.pickF rfl (eq_false_of_ne_true c24) rfl) ?_
              refine OpsQ.yes (Want.plain rfl) rfl (OpR.pure rfl) ?_
              refine OpsQ.no (Want.bool rfl rfl rfl rfl rfl) rfl ?_
              refine OpsQ.no (Want.bool rfl rfl rfl rfl rfl) rfl ?_
              refine OpsQ.no (Want.bool rfl rfl rfl rfl rfl) rfl ?_
              refine OpsQ.no (Want.bool rfl rfl rfl rfl rfl) rfl ?_
              refine OpsQ.no (Want.bool rfl rfl rfl rfl rfl) rfl ?_
              refine OpsQ.no (Want.bool rfl rfl rfl rfl rfl) rfl ?_
              refine OpsQ.no (Want.bool rfl rfl rfl rfl rfl) rfl ?_
              refine OpsQ.no (Want.bool rfl rfl rfl rfl rfl) rfl ?_
              refine OpsQ.no (Want.bool rfl rfl rfl rfl rfl) rfl ?_
              refine OpsQ.no (Want.bool rfl rfl rfl rfl rfl) rfl ?_
              refine OpsQ.no (Want.bool rfl rfl rfl rfl rfl) rfl ?_
              refine OpsQ.no (Want.bool rfl rfl rfl rfl rfl) rfl ?_
              refine OpsQ.yes (Want.plain rfl) rfl (OpR.pickF rfl rfl rfl) ?_
              refine OpsQ.yes (Want.plain rfl) rfl (OpR.pure rfl) ?_
              refine OpsQ.no (Want.bool rfl rfl rfl rfl rfl) rfl ?_
              refine OpsQ.yes (Want.plain rfl) rfl (OpR.pickF rfl rfl rfl) ?_
              refine OpsQ.yes (Want.plain rfl) rfl (OpR.pure rfl) ?_
              exact OpsQ.nil
            · obtain rfl := Option.some.inj ht15
              exact ⟨_, Gst.trans (Gst.only [6] rfl) (Gst.pick [] rfl rfl), rfl⟩
        · refine T.drawQ drawsX [.agg [.sl 2 (List.map e_arena_Span x13.fL), .val (.int .i64 x13.fN)], .val (.int .i64 x17), .agg [.sl 2 (List.map e_arena_Span x3.fL), .val (.int .i64 x3.fN)], .val (.int .i64 x18), .agg [.sl 2 (List.map e_arena_Span x4.fL), .val (.int .i64 x4.fN)], .val (.int .i64 x19), .val (.int .i64 (w64 (x18 + x19))), .val (.bool (x17 == (w64 (x18 + x19)))), .val (.bool (x17 == (w64 (x18 + x19)))), .tup [], .tup [], .tup [], .tup [], .tup [], .tup [], .tup [], .tup [], .tup [], .val (.bool false), .val (.bool false), .tup [], .tup [], .tup [], .tup [], .tup [], .tup [], .tup [], .tup [], .tup [], .val (.bool false), .val (.bool false), .tup [], .tup [], .tup [], .tup [], .tup [], .tup [], .tup [], .tup [], .tup [], .tup [], .tup [], .tup [], .val (.bool false), .val (.bool false), .tup [], .val (.bool false), .val (.bool false)] [2, 6, 11, 12, 13, 14, 38, 39, 40, 41, 42, 43, 44, 45, 46, 47, 48, 49, 50, 51, 52, 53, 54, 55, 56, 57, 58, 59, 60, 61, 62, 63, 64, 65, 66, 67, 68, 69, 70, 71, 72, 73, 74, 75, 76, 77, 78, 79, 80, 81, 82, 83, 84, 85, 86, 87, 88] (by decide +kernel) rfl ?_ rfl ?_
          · refine OpsQ.yes (Want.plain rfl) rfl (OpR.loadPtr 2 rfl rfl rfl rfl) ?_
            refine OpsQ.yes (Want.plain rfl) rfl (OpR.call0 fn30 (piece_Text_Len_c hx17) rfl) ?_
            refine OpsQ.yes (Want.plain rfl) rfl (OpR.loadPtr 0 rfl rfl rfl rfl) ?_
            refine OpsQ.yes (Want.plain rfl) rfl (OpR.call0 fn30 (piece_Text_Len_c hx18) rfl) ?_
            refine OpsQ.yes (Want.plain rfl) rfl (OpR.loadPtr 1 rfl rfl rfl rfl) ?_
            refine OpsQ.yes (Want.plain rfl) rfl (OpR.call0 fn30 (piece_Text_Len_c hx19) rfl) ?_
            refine OpsQ.yes (Want.plain rfl) rfl (OpR.pure rfl) ?_
            refine OpsQ.yes (Want.plain rfl) rfl (OpR.pure rfl) ?_
            refine OpsQ.yes (Want.plain rfl) rfl (OpR.pure rfl) ?_
            refine OpsQ.no (Want.bool rfl rfl rfl rfl (by rw [(beq_eq_false_iff_ne.2 c20)]; rfl)) rfl ?_
            refine OpsQ.no (Want.bool rfl rfl rfl rfl (by rw [(beq_eq_false_iff_ne.2 c20)]; rfl)) rfl ?_
            refine OpsQ.no (Want.bool rfl rfl rfl rfl (by rw [(beq_eq_false_iff_ne.2 c20)]; rfl)) rfl ?_
            refine OpsQ.no (Want.bool rfl rfl rfl rfl (by rw [(beq_eq_false_iff_ne.2 c20)]; rfl)) rfl ?_
            refine OpsQ.no (Want.bool rfl rfl rfl rfl (by rw [(beq_eq_false_iff_ne.2 c20)]; rfl)) rfl ?_
            refine OpsQ.no (Want.bool rfl rfl rfl rfl (by rw [(beq_eq_false_iff_ne.2 c20)]; rfl)) rfl ?_
            refine OpsQ.no (Want.bool rfl rfl rfl rfl (by rw [(beq_eq_false_iff_ne.2 c20)]; rfl)) rfl ?_
            refine OpsQ.no (Want.bool rfl rfl rfl rfl (by rw [(beq_eq_false_iff_ne.2 c20)]; rfl)) rfl ?_
            refine OpsQ.no (Want.bool rfl rfl rfl rfl (by rw [(beq_eq_false_iff_ne.2 c20)]; rfl)) rfl ?_
            refine OpsQ.yes (Want.plain rfl) rfl (OpR.pickF rfl (beq_eq_false_iff_ne.2 c20) rfl) ?_
            refine OpsQ.yes (Want.plain rfl) rfl (OpR.pure rfl) ?_
            refine OpsQ.no (Want.bool rfl rfl rfl rfl rfl) rfl ?_
            refine OpsQ.no (Want.bool rfl rfl rfl rfl rfl) rfl ?_
            refine OpsQ.no (Want.bool rfl rfl rfl rfl rfl) rfl ?_
            refine OpsQ.no (Want.bool rfl rfl rfl rfl rfl) rfl ?_
            refine OpsQ.no (Want.bool rfl rfl rfl rfl rfl) rfl ?_
            refine OpsQ.no (Want.bool rfl rfl rfl rfl rfl) rfl ?_
            refine OpsQ.no (Want.bool rfl rfl rfl rfl rfl) rfl ?_
            refine OpsQ.no (Want.bool rfl rfl rfl rfl rfl) rfl ?_
            refine OpsQ.no (Want.bool rfl rfl rfl rfl rfl) rfl ?_
            refine OpsQ.yes (Want.plain rfl) rfl (OpR.pickF rfl rfl rfl) ?_
            refine OpsQ.yes (Want.plain rfl) rfl (OpR.pure rfl) ?_
            refine OpsQ.no (Want.bool rfl rfl rfl rfl rfl) rfl ?_
            refine OpsQ.no (Want.bool rfl rfl rfl rfl rfl) rfl ?_
            refine OpsQ.no (Want.bool rfl rfl rfl rfl rfl) rfl ?_
            refine OpsQ.no (Want.bool rfl rfl rfl rfl rfl) rfl ?_
            refine OpsQ.no (Want.bool rfl rfl rfl rfl rfl) rfl ?_
            refine OpsQ.no (Want.bool rfl rfl rfl rfl rfl) rfl ?_
            refine OpsQ.no (Want.bool rfl rfl rfl rfl rfl) rfl ?_
            refine OpsQ.no (Want.bool rfl rfl rfl rfl rfl) rfl ?_
            refine OpsQ.no (Want.bool rfl rfl rfl rfl rfl) rfl ?_
            refine OpsQ.no (Want.bool rfl rfl rfl rfl rfl) rfl ?_
            refine OpsQ.no (Want.bool rfl rfl rfl rfl rfl) rfl ?_
            refine OpsQ.no (Want.bool rfl rfl rfl rfl rfl) rfl ?_
            refine OpsQ.yes (Want.plain rfl) rfl (OpR.pickF rfl rfl rfl) ?_
            refine OpsQ.yes (Want.plain rfl) rfl (OpR.pure rfl) ?_
            refine OpsQ.no (Want.bool rfl rfl rfl rfl rfl) rfl ?_
            refine OpsQ.yes (Want.plain rfl) rfl (OpR.pickF rfl rfl rfl) ?_
            refine OpsQ.yes (Want.plain rfl) rfl (OpR.pure rfl) ?_
            exact OpsQ.nil
          · obtain rfl := Option.some.inj ht15
            exact ⟨_, Gst.trans (Gst.only [6] rfl) (Gst.pick [] rfl rfl), rfl⟩
      · rintro _ rfl
        show T X _ _ _
        refine T.ret ?_
        obtain rfl := Option.some.inj h0
        exact PostG.retP (ks := []) (Gst.only [6] rfl) undef (ResL.cons (ResV.tmp rfl) ResL.nil) rfl rfl rfl rfl
noncomputable def law05_cut (a0 : List UInt8) (a1 : Int) : Option (List UInt8) :=
  if (a0.length : Int) > a1 then
    bnd (cut a0 0 a1) fun x2 =>
    some x2
  else
    some a0
set_option maxHeartbeats 4000000 in
theorem law05_cut_c {a0 : List UInt8} {a1 : Int} {res : (List UInt8)} (h0 : law05_cut a0 a1 = some res) : CallF X 50 [.val (.string (bs a0)), .val (.int .i64 a1)] [] (fun x => .val (.string (bs res))) (fun x => []) := by
  unfold law05_cut at h0
  refine CallF.mkG (X := X) Try.func50 rfl rfl Try.ntmps50 rfl rfl ?_
  refine T.seq ?_
  refine T.region ?_
  refine TL.op1 (OpR.pure rfl) rfl ?_
  refine TL.nil ?_
  show T X _ _ _
  refine T.seq ?_
  refine T.seq ?_
  refine T.region ?_
  refine TL.op1 (OpR.pure rfl) rfl ?_
  refine TL.op1 (OpR.cast (OpR.pure rfl) (intE (lenS _))) rfl ?_
  refine TL.op1 (OpR.pure rfl) rfl ?_
  refine TL.op1 (OpR.pure rfl) rfl ?_
  refine TL.nil ?_
  show T X _ _ _
  rcases ite_some h0 with ⟨c1, h0⟩ | ⟨c1, h0⟩
  · refine T.condT rfl (decide_eq_true c1) ?_
    refine T.seq ?_
    refine T.region ?_
    refine TL.op1 (OpR.pure rfl) rfl ?_
    refine TL.op1 (OpR.pure rfl) rfl ?_
    obtain ⟨x2, hx2, h0⟩ := bnd_some h0
    refine TL.op1 (OpR.sliceS hx2 rfl rfl rfl BdM.none (BdM.some rfl)) rfl ?_
    refine TL.op1 (OpR.pure rfl) rfl ?_
    refine TL.nil ?_
    show T X _ _ _
    refine T.ret ?_
    obtain rfl := Option.some.inj h0
    exact PostG.retP (ks := []) (Gst.only [4] rfl) undef (ResL.cons (ResV.tmp rfl) ResL.nil) rfl rfl rfl rfl
  · refine T.condF rfl (decide_eq_false c1) ?_
    refine T.skip ?_
    show T X _ _ _
    refine T.seq ?_
    refine T.region ?_
    refine TL.op1 (OpR.pure rfl) rfl ?_
    refine TL.op1 (OpR.pure rfl) rfl ?_
    refine TL.nil ?_
    show T X _ _ _
    refine T.ret ?_
    obtain rfl := Option.some.inj h0
    exact PostG.retP (ks := []) (Gst.only [4] rfl) undef (ResL.cons (ResV.tmp rfl) ResL.nil) rfl rfl rfl rfl
noncomputable def scan_reader_done (a0 : List UInt8) (a1 : Int) : Option Bool :=
  some (decide (a1 ≥ (a0.length : Int)))
set_option maxHeartbeats 4000000 in
theorem scan_reader_done_c {a0 : List UInt8} {a1 : Int} {b0 : Nat} {res : Bool} (h0 : scan_reader_done a0 a1 = some res) : CallF X 75 [.val (.pointer (some ⟨b0, 0, none⟩))] [.var b0 [.sl 1 (List.map byteD a0), .val (.int .i64 a1)] 105] (fun x => .val (.bool res)) (fun x => [.var b0 [.sl 1 (List.map byteD a0), .val (.int .i64 a1)] 105]) := by
  unfold scan_reader_done at h0
  refine CallF.mkG (X := X) Try.func75 rfl rfl Try.ntmps75 rfl rfl ?_
  refine T.seq ?_
  refine T.region ?_
  refine TL.op1 (OpR.pure rfl) rfl ?_
  refine TL.nil ?_
  show T X _ _ _
  refine T.seq ?_
  refine T.drawQ drawsX [.val (.pointer (some ⟨b0, 0, none⟩)), .val (.pointer (some ⟨b0, 0, none⟩)), .val (.pointer (some ⟨b0, 1, none⟩)), .val (.int .i64 a1), .val (.pointer (some ⟨b0, 0, none⟩)), .val (.pointer (some ⟨b0, 0, none⟩)), .val (.pointer (some ⟨b0, 0, none⟩)), .sl 1 (List.map byteD a0), .val (.int .i64 (a0.length : Int)), .val (.bool (decide (a1 ≥ (a0.length : Int)))), .val (.bool (decide (a1 ≥ (a0.length : Int))))] [0, 2, 3, 4, 5, 6, 7, 8, 9, 10, 11, 12] (by decide +kernel) rfl ?_ rfl ?_
  · refine OpsQ.yes (Want.plain rfl) rfl (OpR.pure rfl) ?_
    refine OpsQ.yes (Want.plain rfl) rfl (OpR.pure rfl) ?_
    refine OpsQ.yes (Want.plain rfl) rfl (OpR.pure rfl) ?_
    refine OpsQ.yes (Want.plain rfl) rfl (OpR.loadPtr 0 rfl rfl rfl rfl) ?_
    refine OpsQ.yes (Want.plain rfl) rfl (OpR.pure rfl) ?_
    refine OpsQ.yes (Want.plain rfl) rfl (OpR.pure rfl) ?_
    refine OpsQ.yes (Want.plain rfl) rfl (OpR.pure rfl) ?_
    refine OpsQ.yes (Want.plain rfl) rfl (OpR.loadPtr 0 rfl rfl rfl rfl) ?_
    refine OpsQ.yes (Want.plain rfl) rfl (OpR.cast (OpR.pure rfl) (intE (lenM _ _))) ?_
    refine OpsQ.yes (Want.plain rfl) rfl (OpR.pure rfl) ?_
    refine OpsQ.yes (Want.plain rfl) rfl (OpR.pure rfl) ?_
    exact OpsQ.nil
  · show T X _ _ _
    refine T.ret ?_
    obtain rfl := Option.some.inj h0
    exact PostG.retP (ks := [0]) (Gst.only [2] rfl) undef (ResL.cons (ResV.tmp rfl) ResL.nil) rfl rfl rfl rfl
noncomputable def scan_reader_is (a0 : UInt8) (a1 : List UInt8) (a2 : Int) : Option Bool :=
  bnd (bnd (scan_reader_done a1 a2) fun x3 =>
  if x3 = true then
    some false
  else
    bnd (idx a1 a2) fun x5 =>
    some ((x5.toNat : Int) == (a0.toNat : Int)) : Option Bool) fun t1 =>
  some t1
set_option maxHeartbeats 4000000 in
theorem scan_reader_is_c {a0 : UInt8} {a1 : List UInt8} {a2 : Int} {b0 : Nat} {res : Bool} (h0 : scan_reader_is a0 a1 a2 = some res) : CallF X 83 [.val (.pointer (some ⟨b0, 0, none⟩)), .val (.int .u8 (a0.toNat : Int))] [.var b0 [.sl 1 (List.map byteD a1), .val (.int .i64 a2)] 105] (fun x => .val (.bool res)) (fun x => [.var b0 [.sl 1 (List.map byteD a1), .val (.int .i64 a2)] 105]) := by
  unfold scan_reader_is at h0
  refine CallF.mkG (X := X) Try.func83 rfl rfl Try.ntmps83 rfl rfl ?_
  refine T.seq ?_
  refine T.region ?_
  refine TL.op1 (OpR.pure rfl) rfl ?_
  refine TL.nil ?_
  show T X _ _ _
  refine T.seq ?_
  obtain ⟨t1, ht1, h0⟩ := bnd_some h0
  refine T.cutC (fun S' => S' = ⟨[(4, .val (.bool t1))], [.var b0 [.sl 1 (List.map byteD a1), .val (.int .i64 a2)] 105], 22⟩) (fun _ h => h) ?_ ?_
  · obtain ⟨x3, hx3, ht1⟩ := bnd_some ht1
    rcases ite_some ht1 with ⟨c4, ht1⟩ | ⟨c4, ht1⟩
    · refine T.drawQ drawsX [.val (.pointer (some ⟨b0, 0, none⟩)), .val (.bool x3), .val (.bool (!x3)), .val (.bool (!x3)), .tup [], .tup [], .tup [], .tup [], .tup [], .tup [], .tup [], .tup [], .tup [], .tup [], .tup [], .tup [], .val (.bool false), .val (.bool false)] [0, 1, 4, 5, 6, 7, 8, 9, 10, 11, 12, 13, 14, 15, 16, 17, 18, 19, 20, 21] (by decide +kernel) rfl ?_ rfl ?_
      · refine OpsQ.yes (Want.plain rfl) rfl (OpR.pure rfl) ?_
        refine OpsQ.yes (Want.plain rfl) rfl (OpR.call [0] fn75 (scan_reader_done_c hx3) rfl rfl rfl (fun _ => rfl)) ?_
        refine OpsQ.yes (Want.plain rfl) rfl (OpR.pure rfl) ?_
        refine OpsQ.yes (Want.plain rfl) rfl (OpR.pure rfl) ?_
        refine OpsQ.no (Want.bool rfl rfl rfl rfl (by rw [(not_t (c4))]; rfl)) rfl ?_
        refine OpsQ.no (Want.bool rfl rfl rfl rfl (by rw [(not_t (c4))]; rfl)) rfl ?_
        refine OpsQ.no (Want.bool rfl rfl rfl rfl (by rw [(not_t (c4))]; rfl)) rfl ?_
        refine OpsQ.no (Want.bool rfl rfl rfl rfl (by rw [(not_t (c4))]; rfl)) rfl ?_
        refine OpsQ.no (Want.bool rfl rfl rfl rfl (by rw [(not_t (c4))]; rfl)) rfl ?_
        refine OpsQ.no (Want.bool rfl rfl rfl rfl (by rw [(not_t (c4))]; rfl)) rfl ?_
        refine OpsQ.no (Want.bool rfl rfl rfl rfl (by rw [(not_t (c4))]; rfl)) rfl ?_
        refine OpsQ.no (Want.bool rfl rfl rfl rfl (by rw [(not_t (c4))]; rfl)) rfl ?_
        refine OpsQ.no (Want.bool rfl rfl rfl rfl (by rw [(not_t (c4))]; rfl)) rfl ?_
        refine OpsQ.no (Want.bool rfl rfl rfl rfl (by rw [(not_t (c4))]; rfl)) rfl ?_
        refine OpsQ.no (Want.bool rfl rfl rfl rfl (by rw [(not_t (c4))]; rfl)) rfl ?_
        refine OpsQ.no (Want.bool rfl rfl rfl rfl (by rw [(not_t (c4))]; rfl)) rfl ?_
        refine OpsQ.yes (Want.plain rfl) rfl (OpR.pickF rfl (not_t (c4)) rfl) ?_
        refine OpsQ.yes (Want.plain rfl) rfl (OpR.pure rfl) ?_
        exact OpsQ.nil
      · obtain rfl := Option.some.inj ht1
        exact ⟨_, Gst.only [4] rfl, rfl⟩
    · obtain ⟨x5, hx5, ht1⟩ := bnd_some ht1
      refine T.drawQ drawsX [.val (.pointer (some ⟨b0, 0, none⟩)), .val (.bool x3), .val (.bool (!x3)), .val (.bool (!x3)), .val (.pointer (some ⟨b0, 0, none⟩)), .val (.pointer (some ⟨b0, 0, none⟩)), .val (.pointer (some ⟨b0, 0, none⟩)), .sl 1 (List.map byteD a1), .val (.pointer (some ⟨b0, 0, none⟩)), .val (.pointer (some ⟨b0, 0, none⟩)), .val (.pointer (some ⟨b0, 1, none⟩)), .val (.int .i64 a2), .nod [.val (.int .u8 (x5.toNat : Int))], .val (.int .u8 (x5.toNat : Int)), .val (.int .u8 (a0.toNat : Int)), .val (.bool ((x5.toNat : Int) == (a0.toNat : Int))), .val (.bool ((x5.toNat : Int) == (a0.toNat : Int))), .val (.bool ((x5.toNat : Int) == (a0.toNat : Int)))] [0, 1, 4, 5, 6, 7, 8, 9, 10, 11, 12, 13, 14, 15, 16, 17, 18, 19, 20, 21] (by decide +kernel) rfl ?_ rfl ?_
      · refine OpsQ.yes (Want.plain rfl) rfl (OpR.pure rfl) ?_
        refine OpsQ.yes (Want.plain rfl) rfl (OpR.call [0] fn75 (scan_reader_done_c hx3) rfl rfl rfl (fun _ => rfl)) ?_
        refine OpsQ.yes (Want.plain rfl) rfl (OpR.pure rfl) ?_
        refine OpsQ.yes (Want.plain rfl) rfl (OpR.pure rfl) ?_
        refine OpsQ.yes (Want.bool rfl rfl rfl rfl (by rw [(not_f (eq_false_of_ne_true c4))]; rfl)) rfl (OpR.pure rfl) ?_
        refine OpsQ.yes (Want.bool rfl rfl rfl rfl (by rw [(not_f (eq_false_of_ne_true c4))]; rfl)) rfl (OpR.pure rfl) ?_
        refine OpsQ.yes (Want.bool rfl rfl rfl rfl (by rw [(not_f (eq_false_of_ne_true c4))]; rfl)) rfl (OpR.pure rfl) ?_
        refine OpsQ.yes (Want.bool rfl rfl rfl rfl (by rw [(not_f (eq_false_of_ne_true c4))]; rfl)) rfl (OpR.loadPtr 0 rfl rfl rfl rfl) ?_
        refine OpsQ.yes (Want.bool rfl rfl rfl rfl (by rw [(not_f (eq_false_of_ne_true c4))]; rfl)) rfl (OpR.pure rfl) ?_
        refine OpsQ.yes (Want.bool rfl rfl rfl rfl (by rw [(not_f (eq_false_of_ne_true c4))]; rfl)) rfl (OpR.pure rfl) ?_
        refine OpsQ.yes (Want.bool rfl rfl rfl rfl (by rw [(not_f (eq_false_of_ne_true c4))]; rfl)) rfl (OpR.pure rfl) ?_
        refine OpsQ.yes (Want.bool rfl rfl rfl rfl (by rw [(not_f (eq_false_of_ne_true c4))]; rfl)) rfl (OpR.loadPtr 0 rfl rfl rfl rfl) ?_
        refine OpsQ.yes (Want.bool rfl rfl rfl rfl (by rw [(not_f (eq_false_of_ne_true c4))]; rfl)) rfl (OpR.indexM byteD hx5 rfl rfl rfl rfl rfl) ?_
        refine OpsQ.yes (Want.bool rfl rfl rfl rfl (by rw [(not_f (eq_false_of_ne_true c4))]; rfl)) rfl (OpR.pure rfl) ?_
        refine OpsQ.yes (Want.bool rfl rfl rfl rfl (by rw [(not_f (eq_false_of_ne_true c4))]; rfl)) rfl (OpR.pure rfl) ?_
        refine OpsQ.yes (Want.bool rfl rfl rfl rfl (by rw [(not_f (eq_false_of_ne_true c4))]; rfl)) rfl (OpR.pure rfl) ?_
        refine OpsQ.yes (Want.plain rfl) rfl (OpR.pickT rfl (not_f (eq_false_of_ne_true c4)) rfl) ?_
        refine OpsQ.yes (Want.plain rfl) rfl (OpR.pure rfl) ?_
        exact OpsQ.nil
      · obtain rfl := Option.some.inj ht1
        exact ⟨_, Gst.only [4] rfl, rfl⟩
  · rintro _ rfl
    show T X _ _ _
    refine T.ret ?_
    obtain rfl := Option.some.inj h0
    exact PostG.retP (ks := [0]) (Gst.only [4] rfl) undef (ResL.cons (ResV.tmp rfl) ResL.nil) rfl rfl rfl rfl
end Go.Proofs.Ytbogkjbjgcclnaa.S
