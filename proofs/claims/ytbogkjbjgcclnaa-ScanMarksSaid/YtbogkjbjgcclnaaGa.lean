/- Printed by a program of this session's own (gen.py): Lean functions for Go functions, and the proofs that the Go code comes to their answers. -/
import Derived.Test.YtbogkjbjgcclnaaSTab
set_option linter.unusedVariables false
set_option linter.unusedSimpArgs false
namespace Go.Proofs.Ytbogkjbjgcclnaa.S
open Go Go.Sm
structure arena_Span where
  fAt : Int
  fN : Int
  deriving DecidableEq
def e_arena_Span (x : arena_Span) : Dat := .agg [.val (.int .i64 x.fAt), .val (.int .i64 x.fN)]
structure ref03_Span where
  fAt : Int
  fN : Int
  deriving DecidableEq
def e_ref03_Span (x : ref03_Span) : Dat := .agg [.val (.int .i64 x.fAt), .val (.int .i64 x.fN)]
theorem beq_arena_Span (p q : arena_Span) : ((p.fAt == q.fAt) && ((p.fN == q.fN) && true)) = (p == q) := by
  rw [Bool.eq_iff_iff]; cases p; cases q; simp [arena_Span.mk.injEq, bs_toList]
structure piece_Text where
  fL : List arena_Span
  fN : Int
  deriving DecidableEq
theorem beq_ref03_Span (p q : ref03_Span) : ((p.fAt == q.fAt) && ((p.fN == q.fN) && true)) = (p == q) := by
  rw [Bool.eq_iff_iff]; cases p; cases q; simp [ref03_Span.mk.injEq, bs_toList]
def e_piece_Text (x : piece_Text) : Dat := .agg [.sl 2 (List.map e_arena_Span x.fL), .val (.int .i64 x.fN)]
def e_sl31 (x : List Int) : Dat := .sl 1 (List.map (eI .i64) x)
structure scan_Field where
  fRaw : arena_Span
  fKind : Int
  fParts : List arena_Span
  deriving DecidableEq
def e_scan_Field (x : scan_Field) : Dat := .agg [.val (.int .i64 x.fRaw.fAt), .val (.int .i64 x.fRaw.fN), .val (.int .i64 x.fKind), .sl 2 (List.map e_arena_Span x.fParts)]
structure scan_Row where
  fFields : List scan_Field
  fEnd : Int
  deriving DecidableEq
def e_scan_Row (x : scan_Row) : Dat := .agg [.sl 4 (List.map e_scan_Field x.fFields), .val (.int .i64 x.fEnd)]
structure ref05_Field where
  fRaw : ref03_Span
  fKind : Int
  fBytes : List Int
  deriving DecidableEq
def e_ref05_Field (x : ref05_Field) : Dat := .agg [.val (.int .i64 x.fRaw.fAt), .val (.int .i64 x.fRaw.fN), .val (.int .i64 x.fKind), .sl 1 (List.map (eI .i64) x.fBytes)]
structure ref05_Row where
  fFields : List ref05_Field
  fEnd : Int
  deriving DecidableEq
def e_ref05_Row (x : ref05_Row) : Dat := .agg [.sl 4 (List.map e_ref05_Field x.fFields), .val (.int .i64 x.fEnd)]
structure law05_Spot where
  fS : List UInt8
  fParts : List arena_Span
  deriving DecidableEq
theorem drawsX : X.P.follows .mixedOrders = true := rfl
attribute [local irreducible] T TL OpR CallT iter loop
noncomputable def law04_Few.l1 (a0 : List arena_Span) (s6 : Int × (List arena_Span) × (List ref03_Span)) : Option (Lp (Int × (List arena_Span) × (List ref03_Span)) ((List arena_Span) × (List ref03_Span))) :=
  if s6.1 < (a0.length : Int) then
    bnd (idx a0 s6.1) fun x15 =>
    bnd (if s6.1 < 40 then
      if x15.fAt ≥ 0 then
        if x15.fAt < 1048576 then
          some (decide (x15.fN ≤ 60))
        else
          some false
      else
        some false
    else
      some false : Option Bool) fun t17 =>
    bnd (if t17 = true then
      bnd (app 16 s6.2.1 [x15]) fun x25 =>
      bnd (app 16 s6.2.2 [(⟨x15.fAt, x15.fN⟩ : ref03_Span)]) fun x27 =>
      some (x25, x27)
    else
      some (s6.2.1, s6.2.2) : Option ((List arena_Span) × (List ref03_Span))) fun t21 =>
    some (Lp.next (w64 (s6.1 + 1), t21.1, t21.2))
  else
    some (Lp.done (s6.2.1, s6.2.2))
noncomputable def law04_Few (a0 : List arena_Span) : Option ((List arena_Span) × (List ref03_Span)) :=
  bnd (loop (law04_Few.l1 a0) (0, [], []) : Option ((List arena_Span) × (List ref03_Span))) fun t1 =>
  some (t1.1, t1.2)
set_option maxHeartbeats 4000000 in
theorem law04_Few_c {a0 : List arena_Span} {res : (List arena_Span) × (List ref03_Span)} (h0 : law04_Few a0 = some res) : CallF X 14 [.sl 2 (List.map e_arena_Span a0)] [] (fun x => .tup [.sl 2 (List.map e_arena_Span res.1), .sl 2 (List.map e_ref03_Span res.2)]) (fun x => []) := by
  unfold law04_Few at h0
  refine CallF.mkG (X := X) Try.func14 rfl rfl Try.ntmps14 rfl rfl ?_
  refine T.seq ?_
  refine T.region ?_
  refine TL.op1 (OpR.pure rfl) rfl ?_
  refine TL.op1 (OpR.pure rfl) rfl ?_
  refine TL.nil ?_
  show T X _ _ _
  refine T.seq ?_
  refine T.region ?_
  refine TL.op1 (OpR.pure rfl) rfl ?_
  refine TL.nil ?_
  show T X _ _ _
  refine T.seq ?_
  refine T.region ?_
  refine TL.op1 (OpR.pure rfl) rfl ?_
  refine TL.nil ?_
  show T X _ _ _
  refine T.seq ?_
  refine T.seq ?_
  refine T.region ?_
  refine TL.op1 (OpR.pure rfl) rfl ?_
  refine TL.op1 (OpR.cast (OpR.pure rfl) (intE (lenM _ _))) rfl ?_
  refine TL.op1 (OpR.pure rfl) rfl ?_
  refine TL.nil ?_
  show T X _ _ _
  obtain ⟨t1, ht1, h0⟩ := bnd_some h0
  refine T.cutC (fun S' => ∃ y2 : Value, ∃ y3 : Value, S' = ⟨[(5, .val y3), (4, .val y2), (3, .val (.slice none 0 0)), (2, .val (.slice none 0 0))], [.row y2 (List.map e_arena_Span t1.1) 2 75, .row y3 (List.map e_ref03_Span t1.2) 2 80], 47⟩) (fun _ h => h) ?_ ?_
  · refine T.block ?_
    obtain ⟨n7, n12⟩ := loop_some ht1
    refine T.loop (fun n S' => ∃ S'', Gst S' S'' ∧ ∃ y4 : Value, ∃ y5 : Value, ∃ s6 : Int × (List arena_Span) × (List ref03_Span), S'' = ⟨[(10, .val (.int .i64 s6.1)), (9, .val (.int .i64 (a0.length : Int))), (8, .sl 2 (List.map e_arena_Span a0)), (5, .val y5), (4, .val y4), (3, .val (.slice none 0 0)), (2, .val (.slice none 0 0))], [.row y4 (List.map e_arena_Span s6.2.1) 2 75, .row y5 (List.map e_ref03_Span s6.2.2) 2 80], 47⟩ ∧ iter (law04_Few.l1 a0) n s6 = some t1) n7 ?_ ?_
    · exact ⟨_, Gst.trans (Gst.only [2, 3, 4, 5, 8, 9, 10] rfl) (Gst.trans (Gst.nilRow (ow := []) 2 75 rfl) (Gst.nilRow (ow := [.row (.slice none 0 0) (List.map e_arena_Span []) 2 75]) 2 80 rfl)), (.slice none 0 0), (.slice none 0 0), (0, [], []), rfl, n12⟩
    rintro n7 _ ⟨_, g, y4, y5, s6, rfl, i11⟩
    refine T.ghost g ?_
    obtain ⟨m8, q9, rfl, q10, i11⟩ := iter_succ i11
    unfold law04_Few.l1 at q10
    refine T.seq ?_
    refine T.region ?_
    refine TL.op1 (OpR.pure rfl) rfl ?_
    refine TL.nil ?_
    show T X _ _ _
    refine T.seq ?_
    rcases ite_some q10 with ⟨c14, q10⟩ | ⟨c14, q10⟩
    · refine T.condT rfl (decide_eq_true c14) ?_
      refine T.skip ?_
      show T X _ _ _
      refine T.seq ?_
      refine T.block ?_
      refine T.seq ?_
      refine T.region ?_
      refine TL.op1 (OpR.pure rfl) rfl ?_
      obtain ⟨x15, hx15, q10⟩ := bnd_some q10
      refine TL.op1 (OpR.indexM e_arena_Span hx15 rfl rfl rfl rfl rfl) rfl ?_
      refine TL.op1 (OpR.pure rfl) rfl ?_
      refine TL.op (OpR.alloc rfl rfl (fun _ => rfl)) rfl (fun p16 => ?_)
      refine TL.op1 (OpR.pure rfl) rfl ?_
      refine TL.op0 (OpR.store 2 rfl rfl rfl rfl rfl rfl rfl rfl) ?_
      refine TL.nil ?_
      show T X _ _ _
      refine T.seq ?_
      obtain ⟨t17, ht17, q10⟩ := bnd_some q10
      refine T.cutC (fun S' => S' = ⟨[(31, .val (.bool t17)), (10, .val (.int .i64 s6.1)), (9, .val (.int .i64 (a0.length : Int))), (8, .sl 2 (List.map e_arena_Span a0)), (7, .val (.pointer (some ⟨(blk p16), 0, none⟩))), (5, .val y5), (4, .val y4), (3, .val (.slice none 0 0)), (2, .val (.slice none 0 0))], [.row y4 (List.map e_arena_Span s6.2.1) 2 75, .row y5 (List.map e_ref03_Span s6.2.2) 2 80, .var (blk p16) [.val (.int .i64 x15.fAt), .val (.int .i64 x15.fN)] 75], 47⟩) (fun _ h => h) ?_ ?_
      · refine T.region ?_
        refine TL.op1 (OpR.pure rfl) rfl ?_
        refine TL.op1 (OpR.pure rfl) rfl ?_
        refine TL.op1 (OpR.pure rfl) rfl ?_
        rcases ite_some ht17 with ⟨c18, ht17⟩ | ⟨c18, ht17⟩
        · refine TL.on rfl rfl rfl rfl (decide_eq_true c18) ?_
          refine TL.op1 (OpR.pure rfl) rfl ?_
          refine TL.on rfl rfl rfl rfl (decide_eq_true c18) ?_
          refine TL.op1 (OpR.loadPtr 2 rfl rfl rfl rfl) rfl ?_
          refine TL.on rfl rfl rfl rfl (decide_eq_true c18) ?_
          refine TL.op1 (OpR.pure rfl) rfl ?_
          refine TL.op1 (OpR.pickT rfl (decide_eq_true c18) rfl) rfl ?_
          refine TL.op1 (OpR.pure rfl) rfl ?_
          rcases ite_some ht17 with ⟨c19, ht17⟩ | ⟨c19, ht17⟩
          · refine TL.on rfl rfl rfl rfl (decide_eq_true c19) ?_
            refine TL.op1 (OpR.pure rfl) rfl ?_
            refine TL.on rfl rfl rfl rfl (decide_eq_true c19) ?_
            refine TL.op1 (OpR.loadPtr 2 rfl rfl rfl rfl) rfl ?_
            refine TL.on rfl rfl rfl rfl (decide_eq_true c19) ?_
            refine TL.op1 (OpR.pure rfl) rfl ?_
            refine TL.op1 (OpR.pickT rfl (decide_eq_true c19) rfl) rfl ?_
            refine TL.op1 (OpR.pure rfl) rfl ?_
            rcases ite_some ht17 with ⟨c20, ht17⟩ | ⟨c20, ht17⟩
            · refine TL.on rfl rfl rfl rfl (decide_eq_true c20) ?_
              refine TL.op1 (OpR.pure rfl) rfl ?_
              refine TL.on rfl rfl rfl rfl (decide_eq_true c20) ?_
              refine TL.op1 (OpR.loadPtr 2 rfl rfl rfl rfl) rfl ?_
              refine TL.on rfl rfl rfl rfl (decide_eq_true c20) ?_
              refine TL.op1 (OpR.pure rfl) rfl ?_
              refine TL.op1 (OpR.pickT rfl (decide_eq_true c20) rfl) rfl ?_
              refine TL.nil ?_
              obtain rfl := Option.some.inj ht17
              exact ⟨_, Gst.only [2, 3, 4, 5, 7, 8, 9, 10, 31] rfl, rfl⟩
            · refine TL.off rfl rfl rfl rfl (decide_eq_false c20) rfl rfl ?_
              refine TL.off rfl rfl rfl rfl (decide_eq_false c20) rfl rfl ?_
              refine TL.off rfl rfl rfl rfl (decide_eq_false c20) rfl rfl ?_
              refine TL.op1 (OpR.pickF rfl (decide_eq_false c20) rfl) rfl ?_
              refine TL.nil ?_
              obtain rfl := Option.some.inj ht17
              exact ⟨_, Gst.only [2, 3, 4, 5, 7, 8, 9, 10, 31] rfl, rfl⟩
          · refine TL.off rfl rfl rfl rfl (decide_eq_false c19) rfl rfl ?_
            refine TL.off rfl rfl rfl rfl (decide_eq_false c19) rfl rfl ?_
            refine TL.off rfl rfl rfl rfl (decide_eq_false c19) rfl rfl ?_
            refine TL.op1 (OpR.pickF rfl (decide_eq_false c19) rfl) rfl ?_
            refine TL.op1 (OpR.pure rfl) rfl ?_
            refine TL.off rfl rfl rfl rfl rfl rfl rfl ?_
            refine TL.off rfl rfl rfl rfl rfl rfl rfl ?_
            refine TL.off rfl rfl rfl rfl rfl rfl rfl ?_
            refine TL.op1 (OpR.pickF rfl rfl rfl) rfl ?_
            refine TL.nil ?_
            obtain rfl := Option.some.inj ht17
            exact ⟨_, Gst.only [2, 3, 4, 5, 7, 8, 9, 10, 31] rfl, rfl⟩
        · refine TL.off rfl rfl rfl rfl (decide_eq_false c18) rfl rfl ?_
          refine TL.off rfl rfl rfl rfl (decide_eq_false c18) rfl rfl ?_
          refine TL.off rfl rfl rfl rfl (decide_eq_false c18) rfl rfl ?_
          refine TL.op1 (OpR.pickF rfl (decide_eq_false c18) rfl) rfl ?_
          refine TL.op1 (OpR.pure rfl) rfl ?_
          refine TL.off rfl rfl rfl rfl rfl rfl rfl ?_
          refine TL.off rfl rfl rfl rfl rfl rfl rfl ?_
          refine TL.off rfl rfl rfl rfl rfl rfl rfl ?_
          refine TL.op1 (OpR.pickF rfl rfl rfl) rfl ?_
          refine TL.op1 (OpR.pure rfl) rfl ?_
          refine TL.off rfl rfl rfl rfl rfl rfl rfl ?_
          refine TL.off rfl rfl rfl rfl rfl rfl rfl ?_
          refine TL.off rfl rfl rfl rfl rfl rfl rfl ?_
          refine TL.op1 (OpR.pickF rfl rfl rfl) rfl ?_
          refine TL.nil ?_
          obtain rfl := Option.some.inj ht17
          exact ⟨_, Gst.only [2, 3, 4, 5, 7, 8, 9, 10, 31] rfl, rfl⟩
      · rintro _ rfl
        show T X _ _ _
        obtain ⟨t21, ht21, q10⟩ := bnd_some q10
        refine T.cutC (fun S' => ∃ y22 : Value, ∃ y23 : Value, S' = ⟨[(10, .val (.int .i64 s6.1)), (9, .val (.int .i64 (a0.length : Int))), (8, .sl 2 (List.map e_arena_Span a0)), (5, .val y23), (4, .val y22), (3, .val (.slice none 0 0)), (2, .val (.slice none 0 0))], [.row y22 (List.map e_arena_Span t21.1) 2 75, .row y23 (List.map e_ref03_Span t21.2) 2 80], 47⟩) (fun _ h => h) ?_ ?_
        · rcases ite_some ht21 with ⟨c24, ht21⟩ | ⟨c24, ht21⟩
          · refine T.condT rfl (c24) ?_
            refine T.seq ?_
            refine T.region ?_
            refine TL.op1 (OpR.pure rfl) rfl ?_
            refine TL.op1 (OpR.loadPtr 2 rfl rfl rfl rfl) rfl ?_
            refine TL.op1 (OpR.lit rfl rfl rfl rfl rfl rfl rfl) rfl ?_
            obtain ⟨x25, hx25, ht21⟩ := bnd_some ht21
            refine TL.op (OpR.appendM (m := [x15]) e_arena_Span 0 hx25 rfl rfl rfl rfl rfl rfl rfl rfl rfl (fun _ => rfl)) rfl (fun v26 => ?_)
            refine TL.op1 (OpR.pure rfl) rfl ?_
            refine TL.nil ?_
            show T X _ _ _
            refine T.region ?_
            refine TL.op1 (OpR.pure rfl) rfl ?_
            refine TL.op1 (OpR.pure rfl) rfl ?_
            refine TL.op1 (OpR.loadPtr 2 rfl rfl rfl rfl) rfl ?_
            refine TL.op1 (OpR.pure rfl) rfl ?_
            refine TL.op1 (OpR.loadPtr 2 rfl rfl rfl rfl) rfl ?_
            refine TL.op1 (OpR.build rfl rfl rfl rfl rfl) rfl ?_
            refine TL.op1 (OpR.lit rfl rfl rfl rfl rfl rfl rfl) rfl ?_
            obtain ⟨x27, hx27, ht21⟩ := bnd_some ht21
            refine TL.op (OpR.appendM (m := [(⟨x15.fAt, x15.fN⟩ : ref03_Span)]) e_ref03_Span 1 hx27 rfl rfl rfl rfl rfl rfl rfl rfl rfl (fun _ => rfl)) rfl (fun v28 => ?_)
            refine TL.op1 (OpR.pure rfl) rfl ?_
            refine TL.nil ?_
            obtain rfl := Option.some.inj ht21
            exact ⟨_, Gst.trans (Gst.only [2, 3, 4, 5, 8, 9, 10] rfl) (Gst.pick [0, 1] rfl rfl), v26, v28, rfl⟩
          · refine T.condF rfl (eq_false_of_ne_true c24) ?_
            refine T.skip ?_
            obtain rfl := Option.some.inj ht21
            exact ⟨_, Gst.trans (Gst.only [2, 3, 4, 5, 8, 9, 10] rfl) (Gst.pick [0, 1] rfl rfl), y4, y5, rfl⟩
        · rintro _ ⟨y22, y23, rfl⟩
          show T X _ _ _
          refine T.region ?_
          refine TL.op1 (OpR.pure rfl) rfl ?_
          refine TL.op1 (OpR.pure rfl) rfl ?_
          refine TL.nil ?_
          obtain rfl := Option.some.inj q10
          exact ⟨m8, Nat.lt_succ_self _, _, Gst.only [2, 3, 4, 5, 8, 9, 10] rfl, y22, y23, (w64 (s6.1 + 1), t21.1, t21.2), rfl, i11⟩
    · refine T.condF rfl (decide_eq_false c14) ?_
      refine T.exit ?_
      obtain rfl := Option.some.inj q10
      obtain rfl : _ = _ := i11
      exact ⟨_, Gst.only [2, 3, 4, 5] rfl, y4, y5, rfl⟩
  · rintro _ ⟨y2, y3, rfl⟩
    show T X _ _ _
    refine T.seq ?_
    refine T.region ?_
    refine TL.op1 (OpR.pure rfl) rfl ?_
    refine TL.op1 (OpR.pure rfl) rfl ?_
    refine TL.op1 (OpR.pure rfl) rfl ?_
    refine TL.op1 (OpR.pure rfl) rfl ?_
    refine TL.nil ?_
    show T X _ _ _
    refine T.ret ?_
    obtain rfl := Option.some.inj h0
    exact PostG.retP (ks := []) (Gst.trans (Gst.only [2, 3] rfl) (Gst.trans (Gst.freezeRow 0 rfl rfl (ReS.cons Re.refl (ReS.cons (Re.base .all) ReS.nil)) (ReO.same (ReO.same ReO.nil))) (Gst.trans (Gst.freezeRow 1 rfl rfl (ReS.cons (Re.base .all) (ReS.cons Re.refl ReS.nil)) (ReO.same (ReO.same ReO.nil))) (Gst.pick [] rfl rfl)))) undef (ResL.cons (ResV.tmp rfl) (ResL.cons (ResV.tmp rfl) ResL.nil)) rfl rfl rfl rfl
noncomputable def arena_Join (a0 : arena_Span) (a1 : arena_Span) : Option (arena_Span × Bool) :=
  bnd (if a0.fN < 0 then
    some true
  else
    if a1.fN < 0 then
      some true
    else
      some (!(a1 == (⟨w64 (a0.fAt + a0.fN), a1.fN⟩ : arena_Span))) : Option Bool) fun t2 =>
  if t2 = true then
    some ((⟨0, 0⟩ : arena_Span), false)
  else
    some ((⟨a0.fAt, w64 (a0.fN + a1.fN)⟩ : arena_Span), true)
set_option maxHeartbeats 4000000 in
theorem arena_Join_c {a0 : arena_Span} {a1 : arena_Span} {res : arena_Span × Bool} (h0 : arena_Join a0 a1 = some res) : CallF X 78 [.agg [.val (.int .i64 a0.fAt), .val (.int .i64 a0.fN)], .agg [.val (.int .i64 a1.fAt), .val (.int .i64 a1.fN)]] [] (fun x => .tup [.agg [.val (.int .i64 res.1.fAt), .val (.int .i64 res.1.fN)], .val (.bool res.2)]) (fun x => []) := by
  unfold arena_Join at h0
  refine CallF.mkG (X := X) Try.func78 rfl rfl Try.ntmps78 rfl rfl ?_
  refine T.seq ?_
  refine T.region ?_
  refine TL.op1 (OpR.boxImm rfl rfl) rfl ?_
  refine TL.op1 (OpR.boxImm rfl rfl) rfl ?_
  refine TL.op (OpR.alloc rfl rfl (fun _ => rfl)) rfl (fun p1 => ?_)
  refine TL.op1 (OpR.pure rfl) rfl ?_
  refine TL.nil ?_
  show T X _ _ _
  refine T.seq ?_
  refine T.seq ?_
  obtain ⟨t2, ht2, h0⟩ := bnd_some h0
  refine T.cutC (fun S' => S' = ⟨[(25, .val (.bool t2)), (5, .val (.bool false)), (4, .val (.pointer (some ⟨(blk p1), 0, none⟩))), (3, .nod [.val (.int .i64 a1.fAt), .val (.int .i64 a1.fN)]), (2, .nod [.val (.int .i64 a0.fAt), .val (.int .i64 a0.fN)])], [.var (blk p1) [.val (.int .i64 0), .val (.int .i64 0)] 75], 35⟩) (fun _ h => h) ?_ ?_
  · refine T.region ?_
    refine TL.op1 (OpR.pure rfl) rfl ?_
    refine TL.op1 (OpR.pure rfl) rfl ?_
    refine TL.op1 (OpR.pure rfl) rfl ?_
    refine TL.op1 (OpR.pure rfl) rfl ?_
    rcases ite_some ht2 with ⟨c3, ht2⟩ | ⟨c3, ht2⟩
    · refine TL.off rfl rfl rfl rfl (decide_eq_true c3) rfl rfl ?_
      refine TL.off rfl rfl rfl rfl (decide_eq_true c3) rfl rfl ?_
      refine TL.off rfl rfl rfl rfl (decide_eq_true c3) rfl rfl ?_
      refine TL.op1 (OpR.pickT rfl (decide_eq_true c3) rfl) rfl ?_
      refine TL.op1 (OpR.pure rfl) rfl ?_
      refine TL.off rfl rfl rfl rfl rfl rfl rfl ?_
      refine TL.off rfl rfl rfl rfl rfl rfl rfl ?_
      refine TL.off rfl rfl rfl rfl rfl rfl rfl ?_
      refine TL.off rfl rfl rfl rfl rfl rfl rfl ?_
      refine TL.off rfl rfl rfl rfl rfl rfl rfl ?_
      refine TL.off rfl rfl rfl rfl rfl rfl rfl ?_
      refine TL.off rfl rfl rfl rfl rfl rfl rfl ?_
      refine TL.off rfl rfl rfl rfl rfl rfl rfl ?_
      refine TL.off rfl rfl rfl rfl rfl rfl rfl ?_
      refine TL.off rfl rfl rfl rfl rfl rfl rfl ?_
      refine TL.op1 (OpR.pickT rfl rfl rfl) rfl ?_
      refine TL.nil ?_
      obtain rfl := Option.some.inj ht2
      exact ⟨_, Gst.only [2, 3, 4, 5, 25] rfl, rfl⟩
    · refine TL.on rfl rfl rfl rfl (decide_eq_false c3) ?_
      refine TL.op1 (OpR.pure rfl) rfl ?_
      refine TL.on rfl rfl rfl rfl (decide_eq_false c3) ?_
      refine TL.op1 (OpR.pure rfl) rfl ?_
      refine TL.on rfl rfl rfl rfl (decide_eq_false c3) ?_
      refine TL.op1 (OpR.pure rfl) rfl ?_
      refine TL.op1 (OpR.pickF rfl (decide_eq_false c3) rfl) rfl ?_
      refine TL.op1 (OpR.pure rfl) rfl ?_
      rcases ite_some ht2 with ⟨c4, ht2⟩ | ⟨c4, ht2⟩
      · refine TL.off rfl rfl rfl rfl (decide_eq_true c4) rfl rfl ?_
        refine TL.off rfl rfl rfl rfl (decide_eq_true c4) rfl rfl ?_
        refine TL.off rfl rfl rfl rfl (decide_eq_true c4) rfl rfl ?_
        refine TL.off rfl rfl rfl rfl (decide_eq_true c4) rfl rfl ?_
        refine TL.off rfl rfl rfl rfl (decide_eq_true c4) rfl rfl ?_
        refine TL.off rfl rfl rfl rfl (decide_eq_true c4) rfl rfl ?_
        refine TL.off rfl rfl rfl rfl (decide_eq_true c4) rfl rfl ?_
        refine TL.off rfl rfl rfl rfl (decide_eq_true c4) rfl rfl ?_
        refine TL.off rfl rfl rfl rfl (decide_eq_true c4) rfl rfl ?_
        refine TL.off rfl rfl rfl rfl (decide_eq_true c4) rfl rfl ?_
        refine TL.op1 (OpR.pickT rfl (decide_eq_true c4) rfl) rfl ?_
        refine TL.nil ?_
        obtain rfl := Option.some.inj ht2
        exact ⟨_, Gst.only [2, 3, 4, 5, 25] rfl, rfl⟩
      · refine TL.on rfl rfl rfl rfl (decide_eq_false c4) ?_
        refine TL.op1 (OpR.pure rfl) rfl ?_
        refine TL.on rfl rfl rfl rfl (decide_eq_false c4) ?_
        refine TL.op1 (OpR.pure rfl) rfl ?_
        refine TL.on rfl rfl rfl rfl (decide_eq_false c4) ?_
        refine TL.op1 (OpR.pure rfl) rfl ?_
        refine TL.on rfl rfl rfl rfl (decide_eq_false c4) ?_
        refine TL.op1 (OpR.pure rfl) rfl ?_
        refine TL.on rfl rfl rfl rfl (decide_eq_false c4) ?_
        refine TL.op1 (OpR.pure rfl) rfl ?_
        refine TL.on rfl rfl rfl rfl (decide_eq_false c4) ?_
        refine TL.op1 (OpR.pure rfl) rfl ?_
        refine TL.on rfl rfl rfl rfl (decide_eq_false c4) ?_
        refine TL.op1 (OpR.pure rfl) rfl ?_
        refine TL.on rfl rfl rfl rfl (decide_eq_false c4) ?_
        refine TL.op1 (OpR.pure rfl) rfl ?_
        refine TL.on rfl rfl rfl rfl (decide_eq_false c4) ?_
        refine TL.op1 (OpR.build rfl rfl rfl rfl rfl) rfl ?_
        refine TL.on rfl rfl rfl rfl (decide_eq_false c4) ?_
        refine TL.op1 (OpR.cast (OpR.neStruct rfl rfl rfl rfl rfl (by kernel_rfl) (by kernel_rfl)) (boolE (congrArg (fun b => !b) (beq_arena_Span a1 (⟨w64 (a0.fAt + a0.fN), a1.fN⟩ : arena_Span))))) rfl ?_
        refine TL.op1 (OpR.pickF rfl (decide_eq_false c4) rfl) rfl ?_
        refine TL.nil ?_
        obtain rfl := Option.some.inj ht2
        exact ⟨_, Gst.only [2, 3, 4, 5, 25] rfl, rfl⟩
  · rintro _ rfl
    show T X _ _ _
    rcases ite_some h0 with ⟨c5, h0⟩ | ⟨c5, h0⟩
    · refine T.condT rfl (c5) ?_
      refine T.seq ?_
      refine T.region ?_
      refine TL.op1 (OpR.build rfl rfl rfl rfl rfl) rfl ?_
      refine TL.op0 (OpR.store 0 rfl rfl rfl rfl rfl rfl rfl rfl) ?_
      refine TL.op1 (OpR.pure rfl) rfl ?_
      refine TL.nil ?_
      show T X _ _ _
      refine T.ret ?_
      obtain rfl := Option.some.inj h0
      exact PostG.retP (ks := []) (Gst.only [4, 5] rfl) undef (ResL.cons (ResV.var 0 rfl rfl rfl rfl) (ResL.cons (ResV.tmp rfl) ResL.nil)) rfl rfl rfl rfl
    · refine T.condF rfl (eq_false_of_ne_true c5) ?_
      refine T.skip ?_
      show T X _ _ _
      refine T.seq ?_
      refine T.region ?_
      refine TL.op1 (OpR.pure rfl) rfl ?_
      refine TL.op1 (OpR.pure rfl) rfl ?_
      refine TL.op1 (OpR.pure rfl) rfl ?_
      refine TL.op1 (OpR.pure rfl) rfl ?_
      refine TL.op1 (OpR.pure rfl) rfl ?_
      refine TL.op1 (OpR.pure rfl) rfl ?_
      refine TL.op1 (OpR.pure rfl) rfl ?_
      refine TL.op1 (OpR.build rfl rfl rfl rfl rfl) rfl ?_
      refine TL.op0 (OpR.store 0 rfl rfl rfl rfl rfl rfl rfl rfl) ?_
      refine TL.op1 (OpR.pure rfl) rfl ?_
      refine TL.nil ?_
      show T X _ _ _
      refine T.ret ?_
      obtain rfl := Option.some.inj h0
      exact PostG.retP (ks := []) (Gst.only [4, 5] rfl) undef (ResL.cons (ResV.var 0 rfl rfl rfl rfl) (ResL.cons (ResV.tmp rfl) ResL.nil)) rfl rfl rfl rfl
noncomputable def piece_Text_with_2 (a0 : arena_Span) (a1 : Int) (a2 : List arena_Span) : Option (Int × (List arena_Span)) :=
  if a0.fN < 1 then
    some (a1, a2)
  else
    bnd (if (w64 ((a2.length : Int) - 1)) ≥ 0 then
      bnd (idx a2 (w64 ((a2.length : Int) - 1))) fun x7 =>
      bnd (arena_Join x7 a0) fun x8 =>
      if x8.2 = true then
        some (Ex.ret (w64 (a1 + a0.fN), (a2.set (w64 ((a2.length : Int) - 1)).toNat x8.1)))
      else
        some (Ex.brk ())
    else
      some (Ex.brk ()) : Option (Ex Unit (Int × (List arena_Span)))) fun t3 => match t3 with
      | .brk u4 =>
        bnd (app 16 a2 [a0]) fun x12 =>
        some (w64 (a1 + a0.fN), x12)
      | .ret u4 => some u4
set_option maxHeartbeats 4000000 in
theorem piece_Text_with_2_c {a0 : arena_Span} {a1 : Int} {a2 : List arena_Span} {b0 : Nat} {v1 : Value} {res : Int × (List arena_Span)} (h0 : piece_Text_with_2 a0 a1 a2 = some res) : CallF X 60 [.val (.pointer (some ⟨b0, 0, none⟩)), .agg [.val (.int .i64 a0.fAt), .val (.int .i64 a0.fN)]] [.var b0 [.val v1, .val (.int .i64 a1)] 27, .row v1 (List.map e_arena_Span a2) 2 75] (fun x => .tup []) (fun x => [.var b0 [.val (vn x 0), .val (.int .i64 res.1)] 27, .row (vn x 0) (List.map e_arena_Span res.2) 2 75]) := by
  unfold piece_Text_with_2 at h0
  refine CallF.mkG (X := X) Try.func60 rfl rfl Try.ntmps60 rfl rfl ?_
  refine T.seq ?_
  refine T.region ?_
  refine TL.op1 (OpR.boxImm rfl rfl) rfl ?_
  refine TL.nil ?_
  show T X _ _ _
  refine T.seq ?_
  refine T.seq ?_
  refine T.region ?_
  refine TL.op1 (OpR.pure rfl) rfl ?_
  refine TL.op1 (OpR.pure rfl) rfl ?_
  refine TL.op1 (OpR.pure rfl) rfl ?_
  refine TL.nil ?_
  show T X _ _ _
  rcases ite_some h0 with ⟨c1, h0⟩ | ⟨c1, h0⟩
  · refine T.condT rfl (decide_eq_true c1) ?_
    refine T.ret ?_
    obtain rfl := Option.some.inj h0
    exact PostG.retP (ks := [0, 1]) (Gst.only [] rfl) (.tuple #[v1]) ResL.nil rfl rfl rfl rfl
  · refine T.condF rfl (decide_eq_false c1) ?_
    refine T.skip ?_
    show T X _ _ _
    refine T.seq ?_
    refine T.drawS drawsX (fun env2 => [.val (.pointer (some ⟨b0, 0, none⟩)), .val (.pointer (some ⟨b0, 0, none⟩)), .val (.pointer (some ⟨b0, 1, none⟩)), .val (.int .i64 a1), .nod [.val (.int .i64 a0.fN)], .val (.int .i64 a0.fN), .val (.int .i64 (w64 (a1 + a0.fN))), .val (.pointer (some ⟨b0, 0, none⟩)), .val (.pointer (some ⟨b0, 1, none⟩)), .dead]) (fun D env2 => [(bif D 9 then .var b0 [.val v1, .val (.int .i64 (w64 (a1 + a0.fN)))] 27 else .var b0 [.val v1, .val (.int .i64 a1)] 27), .row v1 (List.map e_arena_Span a2) 2 75]) [0, 1, 3, 7, 0, 16, 63, 127, 255, 511] [0, 1, 3, 7, 8, 9, 10, 11, 12, 13, 14, 15, 16, 17, 18] (fun env2 => [.var b0 [.val v1, .val (.int .i64 (w64 (a1 + a0.fN)))] 27, .row v1 (List.map e_arena_Span a2) 2 75]) (by decide +kernel) (by decide +kernel) (fun _ => rfl) (fun _ => rfl) ?_ (fun _ => rfl) (fun _ => rfl) ?_
    · refine OpsS.cons' true ?_ (fun _ _ _ _ _ _ _ => rfl) ?_
      · intro D env2 hA
        have e9 : D 9 = false := hA.no 9 _ rfl rfl
        exact OpS.yes (o0 := [.var b0 [.val v1, .val (.int .i64 a1)] 27, .row v1 (List.map e_arena_Span a2) 2 75]) (o1 := fun x => [.var b0 [.val v1, .val (.int .i64 a1)] 27, .row v1 (List.map e_arena_Span a2) 2 75]) (d := fun x => .val (.pointer (some ⟨b0, 0, none⟩))) (Want.plain rfl) (by first | rfl | simp only [e9, cond_true, cond_false, List.cons_append, List.nil_append, List.append_nil]) (fun x => by first | rfl | simp only [ins_self, ins_ne D (show 0 ≠ 9 by decide), upd_self, e9, cond_true, cond_false, List.cons_append, List.nil_append, List.append_nil]) (fun x => rfl) (OpR.pure rfl)
      refine OpsS.cons' true ?_ (fun _ _ _ _ _ _ _ => rfl) ?_
      · intro D env2 hA
        have e9 : D 9 = false := hA.no 9 _ rfl rfl
        exact OpS.yes (o0 := [.var b0 [.val v1, .val (.int .i64 a1)] 27, .row v1 (List.map e_arena_Span a2) 2 75]) (o1 := fun x => [.var b0 [.val v1, .val (.int .i64 a1)] 27, .row v1 (List.map e_arena_Span a2) 2 75]) (d := fun x => .val (.pointer (some ⟨b0, 0, none⟩))) (Want.plain rfl) (by first | rfl | simp only [e9, cond_true, cond_false, List.cons_append, List.nil_append, List.append_nil]) (fun x => by first | rfl | simp only [ins_self, ins_ne D (show 1 ≠ 9 by decide), upd_self, e9, cond_true, cond_false, List.cons_append, List.nil_append, List.append_nil]) (fun x => rfl) (OpR.pure rfl)
      refine OpsS.cons' true ?_ (fun _ _ _ _ _ _ _ => rfl) ?_
      · intro D env2 hA
        have e9 : D 9 = false := hA.no 9 _ rfl rfl
        exact OpS.yes (o0 := [.var b0 [.val v1, .val (.int .i64 a1)] 27, .row v1 (List.map e_arena_Span a2) 2 75]) (o1 := fun x => [.var b0 [.val v1, .val (.int .i64 a1)] 27, .row v1 (List.map e_arena_Span a2) 2 75]) (d := fun x => .val (.pointer (some ⟨b0, 1, none⟩))) (Want.plain rfl) (by first | rfl | simp only [e9, cond_true, cond_false, List.cons_append, List.nil_append, List.append_nil]) (fun x => by first | rfl | simp only [ins_self, ins_ne D (show 2 ≠ 9 by decide), upd_self, e9, cond_true, cond_false, List.cons_append, List.nil_append, List.append_nil]) (fun x => rfl) (OpR.pure rfl)
      refine OpsS.cons' true ?_ (fun _ _ _ _ _ _ _ => rfl) ?_
      · intro D env2 hA
        have e9 : D 9 = false := hA.no 9 _ rfl rfl
        exact OpS.yes (o0 := [.var b0 [.val v1, .val (.int .i64 a1)] 27, .row v1 (List.map e_arena_Span a2) 2 75]) (o1 := fun x => [.var b0 [.val v1, .val (.int .i64 a1)] 27, .row v1 (List.map e_arena_Span a2) 2 75]) (d := fun x => .val (.int .i64 a1)) (Want.plain rfl) (by first | rfl | simp only [e9, cond_true, cond_false, List.cons_append, List.nil_append, List.append_nil]) (fun x => by first | rfl | simp only [ins_self, ins_ne D (show 3 ≠ 9 by decide), upd_self, e9, cond_true, cond_false, List.cons_append, List.nil_append, List.append_nil]) (fun x => rfl) (OpR.loadPtr 0 rfl rfl rfl rfl)
      refine OpsS.cons' true ?_ (fun _ _ _ _ _ _ _ => rfl) ?_
      · intro D env2 hA
        have e9 : D 9 = false := hA.no 9 _ rfl rfl
        exact OpS.yes (o0 := [.var b0 [.val v1, .val (.int .i64 a1)] 27, .row v1 (List.map e_arena_Span a2) 2 75]) (o1 := fun x => [.var b0 [.val v1, .val (.int .i64 a1)] 27, .row v1 (List.map e_arena_Span a2) 2 75]) (d := fun x => .nod [.val (.int .i64 a0.fN)]) (Want.plain rfl) (by first | rfl | simp only [e9, cond_true, cond_false, List.cons_append, List.nil_append, List.append_nil]) (fun x => by first | rfl | simp only [ins_self, ins_ne D (show 4 ≠ 9 by decide), upd_self, e9, cond_true, cond_false, List.cons_append, List.nil_append, List.append_nil]) (fun x => rfl) (OpR.pure rfl)
      refine OpsS.cons' true ?_ (fun _ _ _ _ _ _ _ => rfl) ?_
      · intro D env2 hA
        have e9 : D 9 = false := hA.no 9 _ rfl rfl
        exact OpS.yes (o0 := [.var b0 [.val v1, .val (.int .i64 a1)] 27, .row v1 (List.map e_arena_Span a2) 2 75]) (o1 := fun x => [.var b0 [.val v1, .val (.int .i64 a1)] 27, .row v1 (List.map e_arena_Span a2) 2 75]) (d := fun x => .val (.int .i64 a0.fN)) (Want.plain rfl) (by first | rfl | simp only [e9, cond_true, cond_false, List.cons_append, List.nil_append, List.append_nil]) (fun x => by first | rfl | simp only [ins_self, ins_ne D (show 5 ≠ 9 by decide), upd_self, e9, cond_true, cond_false, List.cons_append, List.nil_append, List.append_nil]) (fun x => rfl) (OpR.pure rfl)
      refine OpsS.cons' true ?_ (fun _ _ _ _ _ _ _ => rfl) ?_
      · intro D env2 hA
        have e9 : D 9 = false := hA.no 9 _ rfl rfl
        exact OpS.yes (o0 := [.var b0 [.val v1, .val (.int .i64 a1)] 27, .row v1 (List.map e_arena_Span a2) 2 75]) (o1 := fun x => [.var b0 [.val v1, .val (.int .i64 a1)] 27, .row v1 (List.map e_arena_Span a2) 2 75]) (d := fun x => .val (.int .i64 (w64 (a1 + a0.fN)))) (Want.plain rfl) (by first | rfl | simp only [e9, cond_true, cond_false, List.cons_append, List.nil_append, List.append_nil]) (fun x => by first | rfl | simp only [ins_self, ins_ne D (show 6 ≠ 9 by decide), upd_self, e9, cond_true, cond_false, List.cons_append, List.nil_append, List.append_nil]) (fun x => rfl) (OpR.pure rfl)
      refine OpsS.cons' true ?_ (fun _ _ _ _ _ _ _ => rfl) ?_
      · intro D env2 hA
        have e9 : D 9 = false := hA.no 9 _ rfl rfl
        exact OpS.yes (o0 := [.var b0 [.val v1, .val (.int .i64 a1)] 27, .row v1 (List.map e_arena_Span a2) 2 75]) (o1 := fun x => [.var b0 [.val v1, .val (.int .i64 a1)] 27, .row v1 (List.map e_arena_Span a2) 2 75]) (d := fun x => .val (.pointer (some ⟨b0, 0, none⟩))) (Want.plain rfl) (by first | rfl | simp only [e9, cond_true, cond_false, List.cons_append, List.nil_append, List.append_nil]) (fun x => by first | rfl | simp only [ins_self, ins_ne D (show 7 ≠ 9 by decide), upd_self, e9, cond_true, cond_false, List.cons_append, List.nil_append, List.append_nil]) (fun x => rfl) (OpR.pure rfl)
      refine OpsS.cons' true ?_ (fun _ _ _ _ _ _ _ => rfl) ?_
      · intro D env2 hA
        have e9 : D 9 = false := hA.no 9 _ rfl rfl
        exact OpS.yes (o0 := [.var b0 [.val v1, .val (.int .i64 a1)] 27, .row v1 (List.map e_arena_Span a2) 2 75]) (o1 := fun x => [.var b0 [.val v1, .val (.int .i64 a1)] 27, .row v1 (List.map e_arena_Span a2) 2 75]) (d := fun x => .val (.pointer (some ⟨b0, 1, none⟩))) (Want.plain rfl) (by first | rfl | simp only [e9, cond_true, cond_false, List.cons_append, List.nil_append, List.append_nil]) (fun x => by first | rfl | simp only [ins_self, ins_ne D (show 8 ≠ 9 by decide), upd_self, e9, cond_true, cond_false, List.cons_append, List.nil_append, List.append_nil]) (fun x => rfl) (OpR.pure rfl)
      refine OpsS.cons' true ?_ (fun _ _ _ _ _ _ _ => rfl) ?_
      · intro D env2 hA
        exact OpS.yes (o0 := [.var b0 [.val v1, .val (.int .i64 a1)] 27, .row v1 (List.map e_arena_Span a2) 2 75]) (o1 := fun x => [.var b0 [.val v1, .val (.int .i64 (w64 (a1 + a0.fN)))] 27, .row v1 (List.map e_arena_Span a2) 2 75]) (d := fun x => .dead) (Want.plain rfl) (by first | rfl | simp only [hA.me, cond_true, cond_false, List.cons_append, List.nil_append, List.append_nil]) (fun x => by first | rfl | simp only [ins_self, upd_self, hA.me, cond_true, cond_false, List.cons_append, List.nil_append, List.append_nil]) (fun x => rfl) (OpR.store 0 rfl rfl rfl rfl rfl rfl rfl rfl)
      exact trivial
    · intro env2
      show T X _ _ _
      refine T.seq ?_
      refine T.seq ?_
      refine T.region ?_
      refine TL.op1 (OpR.pure rfl) rfl ?_
      refine TL.op1 (OpR.pure rfl) rfl ?_
      refine TL.op1 (OpR.pure rfl) rfl ?_
      refine TL.op1 (OpR.loadPtr 0 rfl rfl rfl rfl) rfl ?_
      refine TL.op1 (OpR.rowLenM e_arena_Span 1 rfl rfl rfl rfl) rfl ?_
      refine TL.op1 (OpR.pure rfl) rfl ?_
      refine TL.op1 (OpR.pure rfl) rfl ?_
      refine TL.nil ?_
      show T X _ _ _
      refine T.seq ?_
      refine T.region ?_
      refine TL.op1 (OpR.pure rfl) rfl ?_
      refine TL.op1 (OpR.pure rfl) rfl ?_
      refine TL.nil ?_
      show T X _ _ _
      obtain ⟨t3, ht3, h0⟩ := bnd_some h0
      refine T.cutC (fun S' => ∃ u4, t3 = Ex.brk u4 ∧ S' = ⟨[(3, .nod [.val (.int .i64 a0.fAt), .val (.int .i64 a0.fN)]), (0, .val (.pointer (some ⟨b0, 0, none⟩)))], [.var b0 [.val v1, .val (.int .i64 (w64 (a1 + a0.fN)))] 27, .row v1 (List.map e_arena_Span a2) 2 75], 57⟩) (fun _ h => h) ?_ ?_
      · rcases ite_some ht3 with ⟨c5, ht3⟩ | ⟨c5, ht3⟩
        · refine T.condT rfl (decide_eq_true c5) ?_
          refine T.seq ?_
          obtain ⟨x7, hx7, ht3⟩ := bnd_some ht3
          obtain ⟨x8, hx8, ht3⟩ := bnd_some ht3
          refine T.drawS drawsX (fun env6 => [.val (.pointer (some ⟨b0, 0, none⟩)), .val (.pointer (some ⟨b0, 0, none⟩)), .val (.pointer (some ⟨b0, 0, none⟩)), .val v1, .val (.int .i64 (w64 ((a2.length : Int) - 1))), .val (.pointer (some ⟨blk v1, (w64 ((a2.length : Int) - 1)).toNat * 2, none⟩)), .agg [.val (.int .i64 x7.fAt), .val (.int .i64 x7.fN)], .agg [.val (.int .i64 a0.fAt), .val (.int .i64 a0.fN)], .tup [.agg [.val (.int .i64 x8.1.fAt), .val (.int .i64 x8.1.fN)], .val (.bool x8.2)], .tup [.agg [.val (.int .i64 x8.1.fAt), .val (.int .i64 x8.1.fN)], .val (.bool x8.2)], .agg [.val (.int .i64 x8.1.fAt), .val (.int .i64 x8.1.fN)], .val (.bool x8.2), .val (.pointer (some ⟨(blk (env6 12)), 0, none⟩)), .dead, .val (.bool x8.2)]) (fun D env6 => [.var b0 [.val v1, .val (.int .i64 (w64 (a1 + a0.fN)))] 27, .row v1 (List.map e_arena_Span a2) 2 75] ++ bif D 12 then [(bif D 13 then .var (blk (env6 12)) [.val (.int .i64 x8.1.fAt), .val (.int .i64 x8.1.fN)] 75 else .var (blk (env6 12)) [.val (.int .i64 0), .val (.int .i64 0)] 75)] else []) [0, 1, 3, 7, 0, 31, 63, 0, 255, 511, 1023, 1023, 0, 6143, 16383] [0, 1, 3, 4, 5, 6, 7, 8, 9, 10, 11, 12, 13, 14, 15, 16, 17, 18, 19, 20, 21, 22, 23, 24, 25, 26, 27, 28, 29, 30, 31, 32, 34, 35, 36, 37, 38] (fun env6 => [.var b0 [.val v1, .val (.int .i64 (w64 (a1 + a0.fN)))] 27, .row v1 (List.map e_arena_Span a2) 2 75, .var (blk (env6 12)) [.val (.int .i64 x8.1.fAt), .val (.int .i64 x8.1.fN)] 75]) (by decide +kernel) (by decide +kernel) (fun _ => rfl) (fun _ => rfl) ?_ (fun _ => rfl) (fun _ => rfl) ?_
          · refine OpsS.cons' true ?_ (fun _ _ _ _ _ _ _ => rfl) ?_
            · intro D env6 hA
              have e13 : D 13 = false := hA.no 13 _ rfl rfl
              rcases Bool.eq_false_or_eq_true (D 12) with e12 | e12
              · exact OpS.yes (o0 := [.var b0 [.val v1, .val (.int .i64 (w64 (a1 + a0.fN)))] 27, .row v1 (List.map e_arena_Span a2) 2 75, .var (blk (env6 12)) [.val (.int .i64 0), .val (.int .i64 0)] 75]) (o1 := fun x => [.var b0 [.val v1, .val (.int .i64 (w64 (a1 + a0.fN)))] 27, .row v1 (List.map e_arena_Span a2) 2 75, .var (blk (env6 12)) [.val (.int .i64 0), .val (.int .i64 0)] 75]) (d := fun x => .val (.pointer (some ⟨b0, 0, none⟩))) (Want.plain rfl) (by first | rfl | simp only [e13, e12, cond_true, cond_false, List.cons_append, List.nil_append, List.append_nil]) (fun x => by first | rfl | simp only [ins_self, ins_ne D (show 0 ≠ 12 by decide), ins_ne D (show 0 ≠ 13 by decide), upd_self, upd_ne env6 x (show 0 ≠ 12 by decide), e13, e12, cond_true, cond_false, List.cons_append, List.nil_append, List.append_nil]) (fun x => rfl) (OpR.pure rfl)
              · exact OpS.yes (o0 := [.var b0 [.val v1, .val (.int .i64 (w64 (a1 + a0.fN)))] 27, .row v1 (List.map e_arena_Span a2) 2 75]) (o1 := fun x => [.var b0 [.val v1, .val (.int .i64 (w64 (a1 + a0.fN)))] 27, .row v1 (List.map e_arena_Span a2) 2 75]) (d := fun x => .val (.pointer (some ⟨b0, 0, none⟩))) (Want.plain rfl) (by first | rfl | simp only [e13, e12, cond_true, cond_false, List.cons_append, List.nil_append, List.append_nil]) (fun x => by first | rfl | simp only [ins_self, ins_ne D (show 0 ≠ 12 by decide), ins_ne D (show 0 ≠ 13 by decide), upd_self, upd_ne env6 x (show 0 ≠ 12 by decide), e13, e12, cond_true, cond_false, List.cons_append, List.nil_append, List.append_nil]) (fun x => rfl) (OpR.pure rfl)
            refine OpsS.cons' true ?_ (fun _ _ _ _ _ _ _ => rfl) ?_
            · intro D env6 hA
              have e13 : D 13 = false := hA.no 13 _ rfl rfl
              rcases Bool.eq_false_or_eq_true (D 12) with e12 | e12
              · exact OpS.yes (o0 := [.var b0 [.val v1, .val (.int .i64 (w64 (a1 + a0.fN)))] 27, .row v1 (List.map e_arena_Span a2) 2 75, .var (blk (env6 12)) [.val (.int .i64 0), .val (.int .i64 0)] 75]) (o1 := fun x => [.var b0 [.val v1, .val (.int .i64 (w64 (a1 + a0.fN)))] 27, .row v1 (List.map e_arena_Span a2) 2 75, .var (blk (env6 12)) [.val (.int .i64 0), .val (.int .i64 0)] 75]) (d := fun x => .val (.pointer (some ⟨b0, 0, none⟩))) (Want.plain rfl) (by first | rfl | simp only [e13, e12, cond_true, cond_false, List.cons_append, List.nil_append, List.append_nil]) (fun x => by first | rfl | simp only [ins_self, ins_ne D (show 1 ≠ 12 by decide), ins_ne D (show 1 ≠ 13 by decide), upd_self, upd_ne env6 x (show 1 ≠ 12 by decide), e13, e12, cond_true, cond_false, List.cons_append, List.nil_append, List.append_nil]) (fun x => rfl) (OpR.pure rfl)
              · exact OpS.yes (o0 := [.var b0 [.val v1, .val (.int .i64 (w64 (a1 + a0.fN)))] 27, .row v1 (List.map e_arena_Span a2) 2 75]) (o1 := fun x => [.var b0 [.val v1, .val (.int .i64 (w64 (a1 + a0.fN)))] 27, .row v1 (List.map e_arena_Span a2) 2 75]) (d := fun x => .val (.pointer (some ⟨b0, 0, none⟩))) (Want.plain rfl) (by first | rfl | simp only [e13, e12, cond_true, cond_false, List.cons_append, List.nil_append, List.append_nil]) (fun x => by first | rfl | simp only [ins_self, ins_ne D (show 1 ≠ 12 by decide), ins_ne D (show 1 ≠ 13 by decide), upd_self, upd_ne env6 x (show 1 ≠ 12 by decide), e13, e12, cond_true, cond_false, List.cons_append, List.nil_append, List.append_nil]) (fun x => rfl) (OpR.pure rfl)
            refine OpsS.cons' true ?_ (fun _ _ _ _ _ _ _ => rfl) ?_
            · intro D env6 hA
              have e13 : D 13 = false := hA.no 13 _ rfl rfl
              rcases Bool.eq_false_or_eq_true (D 12) with e12 | e12
              · exact OpS.yes (o0 := [.var b0 [.val v1, .val (.int .i64 (w64 (a1 + a0.fN)))] 27, .row v1 (List.map e_arena_Span a2) 2 75, .var (blk (env6 12)) [.val (.int .i64 0), .val (.int .i64 0)] 75]) (o1 := fun x => [.var b0 [.val v1, .val (.int .i64 (w64 (a1 + a0.fN)))] 27, .row v1 (List.map e_arena_Span a2) 2 75, .var (blk (env6 12)) [.val (.int .i64 0), .val (.int .i64 0)] 75]) (d := fun x => .val (.pointer (some ⟨b0, 0, none⟩))) (Want.plain rfl) (by first | rfl | simp only [e13, e12, cond_true, cond_false, List.cons_append, List.nil_append, List.append_nil]) (fun x => by first | rfl | simp only [ins_self, ins_ne D (show 2 ≠ 12 by decide), ins_ne D (show 2 ≠ 13 by decide), upd_self, upd_ne env6 x (show 2 ≠ 12 by decide), e13, e12, cond_true, cond_false, List.cons_append, List.nil_append, List.append_nil]) (fun x => rfl) (OpR.pure rfl)
              · exact OpS.yes (o0 := [.var b0 [.val v1, .val (.int .i64 (w64 (a1 + a0.fN)))] 27, .row v1 (List.map e_arena_Span a2) 2 75]) (o1 := fun x => [.var b0 [.val v1, .val (.int .i64 (w64 (a1 + a0.fN)))] 27, .row v1 (List.map e_arena_Span a2) 2 75]) (d := fun x => .val (.pointer (some ⟨b0, 0, none⟩))) (Want.plain rfl) (by first | rfl | simp only [e13, e12, cond_true, cond_false, List.cons_append, List.nil_append, List.append_nil]) (fun x => by first | rfl | simp only [ins_self, ins_ne D (show 2 ≠ 12 by decide), ins_ne D (show 2 ≠ 13 by decide), upd_self, upd_ne env6 x (show 2 ≠ 12 by decide), e13, e12, cond_true, cond_false, List.cons_append, List.nil_append, List.append_nil]) (fun x => rfl) (OpR.pure rfl)
            refine OpsS.cons' true ?_ (fun _ _ _ _ _ _ _ => rfl) ?_
            · intro D env6 hA
              have e13 : D 13 = false := hA.no 13 _ rfl rfl
              rcases Bool.eq_false_or_eq_true (D 12) with e12 | e12
              · exact OpS.yes (o0 := [.var b0 [.val v1, .val (.int .i64 (w64 (a1 + a0.fN)))] 27, .row v1 (List.map e_arena_Span a2) 2 75, .var (blk (env6 12)) [.val (.int .i64 0), .val (.int .i64 0)] 75]) (o1 := fun x => [.var b0 [.val v1, .val (.int .i64 (w64 (a1 + a0.fN)))] 27, .row v1 (List.map e_arena_Span a2) 2 75, .var (blk (env6 12)) [.val (.int .i64 0), .val (.int .i64 0)] 75]) (d := fun x => .val v1) (Want.plain rfl) (by first | rfl | simp only [e13, e12, cond_true, cond_false, List.cons_append, List.nil_append, List.append_nil]) (fun x => by first | rfl | simp only [ins_self, ins_ne D (show 3 ≠ 12 by decide), ins_ne D (show 3 ≠ 13 by decide), upd_self, upd_ne env6 x (show 3 ≠ 12 by decide), e13, e12, cond_true, cond_false, List.cons_append, List.nil_append, List.append_nil]) (fun x => rfl) (OpR.loadPtr 0 rfl rfl rfl rfl)
              · exact OpS.yes (o0 := [.var b0 [.val v1, .val (.int .i64 (w64 (a1 + a0.fN)))] 27, .row v1 (List.map e_arena_Span a2) 2 75]) (o1 := fun x => [.var b0 [.val v1, .val (.int .i64 (w64 (a1 + a0.fN)))] 27, .row v1 (List.map e_arena_Span a2) 2 75]) (d := fun x => .val v1) (Want.plain rfl) (by first | rfl | simp only [e13, e12, cond_true, cond_false, List.cons_append, List.nil_append, List.append_nil]) (fun x => by first | rfl | simp only [ins_self, ins_ne D (show 3 ≠ 12 by decide), ins_ne D (show 3 ≠ 13 by decide), upd_self, upd_ne env6 x (show 3 ≠ 12 by decide), e13, e12, cond_true, cond_false, List.cons_append, List.nil_append, List.append_nil]) (fun x => rfl) (OpR.loadPtr 0 rfl rfl rfl rfl)
            refine OpsS.cons' true ?_ (fun _ _ _ _ _ _ _ => rfl) ?_
            · intro D env6 hA
              have e13 : D 13 = false := hA.no 13 _ rfl rfl
              rcases Bool.eq_false_or_eq_true (D 12) with e12 | e12
              · exact OpS.yes (o0 := [.var b0 [.val v1, .val (.int .i64 (w64 (a1 + a0.fN)))] 27, .row v1 (List.map e_arena_Span a2) 2 75, .var (blk (env6 12)) [.val (.int .i64 0), .val (.int .i64 0)] 75]) (o1 := fun x => [.var b0 [.val v1, .val (.int .i64 (w64 (a1 + a0.fN)))] 27, .row v1 (List.map e_arena_Span a2) 2 75, .var (blk (env6 12)) [.val (.int .i64 0), .val (.int .i64 0)] 75]) (d := fun x => .val (.int .i64 (w64 ((a2.length : Int) - 1)))) (Want.plain rfl) (by first | rfl | simp only [e13, e12, cond_true, cond_false, List.cons_append, List.nil_append, List.append_nil]) (fun x => by first | rfl | simp only [ins_self, ins_ne D (show 4 ≠ 12 by decide), ins_ne D (show 4 ≠ 13 by decide), upd_self, upd_ne env6 x (show 4 ≠ 12 by decide), e13, e12, cond_true, cond_false, List.cons_append, List.nil_append, List.append_nil]) (fun x => rfl) (OpR.pure rfl)
              · exact OpS.yes (o0 := [.var b0 [.val v1, .val (.int .i64 (w64 (a1 + a0.fN)))] 27, .row v1 (List.map e_arena_Span a2) 2 75]) (o1 := fun x => [.var b0 [.val v1, .val (.int .i64 (w64 (a1 + a0.fN)))] 27, .row v1 (List.map e_arena_Span a2) 2 75]) (d := fun x => .val (.int .i64 (w64 ((a2.length : Int) - 1)))) (Want.plain rfl) (by first | rfl | simp only [e13, e12, cond_true, cond_false, List.cons_append, List.nil_append, List.append_nil]) (fun x => by first | rfl | simp only [ins_self, ins_ne D (show 4 ≠ 12 by decide), ins_ne D (show 4 ≠ 13 by decide), upd_self, upd_ne env6 x (show 4 ≠ 12 by decide), e13, e12, cond_true, cond_false, List.cons_append, List.nil_append, List.append_nil]) (fun x => rfl) (OpR.pure rfl)
            refine OpsS.cons' true ?_ (fun _ _ _ _ _ _ _ => rfl) ?_
            · intro D env6 hA
              have e13 : D 13 = false := hA.no 13 _ rfl rfl
              rcases Bool.eq_false_or_eq_true (D 12) with e12 | e12
              · exact OpS.yes (o0 := [.var b0 [.val v1, .val (.int .i64 (w64 (a1 + a0.fN)))] 27, .row v1 (List.map e_arena_Span a2) 2 75, .var (blk (env6 12)) [.val (.int .i64 0), .val (.int .i64 0)] 75]) (o1 := fun x => [.var b0 [.val v1, .val (.int .i64 (w64 (a1 + a0.fN)))] 27, .row v1 (List.map e_arena_Span a2) 2 75, .var (blk (env6 12)) [.val (.int .i64 0), .val (.int .i64 0)] 75]) (d := fun x => .val (.pointer (some ⟨blk v1, (w64 ((a2.length : Int) - 1)).toNat * 2, none⟩))) (Want.plain rfl) (by first | rfl | simp only [e13, e12, cond_true, cond_false, List.cons_append, List.nil_append, List.append_nil]) (fun x => by first | rfl | simp only [ins_self, ins_ne D (show 5 ≠ 12 by decide), ins_ne D (show 5 ≠ 13 by decide), upd_self, upd_ne env6 x (show 5 ≠ 12 by decide), e13, e12, cond_true, cond_false, List.cons_append, List.nil_append, List.append_nil]) (fun x => rfl) (OpR.rowIndexM e_arena_Span 1 hx7 rfl rfl rfl rfl rfl rfl rfl)
              · exact OpS.yes (o0 := [.var b0 [.val v1, .val (.int .i64 (w64 (a1 + a0.fN)))] 27, .row v1 (List.map e_arena_Span a2) 2 75]) (o1 := fun x => [.var b0 [.val v1, .val (.int .i64 (w64 (a1 + a0.fN)))] 27, .row v1 (List.map e_arena_Span a2) 2 75]) (d := fun x => .val (.pointer (some ⟨blk v1, (w64 ((a2.length : Int) - 1)).toNat * 2, none⟩))) (Want.plain rfl) (by first | rfl | simp only [e13, e12, cond_true, cond_false, List.cons_append, List.nil_append, List.append_nil]) (fun x => by first | rfl | simp only [ins_self, ins_ne D (show 5 ≠ 12 by decide), ins_ne D (show 5 ≠ 13 by decide), upd_self, upd_ne env6 x (show 5 ≠ 12 by decide), e13, e12, cond_true, cond_false, List.cons_append, List.nil_append, List.append_nil]) (fun x => rfl) (OpR.rowIndexM e_arena_Span 1 hx7 rfl rfl rfl rfl rfl rfl rfl)
            refine OpsS.cons' true ?_ (fun _ _ _ _ _ _ _ => rfl) ?_
            · intro D env6 hA
              have e13 : D 13 = false := hA.no 13 _ rfl rfl
              rcases Bool.eq_false_or_eq_true (D 12) with e12 | e12
              · exact OpS.yes (o0 := [.var b0 [.val v1, .val (.int .i64 (w64 (a1 + a0.fN)))] 27, .row v1 (List.map e_arena_Span a2) 2 75, .var (blk (env6 12)) [.val (.int .i64 0), .val (.int .i64 0)] 75]) (o1 := fun x => [.var b0 [.val v1, .val (.int .i64 (w64 (a1 + a0.fN)))] 27, .row v1 (List.map e_arena_Span a2) 2 75, .var (blk (env6 12)) [.val (.int .i64 0), .val (.int .i64 0)] 75]) (d := fun x => .agg [.val (.int .i64 x7.fAt), .val (.int .i64 x7.fN)]) (Want.plain rfl) (by first | rfl | simp only [e13, e12, cond_true, cond_false, List.cons_append, List.nil_append, List.append_nil]) (fun x => by first | rfl | simp only [ins_self, ins_ne D (show 6 ≠ 12 by decide), ins_ne D (show 6 ≠ 13 by decide), upd_self, upd_ne env6 x (show 6 ≠ 12 by decide), e13, e12, cond_true, cond_false, List.cons_append, List.nil_append, List.append_nil]) (fun x => rfl) (OpR.rowLoad0M (j := w64 ((a2.length : Int) - 1)) e_arena_Span 1 hx7 rfl rfl rfl rfl)
              · exact OpS.yes (o0 := [.var b0 [.val v1, .val (.int .i64 (w64 (a1 + a0.fN)))] 27, .row v1 (List.map e_arena_Span a2) 2 75]) (o1 := fun x => [.var b0 [.val v1, .val (.int .i64 (w64 (a1 + a0.fN)))] 27, .row v1 (List.map e_arena_Span a2) 2 75]) (d := fun x => .agg [.val (.int .i64 x7.fAt), .val (.int .i64 x7.fN)]) (Want.plain rfl) (by first | rfl | simp only [e13, e12, cond_true, cond_false, List.cons_append, List.nil_append, List.append_nil]) (fun x => by first | rfl | simp only [ins_self, ins_ne D (show 6 ≠ 12 by decide), ins_ne D (show 6 ≠ 13 by decide), upd_self, upd_ne env6 x (show 6 ≠ 12 by decide), e13, e12, cond_true, cond_false, List.cons_append, List.nil_append, List.append_nil]) (fun x => rfl) (OpR.rowLoad0M (j := w64 ((a2.length : Int) - 1)) e_arena_Span 1 hx7 rfl rfl rfl rfl)
            refine OpsS.cons' true ?_ (fun _ _ _ _ _ _ _ => rfl) ?_
            · intro D env6 hA
              have e13 : D 13 = false := hA.no 13 _ rfl rfl
              rcases Bool.eq_false_or_eq_true (D 12) with e12 | e12
              · exact OpS.yes (o0 := [.var b0 [.val v1, .val (.int .i64 (w64 (a1 + a0.fN)))] 27, .row v1 (List.map e_arena_Span a2) 2 75, .var (blk (env6 12)) [.val (.int .i64 0), .val (.int .i64 0)] 75]) (o1 := fun x => [.var b0 [.val v1, .val (.int .i64 (w64 (a1 + a0.fN)))] 27, .row v1 (List.map e_arena_Span a2) 2 75, .var (blk (env6 12)) [.val (.int .i64 0), .val (.int .i64 0)] 75]) (d := fun x => .agg [.val (.int .i64 a0.fAt), .val (.int .i64 a0.fN)]) (Want.plain rfl) (by first | rfl | simp only [e13, e12, cond_true, cond_false, List.cons_append, List.nil_append, List.append_nil]) (fun x => by first | rfl | simp only [ins_self, ins_ne D (show 7 ≠ 12 by decide), ins_ne D (show 7 ≠ 13 by decide), upd_self, upd_ne env6 x (show 7 ≠ 12 by decide), e13, e12, cond_true, cond_false, List.cons_append, List.nil_append, List.append_nil]) (fun x => rfl) (OpR.pure rfl)
              · exact OpS.yes (o0 := [.var b0 [.val v1, .val (.int .i64 (w64 (a1 + a0.fN)))] 27, .row v1 (List.map e_arena_Span a2) 2 75]) (o1 := fun x => [.var b0 [.val v1, .val (.int .i64 (w64 (a1 + a0.fN)))] 27, .row v1 (List.map e_arena_Span a2) 2 75]) (d := fun x => .agg [.val (.int .i64 a0.fAt), .val (.int .i64 a0.fN)]) (Want.plain rfl) (by first | rfl | simp only [e13, e12, cond_true, cond_false, List.cons_append, List.nil_append, List.append_nil]) (fun x => by first | rfl | simp only [ins_self, ins_ne D (show 7 ≠ 12 by decide), ins_ne D (show 7 ≠ 13 by decide), upd_self, upd_ne env6 x (show 7 ≠ 12 by decide), e13, e12, cond_true, cond_false, List.cons_append, List.nil_append, List.append_nil]) (fun x => rfl) (OpR.pure rfl)
            refine OpsS.cons' true ?_ (fun _ _ _ _ _ _ _ => rfl) ?_
            · intro D env6 hA
              have e13 : D 13 = false := hA.no 13 _ rfl rfl
              rcases Bool.eq_false_or_eq_true (D 12) with e12 | e12
              · exact OpS.yes (o0 := [.var b0 [.val v1, .val (.int .i64 (w64 (a1 + a0.fN)))] 27, .row v1 (List.map e_arena_Span a2) 2 75, .var (blk (env6 12)) [.val (.int .i64 0), .val (.int .i64 0)] 75]) (o1 := fun x => [.var b0 [.val v1, .val (.int .i64 (w64 (a1 + a0.fN)))] 27, .row v1 (List.map e_arena_Span a2) 2 75, .var (blk (env6 12)) [.val (.int .i64 0), .val (.int .i64 0)] 75]) (d := fun x => .tup [.agg [.val (.int .i64 x8.1.fAt), .val (.int .i64 x8.1.fN)], .val (.bool x8.2)]) (Want.plain rfl) (by first | rfl | simp only [e13, e12, cond_true, cond_false, List.cons_append, List.nil_append, List.append_nil]) (fun x => by first | rfl | simp only [ins_self, ins_ne D (show 8 ≠ 12 by decide), ins_ne D (show 8 ≠ 13 by decide), upd_self, upd_ne env6 x (show 8 ≠ 12 by decide), e13, e12, cond_true, cond_false, List.cons_append, List.nil_append, List.append_nil]) (fun x => rfl) (OpR.call0 fn78 (arena_Join_c hx8) rfl)
              · exact OpS.yes (o0 := [.var b0 [.val v1, .val (.int .i64 (w64 (a1 + a0.fN)))] 27, .row v1 (List.map e_arena_Span a2) 2 75]) (o1 := fun x => [.var b0 [.val v1, .val (.int .i64 (w64 (a1 + a0.fN)))] 27, .row v1 (List.map e_arena_Span a2) 2 75]) (d := fun x => .tup [.agg [.val (.int .i64 x8.1.fAt), .val (.int .i64 x8.1.fN)], .val (.bool x8.2)]) (Want.plain rfl) (by first | rfl | simp only [e13, e12, cond_true, cond_false, List.cons_append, List.nil_append, List.append_nil]) (fun x => by first | rfl | simp only [ins_self, ins_ne D (show 8 ≠ 12 by decide), ins_ne D (show 8 ≠ 13 by decide), upd_self, upd_ne env6 x (show 8 ≠ 12 by decide), e13, e12, cond_true, cond_false, List.cons_append, List.nil_append, List.append_nil]) (fun x => rfl) (OpR.call0 fn78 (arena_Join_c hx8) rfl)
            refine OpsS.cons' true ?_ (fun _ _ _ _ _ _ _ => rfl) ?_
            · intro D env6 hA
              have e13 : D 13 = false := hA.no 13 _ rfl rfl
              rcases Bool.eq_false_or_eq_true (D 12) with e12 | e12
              · exact OpS.yes (o0 := [.var b0 [.val v1, .val (.int .i64 (w64 (a1 + a0.fN)))] 27, .row v1 (List.map e_arena_Span a2) 2 75, .var (blk (env6 12)) [.val (.int .i64 0), .val (.int .i64 0)] 75]) (o1 := fun x => [.var b0 [.val v1, .val (.int .i64 (w64 (a1 + a0.fN)))] 27, .row v1 (List.map e_arena_Span a2) 2 75, .var (blk (env6 12)) [.val (.int .i64 0), .val (.int .i64 0)] 75]) (d := fun x => .tup [.agg [.val (.int .i64 x8.1.fAt), .val (.int .i64 x8.1.fN)], .val (.bool x8.2)]) (Want.plain rfl) (by first | rfl | simp only [e13, e12, cond_true, cond_false, List.cons_append, List.nil_append, List.append_nil]) (fun x => by first | rfl | simp only [ins_self, ins_ne D (show 9 ≠ 12 by decide), ins_ne D (show 9 ≠ 13 by decide), upd_self, upd_ne env6 x (show 9 ≠ 12 by decide), e13, e12, cond_true, cond_false, List.cons_append, List.nil_append, List.append_nil]) (fun x => rfl) (OpR.pure rfl)
              · exact OpS.yes (o0 := [.var b0 [.val v1, .val (.int .i64 (w64 (a1 + a0.fN)))] 27, .row v1 (List.map e_arena_Span a2) 2 75]) (o1 := fun x => [.var b0 [.val v1, .val (.int .i64 (w64 (a1 + a0.fN)))] 27, .row v1 (List.map e_arena_Span a2) 2 75]) (d := fun x => .tup [.agg [.val (.int .i64 x8.1.fAt), .val (.int .i64 x8.1.fN)], .val (.bool x8.2)]) (Want.plain rfl) (by first | rfl | simp only [e13, e12, cond_true, cond_false, List.cons_append, List.nil_append, List.append_nil]) (fun x => by first | rfl | simp only [ins_self, ins_ne D (show 9 ≠ 12 by decide), ins_ne D (show 9 ≠ 13 by decide), upd_self, upd_ne env6 x (show 9 ≠ 12 by decide), e13, e12, cond_true, cond_false, List.cons_append, List.nil_append, List.append_nil]) (fun x => rfl) (OpR.pure rfl)
            refine OpsS.cons' true ?_ (fun _ _ _ _ _ _ _ => rfl) ?_
            · intro D env6 hA
              have e13 : D 13 = false := hA.no 13 _ rfl rfl
              rcases Bool.eq_false_or_eq_true (D 12) with e12 | e12
              · exact OpS.yes (o0 := [.var b0 [.val v1, .val (.int .i64 (w64 (a1 + a0.fN)))] 27, .row v1 (List.map e_arena_Span a2) 2 75, .var (blk (env6 12)) [.val (.int .i64 0), .val (.int .i64 0)] 75]) (o1 := fun x => [.var b0 [.val v1, .val (.int .i64 (w64 (a1 + a0.fN)))] 27, .row v1 (List.map e_arena_Span a2) 2 75, .var (blk (env6 12)) [.val (.int .i64 0), .val (.int .i64 0)] 75]) (d := fun x => .agg [.val (.int .i64 x8.1.fAt), .val (.int .i64 x8.1.fN)]) (Want.plain rfl) (by first | rfl | simp only [e13, e12, cond_true, cond_false, List.cons_append, List.nil_append, List.append_nil]) (fun x => by first | rfl | simp only [ins_self, ins_ne D (show 10 ≠ 12 by decide), ins_ne D (show 10 ≠ 13 by decide), upd_self, upd_ne env6 x (show 10 ≠ 12 by decide), e13, e12, cond_true, cond_false, List.cons_append, List.nil_append, List.append_nil]) (fun x => rfl) (OpR.pure rfl)
              · exact OpS.yes (o0 := [.var b0 [.val v1, .val (.int .i64 (w64 (a1 + a0.fN)))] 27, .row v1 (List.map e_arena_Span a2) 2 75]) (o1 := fun x => [.var b0 [.val v1, .val (.int .i64 (w64 (a1 + a0.fN)))] 27, .row v1 (List.map e_arena_Span a2) 2 75]) (d := fun x => .agg [.val (.int .i64 x8.1.fAt), .val (.int .i64 x8.1.fN)]) (Want.plain rfl) (by first | rfl | simp only [e13, e12, cond_true, cond_false, List.cons_append, List.nil_append, List.append_nil]) (fun x => by first | rfl | simp only [ins_self, ins_ne D (show 10 ≠ 12 by decide), ins_ne D (show 10 ≠ 13 by decide), upd_self, upd_ne env6 x (show 10 ≠ 12 by decide), e13, e12, cond_true, cond_false, List.cons_append, List.nil_append, List.append_nil]) (fun x => rfl) (OpR.pure rfl)
            refine OpsS.cons' true ?_ (fun _ _ _ _ _ _ _ => rfl) ?_
            · intro D env6 hA
              rcases Bool.eq_false_or_eq_true (D 12) with e12 | e12
              · rcases Bool.eq_false_or_eq_true (D 13) with e13 | e13
                · exact OpS.yes (o0 := [.var b0 [.val v1, .val (.int .i64 (w64 (a1 + a0.fN)))] 27, .row v1 (List.map e_arena_Span a2) 2 75, .var (blk (env6 12)) [.val (.int .i64 x8.1.fAt), .val (.int .i64 x8.1.fN)] 75]) (o1 := fun x => [.var b0 [.val v1, .val (.int .i64 (w64 (a1 + a0.fN)))] 27, .row v1 (List.map e_arena_Span a2) 2 75, .var (blk (env6 12)) [.val (.int .i64 x8.1.fAt), .val (.int .i64 x8.1.fN)] 75]) (d := fun x => .val (.bool x8.2)) (Want.plain rfl) (by first | rfl | simp only [e12, e13, cond_true, cond_false, List.cons_append, List.nil_append, List.append_nil]) (fun x => by first | rfl | simp only [ins_self, ins_ne D (show 11 ≠ 12 by decide), ins_ne D (show 11 ≠ 13 by decide), upd_self, upd_ne env6 x (show 11 ≠ 12 by decide), e12, e13, cond_true, cond_false, List.cons_append, List.nil_append, List.append_nil]) (fun x => rfl) (OpR.pure rfl)
                · exact OpS.yes (o0 := [.var b0 [.val v1, .val (.int .i64 (w64 (a1 + a0.fN)))] 27, .row v1 (List.map e_arena_Span a2) 2 75, .var (blk (env6 12)) [.val (.int .i64 0), .val (.int .i64 0)] 75]) (o1 := fun x => [.var b0 [.val v1, .val (.int .i64 (w64 (a1 + a0.fN)))] 27, .row v1 (List.map e_arena_Span a2) 2 75, .var (blk (env6 12)) [.val (.int .i64 0), .val (.int .i64 0)] 75]) (d := fun x => .val (.bool x8.2)) (Want.plain rfl) (by first | rfl | simp only [e12, e13, cond_true, cond_false, List.cons_append, List.nil_append, List.append_nil]) (fun x => by first | rfl | simp only [ins_self, ins_ne D (show 11 ≠ 12 by decide), ins_ne D (show 11 ≠ 13 by decide), upd_self, upd_ne env6 x (show 11 ≠ 12 by decide), e12, e13, cond_true, cond_false, List.cons_append, List.nil_append, List.append_nil]) (fun x => rfl) (OpR.pure rfl)
              · rcases Bool.eq_false_or_eq_true (D 13) with e13 | e13
                · have q : D 12 = true := hA.closed e13 6143 rfl rfl
                  rw [e12] at q
                  cases q
                · exact OpS.yes (o0 := [.var b0 [.val v1, .val (.int .i64 (w64 (a1 + a0.fN)))] 27, .row v1 (List.map e_arena_Span a2) 2 75]) (o1 := fun x => [.var b0 [.val v1, .val (.int .i64 (w64 (a1 + a0.fN)))] 27, .row v1 (List.map e_arena_Span a2) 2 75]) (d := fun x => .val (.bool x8.2)) (Want.plain rfl) (by first | rfl | simp only [e12, e13, cond_true, cond_false, List.cons_append, List.nil_append, List.append_nil]) (fun x => by first | rfl | simp only [ins_self, ins_ne D (show 11 ≠ 12 by decide), ins_ne D (show 11 ≠ 13 by decide), upd_self, upd_ne env6 x (show 11 ≠ 12 by decide), e12, e13, cond_true, cond_false, List.cons_append, List.nil_append, List.append_nil]) (fun x => rfl) (OpR.pure rfl)
            refine OpsS.cons' true ?_ (fun D hA env6 x j hj hD => match j, hj, hD with | 0, _, _ => rfl | 1, _, _ => rfl | 2, _, _ => rfl | 3, _, _ => rfl | 4, _, _ => rfl | 5, _, _ => rfl | 6, _, _ => rfl | 7, _, _ => rfl | 8, _, _ => rfl | 9, _, _ => rfl | 10, _, _ => rfl | 11, _, _ => rfl | 12, hj, _ => absurd rfl hj | 13, _, _ => rfl | 14, _, _ => rfl | _ + 15, _, _ => rfl) ?_
            · intro D env6 hA
              have e13 : D 13 = false := hA.no 13 _ rfl rfl
              exact OpS.yes (o0 := [.var b0 [.val v1, .val (.int .i64 (w64 (a1 + a0.fN)))] 27, .row v1 (List.map e_arena_Span a2) 2 75]) (o1 := fun x => [.var b0 [.val v1, .val (.int .i64 (w64 (a1 + a0.fN)))] 27, .row v1 (List.map e_arena_Span a2) 2 75, .var (blk x) [.val (.int .i64 0), .val (.int .i64 0)] 75]) (d := fun x => .val (.pointer (some ⟨(blk x), 0, none⟩))) (Want.plain rfl) (by first | rfl | simp only [e13, hA.me, cond_true, cond_false, List.cons_append, List.nil_append, List.append_nil]) (fun x => by first | rfl | simp only [ins_self, ins_ne D (show 12 ≠ 13 by decide), upd_self, e13, hA.me, cond_true, cond_false, List.cons_append, List.nil_append, List.append_nil]) (fun x => rfl) (OpR.alloc rfl rfl (fun _ => rfl))
            refine OpsS.cons' true ?_ (fun _ _ _ _ _ _ _ => rfl) ?_
            · intro D env6 hA
              have e12 : D 12 = true := hA.yes 12 _ rfl rfl
              exact OpS.yes (o0 := [.var b0 [.val v1, .val (.int .i64 (w64 (a1 + a0.fN)))] 27, .row v1 (List.map e_arena_Span a2) 2 75, .var (blk (env6 12)) [.val (.int .i64 0), .val (.int .i64 0)] 75]) (o1 := fun x => [.var b0 [.val v1, .val (.int .i64 (w64 (a1 + a0.fN)))] 27, .row v1 (List.map e_arena_Span a2) 2 75, .var (blk (env6 12)) [.val (.int .i64 x8.1.fAt), .val (.int .i64 x8.1.fN)] 75]) (d := fun x => .dead) (Want.plain rfl) (by first | rfl | simp only [e12, hA.me, cond_true, cond_false, List.cons_append, List.nil_append, List.append_nil]) (fun x => by first | rfl | simp only [ins_self, ins_ne D (show 13 ≠ 12 by decide), upd_self, upd_ne env6 x (show 13 ≠ 12 by decide), e12, hA.me, cond_true, cond_false, List.cons_append, List.nil_append, List.append_nil]) (fun x => rfl) (OpR.store 2 rfl rfl rfl rfl rfl rfl rfl rfl)
            refine OpsS.cons' true ?_ (fun _ _ _ _ _ _ _ => rfl) ?_
            · intro D env6 hA
              have e12 : D 12 = true := hA.yes 12 _ rfl rfl
              have e13 : D 13 = true := hA.yes 13 _ rfl rfl
              exact OpS.yes (o0 := [.var b0 [.val v1, .val (.int .i64 (w64 (a1 + a0.fN)))] 27, .row v1 (List.map e_arena_Span a2) 2 75, .var (blk (env6 12)) [.val (.int .i64 x8.1.fAt), .val (.int .i64 x8.1.fN)] 75]) (o1 := fun x => [.var b0 [.val v1, .val (.int .i64 (w64 (a1 + a0.fN)))] 27, .row v1 (List.map e_arena_Span a2) 2 75, .var (blk (env6 12)) [.val (.int .i64 x8.1.fAt), .val (.int .i64 x8.1.fN)] 75]) (d := fun x => .val (.bool x8.2)) (Want.plain rfl) (by first | rfl | simp only [e12, e13, cond_true, cond_false, List.cons_append, List.nil_append, List.append_nil]) (fun x => by first | rfl | simp only [ins_self, ins_ne D (show 14 ≠ 12 by decide), ins_ne D (show 14 ≠ 13 by decide), upd_self, upd_ne env6 x (show 14 ≠ 12 by decide), e12, e13, cond_true, cond_false, List.cons_append, List.nil_append, List.append_nil]) (fun x => rfl) (OpR.pure rfl)
            exact trivial
          · intro env6
            show T X _ _ _
            refine T.seq ?_
            refine T.region ?_
            refine TL.op1 (OpR.pure rfl) rfl ?_
            refine TL.nil ?_
            show T X _ _ _
            rcases ite_some ht3 with ⟨c9, ht3⟩ | ⟨c9, ht3⟩
            · refine T.condT rfl (c9) ?_
              refine T.seq ?_
              refine T.drawS drawsX (fun env10 => [.val (.pointer (some ⟨b0, 0, none⟩)), .val (.pointer (some ⟨b0, 0, none⟩)), .val (.pointer (some ⟨b0, 0, none⟩)), .val v1, .val (.int .i64 (w64 ((a2.length : Int) - 1))), .agg [.val (.int .i64 x8.1.fAt), .val (.int .i64 x8.1.fN)], .val (.pointer (some ⟨blk v1, (w64 ((a2.length : Int) - 1)).toNat * 2, none⟩)), .dead]) (fun D env10 => [.var b0 [.val v1, .val (.int .i64 (w64 (a1 + a0.fN)))] 27, (bif D 7 then .row v1 (List.map e_arena_Span (a2.set (w64 ((a2.length : Int) - 1)).toNat x8.1)) 2 75 else .row v1 (List.map e_arena_Span a2) 2 75), .var (blk (env6 12)) [.val (.int .i64 x8.1.fAt), .val (.int .i64 x8.1.fN)] 75]) [0, 1, 3, 7, 0, 0, 63, 127] [0, 1, 3, 4, 5, 6, 7, 8, 9, 10, 11, 12, 13, 14, 15, 16, 17, 18, 19, 20, 21, 22, 23, 24, 25, 26, 27, 28, 29, 30, 31, 32, 34, 35, 36, 37, 38, 39, 40, 41, 42, 43, 44, 45] (fun env10 => [.var b0 [.val v1, .val (.int .i64 (w64 (a1 + a0.fN)))] 27, .row v1 (List.map e_arena_Span (a2.set (w64 ((a2.length : Int) - 1)).toNat x8.1)) 2 75, .var (blk (env6 12)) [.val (.int .i64 x8.1.fAt), .val (.int .i64 x8.1.fN)] 75]) (by decide +kernel) (by decide +kernel) (fun _ => rfl) (fun _ => rfl) ?_ (fun _ => rfl) (fun _ => rfl) ?_
              · refine OpsS.cons' true ?_ (fun _ _ _ _ _ _ _ => rfl) ?_
                · intro D env10 hA
                  have e7 : D 7 = false := hA.no 7 _ rfl rfl
                  exact OpS.yes (o0 := [.var b0 [.val v1, .val (.int .i64 (w64 (a1 + a0.fN)))] 27, .row v1 (List.map e_arena_Span a2) 2 75, .var (blk (env6 12)) [.val (.int .i64 x8.1.fAt), .val (.int .i64 x8.1.fN)] 75]) (o1 := fun x => [.var b0 [.val v1, .val (.int .i64 (w64 (a1 + a0.fN)))] 27, .row v1 (List.map e_arena_Span a2) 2 75, .var (blk (env6 12)) [.val (.int .i64 x8.1.fAt), .val (.int .i64 x8.1.fN)] 75]) (d := fun x => .val (.pointer (some ⟨b0, 0, none⟩))) (Want.plain rfl) (by first | rfl | simp only [e7, cond_true, cond_false, List.cons_append, List.nil_append, List.append_nil]) (fun x => by first | rfl | simp only [ins_self, ins_ne D (show 0 ≠ 7 by decide), upd_self, e7, cond_true, cond_false, List.cons_append, List.nil_append, List.append_nil]) (fun x => rfl) (OpR.pure rfl)
                refine OpsS.cons' true ?_ (fun _ _ _ _ _ _ _ => rfl) ?_
                · intro D env10 hA
                  have e7 : D 7 = false := hA.no 7 _ rfl rfl
                  exact OpS.yes (o0 := [.var b0 [.val v1, .val (.int .i64 (w64 (a1 + a0.fN)))] 27, .row v1 (List.map e_arena_Span a2) 2 75, .var (blk (env6 12)) [.val (.int .i64 x8.1.fAt), .val (.int .i64 x8.1.fN)] 75]) (o1 := fun x => [.var b0 [.val v1, .val (.int .i64 (w64 (a1 + a0.fN)))] 27, .row v1 (List.map e_arena_Span a2) 2 75, .var (blk (env6 12)) [.val (.int .i64 x8.1.fAt), .val (.int .i64 x8.1.fN)] 75]) (d := fun x => .val (.pointer (some ⟨b0, 0, none⟩))) (Want.plain rfl) (by first | rfl | simp only [e7, cond_true, cond_false, List.cons_append, List.nil_append, List.append_nil]) (fun x => by first | rfl | simp only [ins_self, ins_ne D (show 1 ≠ 7 by decide), upd_self, e7, cond_true, cond_false, List.cons_append, List.nil_append, List.append_nil]) (fun x => rfl) (OpR.pure rfl)
                refine OpsS.cons' true ?_ (fun _ _ _ _ _ _ _ => rfl) ?_
                · intro D env10 hA
                  have e7 : D 7 = false := hA.no 7 _ rfl rfl
                  exact OpS.yes (o0 := [.var b0 [.val v1, .val (.int .i64 (w64 (a1 + a0.fN)))] 27, .row v1 (List.map e_arena_Span a2) 2 75, .var (blk (env6 12)) [.val (.int .i64 x8.1.fAt), .val (.int .i64 x8.1.fN)] 75]) (o1 := fun x => [.var b0 [.val v1, .val (.int .i64 (w64 (a1 + a0.fN)))] 27, .row v1 (List.map e_arena_Span a2) 2 75, .var (blk (env6 12)) [.val (.int .i64 x8.1.fAt), .val (.int .i64 x8.1.fN)] 75]) (d := fun x => .val (.pointer (some ⟨b0, 0, none⟩))) (Want.plain rfl) (by first | rfl | simp only [e7, cond_true, cond_false, List.cons_append, List.nil_append, List.append_nil]) (fun x => by first | rfl | simp only [ins_self, ins_ne D (show 2 ≠ 7 by decide), upd_self, e7, cond_true, cond_false, List.cons_append, List.nil_append, List.append_nil]) (fun x => rfl) (OpR.pure rfl)
                refine OpsS.cons' true ?_ (fun _ _ _ _ _ _ _ => rfl) ?_
                · intro D env10 hA
                  have e7 : D 7 = false := hA.no 7 _ rfl rfl
                  exact OpS.yes (o0 := [.var b0 [.val v1, .val (.int .i64 (w64 (a1 + a0.fN)))] 27, .row v1 (List.map e_arena_Span a2) 2 75, .var (blk (env6 12)) [.val (.int .i64 x8.1.fAt), .val (.int .i64 x8.1.fN)] 75]) (o1 := fun x => [.var b0 [.val v1, .val (.int .i64 (w64 (a1 + a0.fN)))] 27, .row v1 (List.map e_arena_Span a2) 2 75, .var (blk (env6 12)) [.val (.int .i64 x8.1.fAt), .val (.int .i64 x8.1.fN)] 75]) (d := fun x => .val v1) (Want.plain rfl) (by first | rfl | simp only [e7, cond_true, cond_false, List.cons_append, List.nil_append, List.append_nil]) (fun x => by first | rfl | simp only [ins_self, ins_ne D (show 3 ≠ 7 by decide), upd_self, e7, cond_true, cond_false, List.cons_append, List.nil_append, List.append_nil]) (fun x => rfl) (OpR.loadPtr 0 rfl rfl rfl rfl)
                refine OpsS.cons' true ?_ (fun _ _ _ _ _ _ _ => rfl) ?_
                · intro D env10 hA
                  have e7 : D 7 = false := hA.no 7 _ rfl rfl
                  exact OpS.yes (o0 := [.var b0 [.val v1, .val (.int .i64 (w64 (a1 + a0.fN)))] 27, .row v1 (List.map e_arena_Span a2) 2 75, .var (blk (env6 12)) [.val (.int .i64 x8.1.fAt), .val (.int .i64 x8.1.fN)] 75]) (o1 := fun x => [.var b0 [.val v1, .val (.int .i64 (w64 (a1 + a0.fN)))] 27, .row v1 (List.map e_arena_Span a2) 2 75, .var (blk (env6 12)) [.val (.int .i64 x8.1.fAt), .val (.int .i64 x8.1.fN)] 75]) (d := fun x => .val (.int .i64 (w64 ((a2.length : Int) - 1)))) (Want.plain rfl) (by first | rfl | simp only [e7, cond_true, cond_false, List.cons_append, List.nil_append, List.append_nil]) (fun x => by first | rfl | simp only [ins_self, ins_ne D (show 4 ≠ 7 by decide), upd_self, e7, cond_true, cond_false, List.cons_append, List.nil_append, List.append_nil]) (fun x => rfl) (OpR.pure rfl)
                refine OpsS.cons' true ?_ (fun _ _ _ _ _ _ _ => rfl) ?_
                · intro D env10 hA
                  have e7 : D 7 = false := hA.no 7 _ rfl rfl
                  exact OpS.yes (o0 := [.var b0 [.val v1, .val (.int .i64 (w64 (a1 + a0.fN)))] 27, .row v1 (List.map e_arena_Span a2) 2 75, .var (blk (env6 12)) [.val (.int .i64 x8.1.fAt), .val (.int .i64 x8.1.fN)] 75]) (o1 := fun x => [.var b0 [.val v1, .val (.int .i64 (w64 (a1 + a0.fN)))] 27, .row v1 (List.map e_arena_Span a2) 2 75, .var (blk (env6 12)) [.val (.int .i64 x8.1.fAt), .val (.int .i64 x8.1.fN)] 75]) (d := fun x => .agg [.val (.int .i64 x8.1.fAt), .val (.int .i64 x8.1.fN)]) (Want.plain rfl) (by first | rfl | simp only [e7, cond_true, cond_false, List.cons_append, List.nil_append, List.append_nil]) (fun x => by first | rfl | simp only [ins_self, ins_ne D (show 5 ≠ 7 by decide), upd_self, e7, cond_true, cond_false, List.cons_append, List.nil_append, List.append_nil]) (fun x => rfl) (OpR.loadPtr 2 rfl rfl rfl rfl)
                refine OpsS.cons' true ?_ (fun _ _ _ _ _ _ _ => rfl) ?_
                · intro D env10 hA
                  have e7 : D 7 = false := hA.no 7 _ rfl rfl
                  exact OpS.yes (o0 := [.var b0 [.val v1, .val (.int .i64 (w64 (a1 + a0.fN)))] 27, .row v1 (List.map e_arena_Span a2) 2 75, .var (blk (env6 12)) [.val (.int .i64 x8.1.fAt), .val (.int .i64 x8.1.fN)] 75]) (o1 := fun x => [.var b0 [.val v1, .val (.int .i64 (w64 (a1 + a0.fN)))] 27, .row v1 (List.map e_arena_Span a2) 2 75, .var (blk (env6 12)) [.val (.int .i64 x8.1.fAt), .val (.int .i64 x8.1.fN)] 75]) (d := fun x => .val (.pointer (some ⟨blk v1, (w64 ((a2.length : Int) - 1)).toNat * 2, none⟩))) (Want.plain rfl) (by first | rfl | simp only [e7, cond_true, cond_false, List.cons_append, List.nil_append, List.append_nil]) (fun x => by first | rfl | simp only [ins_self, ins_ne D (show 6 ≠ 7 by decide), upd_self, e7, cond_true, cond_false, List.cons_append, List.nil_append, List.append_nil]) (fun x => rfl) (OpR.rowIndexM e_arena_Span 1 hx7 rfl rfl rfl rfl rfl rfl rfl)
                refine OpsS.cons' true ?_ (fun _ _ _ _ _ _ _ => rfl) ?_
                · intro D env10 hA
                  exact OpS.yes (o0 := [.var b0 [.val v1, .val (.int .i64 (w64 (a1 + a0.fN)))] 27, .row v1 (List.map e_arena_Span a2) 2 75, .var (blk (env6 12)) [.val (.int .i64 x8.1.fAt), .val (.int .i64 x8.1.fN)] 75]) (o1 := fun x => [.var b0 [.val v1, .val (.int .i64 (w64 (a1 + a0.fN)))] 27, .row v1 (List.map e_arena_Span (a2.set (w64 ((a2.length : Int) - 1)).toNat x8.1)) 2 75, .var (blk (env6 12)) [.val (.int .i64 x8.1.fAt), .val (.int .i64 x8.1.fN)] 75]) (d := fun x => .dead) (Want.plain rfl) (by first | rfl | simp only [hA.me, cond_true, cond_false, List.cons_append, List.nil_append, List.append_nil]) (fun x => by first | rfl | simp only [ins_self, upd_self, hA.me, cond_true, cond_false, List.cons_append, List.nil_append, List.append_nil]) (fun x => rfl) (OpR.rowStore0M (j := w64 ((a2.length : Int) - 1)) e_arena_Span x8.1 1 hx7 rfl rfl rfl rfl rfl rfl rfl rfl rfl)
                exact trivial
              · intro env10
                show T X _ _ _
                refine T.ret ?_
                obtain rfl := Option.some.inj ht3
                obtain rfl := Option.some.inj h0
                exact PostG.retP (ks := [0, 1]) (Gst.trans (Gst.only [] rfl) (Gst.pick [0, 1] rfl rfl)) (.tuple #[v1]) ResL.nil rfl rfl rfl rfl
            · refine T.condF rfl (eq_false_of_ne_true c9) ?_
              refine T.skip ?_
              obtain rfl := Option.some.inj ht3
              exact ⟨_, Gst.trans (Gst.only [0, 3] rfl) (Gst.pick [0, 1] rfl rfl), _, rfl, rfl⟩
        · refine T.condF rfl (decide_eq_false c5) ?_
          refine T.skip ?_
          obtain rfl := Option.some.inj ht3
          exact ⟨_, Gst.only [0, 3] rfl, _, rfl, rfl⟩
      · rintro _ ⟨u4, rfl, rfl⟩
        show T X _ _ _
        obtain ⟨x12, hx12, h0⟩ := bnd_some h0
        refine T.drawS drawsX (fun env11 => [.val (.pointer (some ⟨b0, 0, none⟩)), .val (.pointer (some ⟨b0, 0, none⟩)), .val (.pointer (some ⟨b0, 0, none⟩)), .val (.pointer (some ⟨b0, 0, none⟩)), .val v1, .agg [.val (.int .i64 a0.fAt), .val (.int .i64 a0.fN)], .sl 2 (List.map e_arena_Span [a0]), .val (env11 7), .val (.pointer (some ⟨b0, 0, none⟩)), .val (.pointer (some ⟨b0, 0, none⟩)), .dead]) (fun D env11 => [(bif D 10 then .var b0 [.val (env11 7), .val (.int .i64 (w64 (a1 + a0.fN)))] 27 else .var b0 [.val v1, .val (.int .i64 (w64 (a1 + a0.fN)))] 27), (bif D 7 then .row (env11 7) (List.map e_arena_Span x12) 2 75 else .row v1 (List.map e_arena_Span a2) 2 75)]) [0, 0, 2, 6, 14, 0, 32, 126, 255, 511, 1023] [0, 3, 47, 48, 49, 50, 51, 52, 53, 54, 55, 56] (fun env11 => [.var b0 [.val (env11 7), .val (.int .i64 (w64 (a1 + a0.fN)))] 27, .row (env11 7) (List.map e_arena_Span x12) 2 75]) (by decide +kernel) (by decide +kernel) (fun _ => rfl) (fun _ => rfl) ?_ (fun _ => rfl) (fun _ => rfl) ?_
        · refine OpsS.cons' true ?_ (fun _ _ _ _ _ _ _ => rfl) ?_
          · intro D env11 hA
            have e10 : D 10 = false := hA.no 10 _ rfl rfl
            rcases Bool.eq_false_or_eq_true (D 7) with e7 | e7
            · exact OpS.yes (o0 := [.var b0 [.val v1, .val (.int .i64 (w64 (a1 + a0.fN)))] 27, .row (env11 7) (List.map e_arena_Span x12) 2 75]) (o1 := fun x => [.var b0 [.val v1, .val (.int .i64 (w64 (a1 + a0.fN)))] 27, .row (env11 7) (List.map e_arena_Span x12) 2 75]) (d := fun x => .val (.pointer (some ⟨b0, 0, none⟩))) (Want.plain rfl) (by first | rfl | simp only [e10, e7, cond_true, cond_false, List.cons_append, List.nil_append, List.append_nil]) (fun x => by first | rfl | simp only [ins_self, ins_ne D (show 0 ≠ 7 by decide), ins_ne D (show 0 ≠ 10 by decide), upd_self, upd_ne env11 x (show 0 ≠ 7 by decide), e10, e7, cond_true, cond_false, List.cons_append, List.nil_append, List.append_nil]) (fun x => rfl) (OpR.pure rfl)
            · exact OpS.yes (o0 := [.var b0 [.val v1, .val (.int .i64 (w64 (a1 + a0.fN)))] 27, .row v1 (List.map e_arena_Span a2) 2 75]) (o1 := fun x => [.var b0 [.val v1, .val (.int .i64 (w64 (a1 + a0.fN)))] 27, .row v1 (List.map e_arena_Span a2) 2 75]) (d := fun x => .val (.pointer (some ⟨b0, 0, none⟩))) (Want.plain rfl) (by first | rfl | simp only [e10, e7, cond_true, cond_false, List.cons_append, List.nil_append, List.append_nil]) (fun x => by first | rfl | simp only [ins_self, ins_ne D (show 0 ≠ 7 by decide), ins_ne D (show 0 ≠ 10 by decide), upd_self, upd_ne env11 x (show 0 ≠ 7 by decide), e10, e7, cond_true, cond_false, List.cons_append, List.nil_append, List.append_nil]) (fun x => rfl) (OpR.pure rfl)
          refine OpsS.cons' true ?_ (fun _ _ _ _ _ _ _ => rfl) ?_
          · intro D env11 hA
            have e7 : D 7 = false := hA.no 7 _ rfl rfl
            have e10 : D 10 = false := hA.no 10 _ rfl rfl
            exact OpS.yes (o0 := [.var b0 [.val v1, .val (.int .i64 (w64 (a1 + a0.fN)))] 27, .row v1 (List.map e_arena_Span a2) 2 75]) (o1 := fun x => [.var b0 [.val v1, .val (.int .i64 (w64 (a1 + a0.fN)))] 27, .row v1 (List.map e_arena_Span a2) 2 75]) (d := fun x => .val (.pointer (some ⟨b0, 0, none⟩))) (Want.plain rfl) (by first | rfl | simp only [e7, e10, cond_true, cond_false, List.cons_append, List.nil_append, List.append_nil]) (fun x => by first | rfl | simp only [ins_self, ins_ne D (show 1 ≠ 7 by decide), ins_ne D (show 1 ≠ 10 by decide), upd_self, upd_ne env11 x (show 1 ≠ 7 by decide), e7, e10, cond_true, cond_false, List.cons_append, List.nil_append, List.append_nil]) (fun x => rfl) (OpR.pure rfl)
          refine OpsS.cons' true ?_ (fun _ _ _ _ _ _ _ => rfl) ?_
          · intro D env11 hA
            have e7 : D 7 = false := hA.no 7 _ rfl rfl
            have e10 : D 10 = false := hA.no 10 _ rfl rfl
            exact OpS.yes (o0 := [.var b0 [.val v1, .val (.int .i64 (w64 (a1 + a0.fN)))] 27, .row v1 (List.map e_arena_Span a2) 2 75]) (o1 := fun x => [.var b0 [.val v1, .val (.int .i64 (w64 (a1 + a0.fN)))] 27, .row v1 (List.map e_arena_Span a2) 2 75]) (d := fun x => .val (.pointer (some ⟨b0, 0, none⟩))) (Want.plain rfl) (by first | rfl | simp only [e7, e10, cond_true, cond_false, List.cons_append, List.nil_append, List.append_nil]) (fun x => by first | rfl | simp only [ins_self, ins_ne D (show 2 ≠ 7 by decide), ins_ne D (show 2 ≠ 10 by decide), upd_self, upd_ne env11 x (show 2 ≠ 7 by decide), e7, e10, cond_true, cond_false, List.cons_append, List.nil_append, List.append_nil]) (fun x => rfl) (OpR.pure rfl)
          refine OpsS.cons' true ?_ (fun _ _ _ _ _ _ _ => rfl) ?_
          · intro D env11 hA
            have e7 : D 7 = false := hA.no 7 _ rfl rfl
            have e10 : D 10 = false := hA.no 10 _ rfl rfl
            exact OpS.yes (o0 := [.var b0 [.val v1, .val (.int .i64 (w64 (a1 + a0.fN)))] 27, .row v1 (List.map e_arena_Span a2) 2 75]) (o1 := fun x => [.var b0 [.val v1, .val (.int .i64 (w64 (a1 + a0.fN)))] 27, .row v1 (List.map e_arena_Span a2) 2 75]) (d := fun x => .val (.pointer (some ⟨b0, 0, none⟩))) (Want.plain rfl) (by first | rfl | simp only [e7, e10, cond_true, cond_false, List.cons_append, List.nil_append, List.append_nil]) (fun x => by first | rfl | simp only [ins_self, ins_ne D (show 3 ≠ 7 by decide), ins_ne D (show 3 ≠ 10 by decide), upd_self, upd_ne env11 x (show 3 ≠ 7 by decide), e7, e10, cond_true, cond_false, List.cons_append, List.nil_append, List.append_nil]) (fun x => rfl) (OpR.pure rfl)
          refine OpsS.cons' true ?_ (fun _ _ _ _ _ _ _ => rfl) ?_
          · intro D env11 hA
            have e7 : D 7 = false := hA.no 7 _ rfl rfl
            have e10 : D 10 = false := hA.no 10 _ rfl rfl
            exact OpS.yes (o0 := [.var b0 [.val v1, .val (.int .i64 (w64 (a1 + a0.fN)))] 27, .row v1 (List.map e_arena_Span a2) 2 75]) (o1 := fun x => [.var b0 [.val v1, .val (.int .i64 (w64 (a1 + a0.fN)))] 27, .row v1 (List.map e_arena_Span a2) 2 75]) (d := fun x => .val v1) (Want.plain rfl) (by first | rfl | simp only [e7, e10, cond_true, cond_false, List.cons_append, List.nil_append, List.append_nil]) (fun x => by first | rfl | simp only [ins_self, ins_ne D (show 4 ≠ 7 by decide), ins_ne D (show 4 ≠ 10 by decide), upd_self, upd_ne env11 x (show 4 ≠ 7 by decide), e7, e10, cond_true, cond_false, List.cons_append, List.nil_append, List.append_nil]) (fun x => rfl) (OpR.loadPtr 0 rfl rfl rfl rfl)
          refine OpsS.cons' true ?_ (fun _ _ _ _ _ _ _ => rfl) ?_
          · intro D env11 hA
            have e7 : D 7 = false := hA.no 7 _ rfl rfl
            have e10 : D 10 = false := hA.no 10 _ rfl rfl
            exact OpS.yes (o0 := [.var b0 [.val v1, .val (.int .i64 (w64 (a1 + a0.fN)))] 27, .row v1 (List.map e_arena_Span a2) 2 75]) (o1 := fun x => [.var b0 [.val v1, .val (.int .i64 (w64 (a1 + a0.fN)))] 27, .row v1 (List.map e_arena_Span a2) 2 75]) (d := fun x => .agg [.val (.int .i64 a0.fAt), .val (.int .i64 a0.fN)]) (Want.plain rfl) (by first | rfl | simp only [e7, e10, cond_true, cond_false, List.cons_append, List.nil_append, List.append_nil]) (fun x => by first | rfl | simp only [ins_self, ins_ne D (show 5 ≠ 7 by decide), ins_ne D (show 5 ≠ 10 by decide), upd_self, upd_ne env11 x (show 5 ≠ 7 by decide), e7, e10, cond_true, cond_false, List.cons_append, List.nil_append, List.append_nil]) (fun x => rfl) (OpR.pure rfl)
          refine OpsS.cons' true ?_ (fun _ _ _ _ _ _ _ => rfl) ?_
          · intro D env11 hA
            have e7 : D 7 = false := hA.no 7 _ rfl rfl
            have e10 : D 10 = false := hA.no 10 _ rfl rfl
            exact OpS.yes (o0 := [.var b0 [.val v1, .val (.int .i64 (w64 (a1 + a0.fN)))] 27, .row v1 (List.map e_arena_Span a2) 2 75]) (o1 := fun x => [.var b0 [.val v1, .val (.int .i64 (w64 (a1 + a0.fN)))] 27, .row v1 (List.map e_arena_Span a2) 2 75]) (d := fun x => .sl 2 (List.map e_arena_Span [a0])) (Want.plain rfl) (by first | rfl | simp only [e7, e10, cond_true, cond_false, List.cons_append, List.nil_append, List.append_nil]) (fun x => by first | rfl | simp only [ins_self, ins_ne D (show 6 ≠ 7 by decide), ins_ne D (show 6 ≠ 10 by decide), upd_self, upd_ne env11 x (show 6 ≠ 7 by decide), e7, e10, cond_true, cond_false, List.cons_append, List.nil_append, List.append_nil]) (fun x => rfl) (OpR.lit rfl rfl rfl rfl rfl rfl rfl)
          refine OpsS.cons' true ?_ (fun D hA env11 x j hj hD => match j, hj, hD with | 0, _, _ => rfl | 1, _, _ => rfl | 2, _, _ => rfl | 3, _, _ => rfl | 4, _, _ => rfl | 5, _, _ => rfl | 6, _, _ => rfl | 7, hj, _ => absurd rfl hj | 8, _, _ => rfl | 9, _, _ => rfl | 10, _, _ => rfl | _ + 11, _, _ => rfl) ?_
          · intro D env11 hA
            have e10 : D 10 = false := hA.no 10 _ rfl rfl
            exact OpS.yes (o0 := [.var b0 [.val v1, .val (.int .i64 (w64 (a1 + a0.fN)))] 27, .row v1 (List.map e_arena_Span a2) 2 75]) (o1 := fun x => [.var b0 [.val v1, .val (.int .i64 (w64 (a1 + a0.fN)))] 27, .row x (List.map e_arena_Span x12) 2 75]) (d := fun x => .val x) (Want.plain rfl) (by first | rfl | simp only [e10, hA.me, cond_true, cond_false, List.cons_append, List.nil_append, List.append_nil]) (fun x => by first | rfl | simp only [ins_self, ins_ne D (show 7 ≠ 10 by decide), upd_self, e10, hA.me, cond_true, cond_false, List.cons_append, List.nil_append, List.append_nil]) (fun x => rfl) (OpR.appendM (m := [a0]) e_arena_Span 1 hx12 rfl rfl rfl rfl rfl rfl rfl rfl rfl (fun _ => rfl))
          refine OpsS.cons' true ?_ (fun _ _ _ _ _ _ _ => rfl) ?_
          · intro D env11 hA
            have e7 : D 7 = true := hA.yes 7 _ rfl rfl
            have e10 : D 10 = false := hA.no 10 _ rfl rfl
            exact OpS.yes (o0 := [.var b0 [.val v1, .val (.int .i64 (w64 (a1 + a0.fN)))] 27, .row (env11 7) (List.map e_arena_Span x12) 2 75]) (o1 := fun x => [.var b0 [.val v1, .val (.int .i64 (w64 (a1 + a0.fN)))] 27, .row (env11 7) (List.map e_arena_Span x12) 2 75]) (d := fun x => .val (.pointer (some ⟨b0, 0, none⟩))) (Want.plain rfl) (by first | rfl | simp only [e7, e10, cond_true, cond_false, List.cons_append, List.nil_append, List.append_nil]) (fun x => by first | rfl | simp only [ins_self, ins_ne D (show 8 ≠ 7 by decide), ins_ne D (show 8 ≠ 10 by decide), upd_self, upd_ne env11 x (show 8 ≠ 7 by decide), e7, e10, cond_true, cond_false, List.cons_append, List.nil_append, List.append_nil]) (fun x => rfl) (OpR.pure rfl)
          refine OpsS.cons' true ?_ (fun _ _ _ _ _ _ _ => rfl) ?_
          · intro D env11 hA
            have e7 : D 7 = true := hA.yes 7 _ rfl rfl
            have e10 : D 10 = false := hA.no 10 _ rfl rfl
            exact OpS.yes (o0 := [.var b0 [.val v1, .val (.int .i64 (w64 (a1 + a0.fN)))] 27, .row (env11 7) (List.map e_arena_Span x12) 2 75]) (o1 := fun x => [.var b0 [.val v1, .val (.int .i64 (w64 (a1 + a0.fN)))] 27, .row (env11 7) (List.map e_arena_Span x12) 2 75]) (d := fun x => .val (.pointer (some ⟨b0, 0, none⟩))) (Want.plain rfl) (by first | rfl | simp only [e7, e10, cond_true, cond_false, List.cons_append, List.nil_append, List.append_nil]) (fun x => by first | rfl | simp only [ins_self, ins_ne D (show 9 ≠ 7 by decide), ins_ne D (show 9 ≠ 10 by decide), upd_self, upd_ne env11 x (show 9 ≠ 7 by decide), e7, e10, cond_true, cond_false, List.cons_append, List.nil_append, List.append_nil]) (fun x => rfl) (OpR.pure rfl)
          refine OpsS.cons' true ?_ (fun _ _ _ _ _ _ _ => rfl) ?_
          · intro D env11 hA
            have e7 : D 7 = true := hA.yes 7 _ rfl rfl
            exact OpS.yes (o0 := [.var b0 [.val v1, .val (.int .i64 (w64 (a1 + a0.fN)))] 27, .row (env11 7) (List.map e_arena_Span x12) 2 75]) (o1 := fun x => [.var b0 [.val (env11 7), .val (.int .i64 (w64 (a1 + a0.fN)))] 27, .row (env11 7) (List.map e_arena_Span x12) 2 75]) (d := fun x => .dead) (Want.plain rfl) (by first | rfl | simp only [e7, hA.me, cond_true, cond_false, List.cons_append, List.nil_append, List.append_nil]) (fun x => by first | rfl | simp only [ins_self, ins_ne D (show 10 ≠ 7 by decide), upd_self, upd_ne env11 x (show 10 ≠ 7 by decide), e7, hA.me, cond_true, cond_false, List.cons_append, List.nil_append, List.append_nil]) (fun x => rfl) (OpR.store 0 rfl rfl rfl rfl rfl rfl rfl rfl)
          exact trivial
        · intro env11
          obtain rfl := Option.some.inj h0
          exact PostG.finP (ks := [0, 1]) (Gst.only [] rfl) (.tuple #[(env11 7)]) ResL.nil rfl rfl rfl rfl
noncomputable def piece_Of.l1 (a0 : List arena_Span) (s6 : Int × Int × (List arena_Span)) : Option (Lp (Int × Int × (List arena_Span)) (Int × (List arena_Span))) :=
  if s6.1 < (a0.length : Int) then
    bnd (idx a0 s6.1) fun x15 =>
    bnd (piece_Text_with_2 x15 s6.2.1 s6.2.2) fun x17 =>
    some (Lp.next (w64 (s6.1 + 1), x17.1, x17.2))
  else
    some (Lp.done (s6.2.1, s6.2.2))
noncomputable def piece_Of (a0 : List arena_Span) : Option piece_Text :=
  bnd (loop (piece_Of.l1 a0) (0, 0, []) : Option (Int × (List arena_Span))) fun t3 =>
  some (⟨t3.2, t3.1⟩ : piece_Text)
set_option maxHeartbeats 4000000 in
theorem piece_Of_c {a0 : List arena_Span} {res : piece_Text} (h0 : piece_Of a0 = some res) : CallF X 15 [.sl 2 (List.map e_arena_Span a0)] [] (fun x => .agg [.sl 2 (List.map e_arena_Span res.fL), .val (.int .i64 res.fN)]) (fun x => []) := by
  unfold piece_Of at h0
  refine CallF.mkG (X := X) Try.func15 rfl rfl Try.ntmps15 rfl rfl ?_
  refine T.seq ?_
  refine T.region ?_
  refine TL.op (OpR.alloc rfl rfl (fun _ => rfl)) rfl (fun p1 => ?_)
  refine TL.nil ?_
  show T X _ _ _
  refine T.seq ?_
  refine T.region ?_
  refine TL.op (OpR.alloc rfl rfl (fun _ => rfl)) rfl (fun p2 => ?_)
  refine TL.nil ?_
  show T X _ _ _
  refine T.seq ?_
  refine T.seq ?_
  refine T.region ?_
  refine TL.op1 (OpR.pure rfl) rfl ?_
  refine TL.op1 (OpR.cast (OpR.pure rfl) (intE (lenM _ _))) rfl ?_
  refine TL.op1 (OpR.pure rfl) rfl ?_
  refine TL.nil ?_
  show T X _ _ _
  obtain ⟨t3, ht3, h0⟩ := bnd_some h0
  refine T.cutC (fun S' => ∃ y4 : Value, S' = ⟨[(3, .val (.pointer (some ⟨(blk p2), 0, none⟩))), (2, .val (.pointer (some ⟨(blk p1), 0, none⟩)))], [.var (blk p1) [.val (.slice none 0 0), .val (.int .i64 0)] 27, .var (blk p2) [.val y4, .val (.int .i64 t3.1)] 27, .row y4 (List.map e_arena_Span t3.2) 2 75], 16⟩) (fun _ h => h) ?_ ?_
  · refine T.block ?_
    obtain ⟨n7, n12⟩ := loop_some ht3
    refine T.loop (fun n S' => ∃ S'', Gst S' S'' ∧ ∃ y5 : Value, ∃ s6 : Int × Int × (List arena_Span), S'' = ⟨[(8, .val (.int .i64 s6.1)), (7, .val (.int .i64 (a0.length : Int))), (6, .sl 2 (List.map e_arena_Span a0)), (3, .val (.pointer (some ⟨(blk p2), 0, none⟩))), (2, .val (.pointer (some ⟨(blk p1), 0, none⟩)))], [.var (blk p1) [.val (.slice none 0 0), .val (.int .i64 0)] 27, .var (blk p2) [.val y5, .val (.int .i64 s6.2.1)] 27, .row y5 (List.map e_arena_Span s6.2.2) 2 75], 16⟩ ∧ iter (piece_Of.l1 a0) n s6 = some t3) n7 ?_ ?_
    · exact ⟨_, Gst.trans (Gst.only [2, 3, 6, 7, 8] rfl) (Gst.nilRow (ow := [.var (blk p1) [.val (.slice none 0 0), .val (.int .i64 0)] 27, .var (blk p2) [.val (.slice none 0 0), .val (.int .i64 0)] 27]) 2 75 rfl), (.slice none 0 0), (0, 0, []), rfl, n12⟩
    rintro n7 _ ⟨_, g, y5, s6, rfl, i11⟩
    refine T.ghost g ?_
    obtain ⟨m8, q9, rfl, q10, i11⟩ := iter_succ i11
    unfold piece_Of.l1 at q10
    refine T.seq ?_
    refine T.region ?_
    refine TL.op1 (OpR.pure rfl) rfl ?_
    refine TL.nil ?_
    show T X _ _ _
    refine T.seq ?_
    rcases ite_some q10 with ⟨c14, q10⟩ | ⟨c14, q10⟩
    · refine T.condT rfl (decide_eq_true c14) ?_
      refine T.skip ?_
      show T X _ _ _
      refine T.seq ?_
      refine T.block ?_
      refine T.seq ?_
      refine T.region ?_
      obtain ⟨x15, hx15, q10⟩ := bnd_some q10
      refine TL.op1 (OpR.indexM e_arena_Span hx15 rfl rfl rfl rfl rfl) rfl ?_
      refine TL.op1 (OpR.pure rfl) rfl ?_
      refine TL.op (OpR.alloc rfl rfl (fun _ => rfl)) rfl (fun p16 => ?_)
      refine TL.op0 (OpR.store 3 rfl rfl rfl rfl rfl rfl rfl rfl) ?_
      refine TL.nil ?_
      show T X _ _ _
      refine T.region ?_
      refine TL.op1 (OpR.loadPtr 3 rfl rfl rfl rfl) rfl ?_
      obtain ⟨x17, hx17, q10⟩ := bnd_some q10
      refine TL.op (OpR.call [1, 2] fn60 (piece_Text_with_2_c hx17) rfl rfl rfl (fun _ => rfl)) rfl (fun w18 => ?_)
      refine TL.nil ?_
      show T X _ _ _
      refine T.region ?_
      refine TL.op1 (OpR.pure rfl) rfl ?_
      refine TL.op1 (OpR.pure rfl) rfl ?_
      refine TL.nil ?_
      obtain rfl := Option.some.inj q10
      exact ⟨m8, Nat.lt_succ_self _, _, Gst.trans (Gst.only [2, 3, 6, 7, 8] rfl) (Gst.pick [0, 1, 2] rfl rfl), (vn w18 0), (w64 (s6.1 + 1), x17.1, x17.2), rfl, i11⟩
    · refine T.condF rfl (decide_eq_false c14) ?_
      refine T.exit ?_
      obtain rfl := Option.some.inj q10
      obtain rfl : _ = _ := i11
      exact ⟨_, Gst.only [2, 3] rfl, y5, rfl⟩
  · rintro _ ⟨y4, rfl⟩
    show T X _ _ _
    refine T.seq ?_
    refine T.region ?_
    refine TL.op1 (OpR.loadPtr 1 rfl rfl rfl rfl) rfl ?_
    refine TL.op0 (OpR.store 0 rfl rfl rfl rfl rfl rfl rfl rfl) ?_
    refine TL.nil ?_
    show T X _ _ _
    refine T.ret ?_
    obtain rfl := Option.some.inj h0
    exact PostG.retP (ks := []) (Gst.trans (Gst.only [2] rfl) (Gst.trans (Gst.freezeRow 2 rfl rfl (ReS.cons Re.refl ReS.nil) (ReO.var (ReL.cons (Re.base .all) (ReL.cons Re.refl ReL.nil)) (ReO.var (ReL.cons (Re.base .all) (ReL.cons Re.refl ReL.nil)) (ReO.same ReO.nil)))) (Gst.pick [0] rfl rfl))) undef (ResL.cons (ResV.var 0 rfl rfl rfl rfl) ResL.nil) rfl rfl rfl rfl
noncomputable def ref04_Of.l1 (x13 : ref03_Span) (s18 : Int × (List Int)) : Option (Lp (Int × (List Int)) (List Int)) :=
  if s18.1 < x13.fN then
    bnd (app 8 s18.2 [w64 (x13.fAt + s18.1)]) fun x27 =>
    some (Lp.next (w64 (s18.1 + 1), x27))
  else
    some (Lp.done s18.2)
noncomputable def ref04_Of.l2 (a0 : List ref03_Span) (s4 : Int × (List Int)) : Option (Lp (Int × (List Int)) (List Int)) :=
  if s4.1 < (a0.length : Int) then
    bnd (idx a0 s4.1) fun x13 =>
    bnd (loop (ref04_Of.l1 x13) (0, s4.2) : Option (List Int)) fun t15 =>
    some (Lp.next (w64 (s4.1 + 1), t15))
  else
    some (Lp.done s4.2)
noncomputable def ref04_Of (a0 : List ref03_Span) : Option (List Int) :=
  bnd (loop (ref04_Of.l2 a0) (0, []) : Option (List Int)) fun t1 =>
  some t1
set_option maxHeartbeats 4000000 in
theorem ref04_Of_c {a0 : List ref03_Span} {res : (List Int)} (h0 : ref04_Of a0 = some res) : CallF X 17 [.sl 2 (List.map e_ref03_Span a0)] [] (fun x => .sl 1 (List.map (eI .i64) res)) (fun x => []) := by
  unfold ref04_Of at h0
  refine CallF.mkG (X := X) Try.func17 rfl rfl Try.ntmps17 rfl rfl ?_
  refine T.seq ?_
  refine T.region ?_
  refine TL.op1 (OpR.pure rfl) rfl ?_
  refine TL.nil ?_
  show T X _ _ _
  refine T.seq ?_
  refine T.region ?_
  refine TL.op1 (OpR.pure rfl) rfl ?_
  refine TL.nil ?_
  show T X _ _ _
  refine T.seq ?_
  refine T.seq ?_
  refine T.region ?_
  refine TL.op1 (OpR.pure rfl) rfl ?_
  refine TL.op1 (OpR.cast (OpR.pure rfl) (intE (lenM _ _))) rfl ?_
  refine TL.op1 (OpR.pure rfl) rfl ?_
  refine TL.nil ?_
  show T X _ _ _
  obtain ⟨t1, ht1, h0⟩ := bnd_some h0
  refine T.cutC (fun S' => ∃ y2 : Value, S' = ⟨[(3, .val y2), (2, .val (.slice none 0 0))], [.row y2 (List.map (eI .i64) t1) 1 3], 28⟩) (fun _ h => h) ?_ ?_
  · refine T.block ?_
    obtain ⟨n5, n10⟩ := loop_some ht1
    refine T.loop (fun n S' => ∃ S'', Gst S' S'' ∧ ∃ y3 : Value, ∃ s4 : Int × (List Int), S'' = ⟨[(9, .val (.int .i64 s4.1)), (8, .val (.int .i64 (a0.length : Int))), (7, .sl 2 (List.map e_ref03_Span a0)), (3, .val y3), (2, .val (.slice none 0 0))], [.row y3 (List.map (eI .i64) s4.2) 1 3], 28⟩ ∧ iter (ref04_Of.l2 a0) n s4 = some t1) n5 ?_ ?_
    · exact ⟨_, Gst.trans (Gst.only [2, 3, 7, 8, 9] rfl) (Gst.nilRow (ow := []) 1 3 rfl), (.slice none 0 0), (0, []), rfl, n10⟩
    rintro n5 _ ⟨_, g, y3, s4, rfl, i9⟩
    refine T.ghost g ?_
    obtain ⟨m6, q7, rfl, q8, i9⟩ := iter_succ i9
    unfold ref04_Of.l2 at q8
    refine T.seq ?_
    refine T.region ?_
    refine TL.op1 (OpR.pure rfl) rfl ?_
    refine TL.nil ?_
    show T X _ _ _
    refine T.seq ?_
    rcases ite_some q8 with ⟨c12, q8⟩ | ⟨c12, q8⟩
    · refine T.condT rfl (decide_eq_true c12) ?_
      refine T.skip ?_
      show T X _ _ _
      refine T.seq ?_
      refine T.block ?_
      refine T.seq ?_
      refine T.region ?_
      obtain ⟨x13, hx13, q8⟩ := bnd_some q8
      refine TL.op1 (OpR.indexM e_ref03_Span hx13 rfl rfl rfl rfl rfl) rfl ?_
      refine TL.op1 (OpR.pure rfl) rfl ?_
      refine TL.op (OpR.alloc rfl rfl (fun _ => rfl)) rfl (fun p14 => ?_)
      refine TL.op0 (OpR.store 1 rfl rfl rfl rfl rfl rfl rfl rfl) ?_
      refine TL.nil ?_
      show T X _ _ _
      refine T.seq ?_
      refine T.region ?_
      refine TL.op1 (OpR.pure rfl) rfl ?_
      refine TL.nil ?_
      show T X _ _ _
      obtain ⟨t15, ht15, q8⟩ := bnd_some q8
      refine T.cutC (fun S' => ∃ y16 : Value, S' = ⟨[(9, .val (.int .i64 s4.1)), (8, .val (.int .i64 (a0.length : Int))), (7, .sl 2 (List.map e_ref03_Span a0)), (3, .val y16), (2, .val (.slice none 0 0))], [.row y16 (List.map (eI .i64) t15) 1 3], 28⟩) (fun _ h => h) ?_ ?_
      · refine T.block ?_
        obtain ⟨n19, n24⟩ := loop_some ht15
        refine T.loop (fun n S' => ∃ S'', Gst S' S'' ∧ ∃ y17 : Value, ∃ s18 : Int × (List Int), S'' = ⟨[(9, .val (.int .i64 s4.1)), (8, .val (.int .i64 (a0.length : Int))), (7, .sl 2 (List.map e_ref03_Span a0)), (6, .val (.int .i64 s18.1)), (5, .val (.pointer (some ⟨(blk p14), 0, none⟩))), (3, .val y17), (2, .val (.slice none 0 0))], [.row y17 (List.map (eI .i64) s18.2) 1 3, .var (blk p14) [.val (.int .i64 x13.fAt), .val (.int .i64 x13.fN)] 80], 28⟩ ∧ iter (ref04_Of.l1 x13) n s18 = some t15) n19 ?_ ?_
        · exact ⟨_, Gst.only [2, 3, 5, 6, 7, 8, 9] rfl, y3, (0, s4.2), rfl, n24⟩
        rintro n19 _ ⟨_, g, y17, s18, rfl, i23⟩
        refine T.ghost g ?_
        obtain ⟨m20, q21, rfl, q22, i23⟩ := iter_succ i23
        unfold ref04_Of.l1 at q22
        refine T.seq ?_
        refine T.seq ?_
        refine T.region ?_
        refine TL.op1 (OpR.pure rfl) rfl ?_
        refine TL.op1 (OpR.pure rfl) rfl ?_
        refine TL.op1 (OpR.loadPtr 1 rfl rfl rfl rfl) rfl ?_
        refine TL.op1 (OpR.pure rfl) rfl ?_
        refine TL.nil ?_
        show T X _ _ _
        rcases ite_some q22 with ⟨c26, q22⟩ | ⟨c26, q22⟩
        · refine T.condT rfl (decide_eq_true c26) ?_
          refine T.skip ?_
          show T X _ _ _
          refine T.seq ?_
          refine T.block ?_
          refine T.region ?_
          refine TL.op1 (OpR.pure rfl) rfl ?_
          refine TL.op1 (OpR.pure rfl) rfl ?_
          refine TL.op1 (OpR.loadPtr 1 rfl rfl rfl rfl) rfl ?_
          refine TL.op1 (OpR.pure rfl) rfl ?_
          refine TL.op1 (OpR.pure rfl) rfl ?_
          refine TL.op1 (OpR.lit rfl rfl rfl rfl rfl rfl rfl) rfl ?_
          obtain ⟨x27, hx27, q22⟩ := bnd_some q22
          refine TL.op (OpR.appendM (m := [w64 (x13.fAt + s18.1)]) (eI .i64) 0 hx27 rfl rfl rfl rfl rfl rfl rfl rfl rfl (fun _ => rfl)) rfl (fun v28 => ?_)
          refine TL.op1 (OpR.pure rfl) rfl ?_
          refine TL.nil ?_
          show T X _ _ _
          refine T.region ?_
          refine TL.op1 (OpR.pure rfl) rfl ?_
          refine TL.op1 (OpR.pure rfl) rfl ?_
          refine TL.op1 (OpR.pure rfl) rfl ?_
          refine TL.nil ?_
          obtain rfl := Option.some.inj q22
          exact ⟨m20, Nat.lt_succ_self _, _, Gst.only [2, 3, 5, 6, 7, 8, 9] rfl, v28, (w64 (s18.1 + 1), x27), rfl, i23⟩
        · refine T.condF rfl (decide_eq_false c26) ?_
          refine T.exit ?_
          obtain rfl := Option.some.inj q22
          obtain rfl : _ = _ := i23
          exact ⟨_, Gst.trans (Gst.only [2, 3, 7, 8, 9] rfl) (Gst.pick [0] rfl rfl), y17, rfl⟩
      · rintro _ ⟨y16, rfl⟩
        show T X _ _ _
        refine T.region ?_
        refine TL.op1 (OpR.pure rfl) rfl ?_
        refine TL.op1 (OpR.pure rfl) rfl ?_
        refine TL.nil ?_
        obtain rfl := Option.some.inj q8
        exact ⟨m6, Nat.lt_succ_self _, _, Gst.only [2, 3, 7, 8, 9] rfl, y16, (w64 (s4.1 + 1), t15), rfl, i9⟩
    · refine T.condF rfl (decide_eq_false c12) ?_
      refine T.exit ?_
      obtain rfl := Option.some.inj q8
      obtain rfl : _ = _ := i9
      exact ⟨_, Gst.only [2, 3] rfl, y3, rfl⟩
  · rintro _ ⟨y2, rfl⟩
    show T X _ _ _
    refine T.seq ?_
    refine T.region ?_
    refine TL.op1 (OpR.pure rfl) rfl ?_
    refine TL.op1 (OpR.pure rfl) rfl ?_
    refine TL.nil ?_
    show T X _ _ _
    refine T.ret ?_
    obtain rfl := Option.some.inj h0
    exact PostG.retP (ks := []) (Gst.trans (Gst.only [2] rfl) (Gst.trans (Gst.freezeRow 0 rfl rfl (ReS.cons (Re.base .all) ReS.nil) (ReO.same ReO.nil)) (Gst.pick [] rfl rfl))) undef (ResL.cons (ResV.tmp rfl) ResL.nil) rfl rfl rfl rfl
noncomputable def slices_Clone_arena_Span_arena_Span (a0 : List arena_Span) : Option (List arena_Span) :=
  bnd (app 16 [] a0) fun x5 =>
  some x5
set_option maxHeartbeats 4000000 in
theorem slices_Clone_arena_Span_arena_Span_c {a0 : List arena_Span} {res : (List arena_Span)} (h0 : slices_Clone_arena_Span_arena_Span a0 = some res) : CallF X 79 [.sl 2 (List.map e_arena_Span a0)] [] (fun x => .val (vn x 0)) (fun x => [.row (vn x 0) (List.map e_arena_Span res) 2 75]) := by
  unfold slices_Clone_arena_Span_arena_Span at h0
  refine CallF.mkG (X := X) Try.func79 rfl rfl Try.ntmps79 rfl rfl ?_
  refine T.seq ?_
  refine T.region ?_
  refine TL.op1 (OpR.pure rfl) rfl ?_
  refine TL.nil ?_
  show T X _ _ _
  refine T.seq ?_
  refine T.seq ?_
  refine T.region ?_
  refine TL.op1 (OpR.pure rfl) rfl ?_
  refine TL.isNil rfl rfl rfl rfl (fun b1 e2 => ?_)
  refine TL.nil ?_
  show T X _ _ _
  rcases Bool.eq_false_or_eq_true b1 with c3 | c3
  · obtain rfl := map_nil_of (e2 c3)
    rw [app_nil] at h0
    refine T.condT rfl (c3) ?_
    refine T.seq ?_
    refine T.region ?_
    refine TL.op1 (OpR.pure rfl) rfl ?_
    refine TL.nil ?_
    show T X _ _ _
    refine T.ret ?_
    obtain rfl := Option.some.inj h0
    exact PostG.retP (ks := [0]) (Gst.trans (Gst.only [2] rfl) (Gst.nilRow (ow := []) 2 75 rfl)) (.tuple #[(.slice none 0 0)]) (ResL.cons (ResV.tmp rfl) ResL.nil) rfl rfl rfl rfl
  · refine T.condF rfl (c3) ?_
    refine T.skip ?_
    show T X _ _ _
    refine T.seq ?_
    refine T.region ?_
    refine TL.op (OpR.litRow rfl rfl rfl rfl rfl rfl rfl rfl (fun _ => rfl)) rfl (fun v4 => ?_)
    refine TL.op1 (OpR.pure rfl) rfl ?_
    obtain ⟨x5, hx5, h0⟩ := bnd_some h0
    refine TL.op (OpR.appendM (m := a0) e_arena_Span 0 hx5 rfl rfl rfl rfl rfl rfl rfl rfl rfl (fun _ => rfl)) rfl (fun v6 => ?_)
    refine TL.op1 (OpR.pure rfl) rfl ?_
    refine TL.nil ?_
    show T X _ _ _
    refine T.ret ?_
    obtain rfl := Option.some.inj h0
    exact PostG.retP (ks := [0]) (Gst.only [2] rfl) (.tuple #[v6]) (ResL.cons (ResV.tmp rfl) ResL.nil) rfl rfl rfl rfl
noncomputable def piece_Text_Spans (a0 : piece_Text) : Option (List arena_Span) :=
  bnd (slices_Clone_arena_Span_arena_Span a0.fL) fun x1 =>
  some x1
set_option maxHeartbeats 4000000 in
theorem piece_Text_Spans_c {a0 : piece_Text} {res : (List arena_Span)} (h0 : piece_Text_Spans a0 = some res) : CallF X 63 [.agg [.sl 2 (List.map e_arena_Span a0.fL), .val (.int .i64 a0.fN)]] [] (fun x => .sl 2 (List.map e_arena_Span res)) (fun x => []) := by
  unfold piece_Text_Spans at h0
  refine CallF.mkG (X := X) Try.func63 rfl rfl Try.ntmps63 rfl rfl ?_
  refine T.seq ?_
  refine T.region ?_
  refine TL.op1 (OpR.boxImm rfl rfl) rfl ?_
  refine TL.op1 (OpR.pure rfl) rfl ?_
  refine TL.nil ?_
  show T X _ _ _
  refine T.seq ?_
  refine T.region ?_
  refine TL.op1 (OpR.pure rfl) rfl ?_
  refine TL.op1 (OpR.pure rfl) rfl ?_
  obtain ⟨x1, hx1, h0⟩ := bnd_some h0
  refine TL.op (OpR.call [] fn79 (slices_Clone_arena_Span_arena_Span_c hx1) rfl rfl rfl (fun _ => rfl)) rfl (fun w2 => ?_)
  refine TL.op1 (OpR.pure rfl) rfl ?_
  refine TL.nil ?_
  show T X _ _ _
  refine T.ret ?_
  obtain rfl := Option.some.inj h0
  exact PostG.retP (ks := []) (Gst.trans (Gst.only [2] rfl) (Gst.trans (Gst.freezeRow 0 rfl rfl (ReS.cons (Re.base .all) ReS.nil) (ReO.same ReO.nil)) (Gst.pick [] rfl rfl))) undef (ResL.cons (ResV.tmp rfl) ResL.nil) rfl rfl rfl rfl
noncomputable def law04_Spans.l1 (x1 : (List arena_Span)) (s5 : Int × (List ref03_Span)) : Option (Lp (Int × (List ref03_Span)) (List ref03_Span)) :=
  if s5.1 < (x1.length : Int) then
    bnd (idx x1 s5.1) fun x14 =>
    bnd (app 16 s5.2 [(⟨x14.fAt, x14.fN⟩ : ref03_Span)]) fun x16 =>
    some (Lp.next (w64 (s5.1 + 1), x16))
  else
    some (Lp.done s5.2)
noncomputable def law04_Spans (a0 : piece_Text) : Option (List ref03_Span) :=
  bnd (piece_Text_Spans a0) fun x1 =>
  bnd (loop (law04_Spans.l1 x1) (0, []) : Option (List ref03_Span)) fun t2 =>
  some t2
set_option maxHeartbeats 4000000 in
theorem law04_Spans_c {a0 : piece_Text} {res : (List ref03_Span)} (h0 : law04_Spans a0 = some res) : CallF X 61 [.agg [.sl 2 (List.map e_arena_Span a0.fL), .val (.int .i64 a0.fN)]] [] (fun x => .sl 2 (List.map e_ref03_Span res)) (fun x => []) := by
  unfold law04_Spans at h0
  refine CallF.mkG (X := X) Try.func61 rfl rfl Try.ntmps61 rfl rfl ?_
  refine T.seq ?_
  refine T.region ?_
  refine TL.op1 (OpR.boxImm rfl rfl) rfl ?_
  refine TL.op1 (OpR.pure rfl) rfl ?_
  refine TL.nil ?_
  show T X _ _ _
  refine T.seq ?_
  refine T.region ?_
  refine TL.op1 (OpR.pure rfl) rfl ?_
  refine TL.nil ?_
  show T X _ _ _
  refine T.seq ?_
  refine T.seq ?_
  refine T.region ?_
  refine TL.op1 (OpR.pure rfl) rfl ?_
  obtain ⟨x1, hx1, h0⟩ := bnd_some h0
  refine TL.op1 (OpR.call0 fn63 (piece_Text_Spans_c hx1) rfl) rfl ?_
  refine TL.op1 (OpR.cast (OpR.pure rfl) (intE (lenM _ _))) rfl ?_
  refine TL.op1 (OpR.pure rfl) rfl ?_
  refine TL.nil ?_
  show T X _ _ _
  obtain ⟨t2, ht2, h0⟩ := bnd_some h0
  refine T.cutC (fun S' => ∃ y3 : Value, S' = ⟨[(3, .val y3), (2, .val (.slice none 0 0))], [.row y3 (List.map e_ref03_Span t2) 2 80], 23⟩) (fun _ h => h) ?_ ?_
  · refine T.block ?_
    obtain ⟨n6, n11⟩ := loop_some ht2
    refine T.loop (fun n S' => ∃ S'', Gst S' S'' ∧ ∃ y4 : Value, ∃ s5 : Int × (List ref03_Span), S'' = ⟨[(9, .val (.int .i64 s5.1)), (8, .val (.int .i64 (x1.length : Int))), (7, .sl 2 (List.map e_arena_Span x1)), (3, .val y4), (2, .val (.slice none 0 0))], [.row y4 (List.map e_ref03_Span s5.2) 2 80], 23⟩ ∧ iter (law04_Spans.l1 x1) n s5 = some t2) n6 ?_ ?_
    · exact ⟨_, Gst.trans (Gst.only [2, 3, 7, 8, 9] rfl) (Gst.nilRow (ow := []) 2 80 rfl), (.slice none 0 0), (0, []), rfl, n11⟩
    rintro n6 _ ⟨_, g, y4, s5, rfl, i10⟩
    refine T.ghost g ?_
    obtain ⟨m7, q8, rfl, q9, i10⟩ := iter_succ i10
    unfold law04_Spans.l1 at q9
    refine T.seq ?_
    refine T.region ?_
    refine TL.op1 (OpR.pure rfl) rfl ?_
    refine TL.nil ?_
    show T X _ _ _
    refine T.seq ?_
    rcases ite_some q9 with ⟨c13, q9⟩ | ⟨c13, q9⟩
    · refine T.condT rfl (decide_eq_true c13) ?_
      refine T.skip ?_
      show T X _ _ _
      refine T.seq ?_
      refine T.block ?_
      refine T.seq ?_
      refine T.region ?_
      obtain ⟨x14, hx14, q9⟩ := bnd_some q9
      refine TL.op1 (OpR.indexM e_arena_Span hx14 rfl rfl rfl rfl rfl) rfl ?_
      refine TL.op1 (OpR.pure rfl) rfl ?_
      refine TL.op (OpR.alloc rfl rfl (fun _ => rfl)) rfl (fun p15 => ?_)
      refine TL.op0 (OpR.store 1 rfl rfl rfl rfl rfl rfl rfl rfl) ?_
      refine TL.nil ?_
      show T X _ _ _
      refine T.region ?_
      refine TL.op1 (OpR.pure rfl) rfl ?_
      refine TL.op1 (OpR.pure rfl) rfl ?_
      refine TL.op1 (OpR.loadPtr 1 rfl rfl rfl rfl) rfl ?_
      refine TL.op1 (OpR.pure rfl) rfl ?_
      refine TL.op1 (OpR.loadPtr 1 rfl rfl rfl rfl) rfl ?_
      refine TL.op1 (OpR.build rfl rfl rfl rfl rfl) rfl ?_
      refine TL.op1 (OpR.lit rfl rfl rfl rfl rfl rfl rfl) rfl ?_
      obtain ⟨x16, hx16, q9⟩ := bnd_some q9
      refine TL.op (OpR.appendM (m := [(⟨x14.fAt, x14.fN⟩ : ref03_Span)]) e_ref03_Span 0 hx16 rfl rfl rfl rfl rfl rfl rfl rfl rfl (fun _ => rfl)) rfl (fun v17 => ?_)
      refine TL.op1 (OpR.pure rfl) rfl ?_
      refine TL.nil ?_
      show T X _ _ _
      refine T.region ?_
      refine TL.op1 (OpR.pure rfl) rfl ?_
      refine TL.op1 (OpR.pure rfl) rfl ?_
      refine TL.nil ?_
      obtain rfl := Option.some.inj q9
      exact ⟨m7, Nat.lt_succ_self _, _, Gst.trans (Gst.only [2, 3, 7, 8, 9] rfl) (Gst.pick [0] rfl rfl), v17, (w64 (s5.1 + 1), x16), rfl, i10⟩
    · refine T.condF rfl (decide_eq_false c13) ?_
      refine T.exit ?_
      obtain rfl := Option.some.inj q9
      obtain rfl : _ = _ := i10
      exact ⟨_, Gst.only [2, 3] rfl, y4, rfl⟩
  · rintro _ ⟨y3, rfl⟩
    show T X _ _ _
    refine T.seq ?_
    refine T.region ?_
    refine TL.op1 (OpR.pure rfl) rfl ?_
    refine TL.op1 (OpR.pure rfl) rfl ?_
    refine TL.nil ?_
    show T X _ _ _
    refine T.ret ?_
    obtain rfl := Option.some.inj h0
    exact PostG.retP (ks := []) (Gst.trans (Gst.only [2] rfl) (Gst.trans (Gst.freezeRow 0 rfl rfl (ReS.cons (Re.base .all) ReS.nil) (ReO.same ReO.nil)) (Gst.pick [] rfl rfl))) undef (ResL.cons (ResV.tmp rfl) ResL.nil) rfl rfl rfl rfl
noncomputable def ref04_Spans.l1 (a0 : List Int) (s4 : Int × (List ref03_Span)) : Option (Lp (Int × (List ref03_Span)) (List ref03_Span)) :=
  if s4.1 < (a0.length : Int) then
    bnd (idx a0 s4.1) fun x13 =>
    bnd (if s4.1 > 0 then
      bnd (idx a0 (w64 (s4.1 - 1))) fun x16 =>
      some ((w64 (x16 + 1)) == x13)
    else
      some false : Option Bool) fun t14 =>
    bnd (if t14 = true then
      bnd (idx s4.2 (w64 ((s4.2.length : Int) - 1))) fun x20 =>
      some (s4.2.set (w64 ((s4.2.length : Int) - 1)).toNat (⟨x20.fAt, w64 (x20.fN + 1)⟩ : ref03_Span))
    else
      bnd (app 16 s4.2 [(⟨x13, 1⟩ : ref03_Span)]) fun x21 =>
      some x21 : Option (List ref03_Span)) fun t17 =>
    some (Lp.next (w64 (s4.1 + 1), t17))
  else
    some (Lp.done s4.2)
noncomputable def ref04_Spans (a0 : List Int) : Option (List ref03_Span) :=
  bnd (loop (ref04_Spans.l1 a0) (0, []) : Option (List ref03_Span)) fun t1 =>
  some t1
set_option maxHeartbeats 4000000 in
theorem ref04_Spans_c {a0 : List Int} {res : (List ref03_Span)} (h0 : ref04_Spans a0 = some res) : CallF X 20 [.sl 1 (List.map (eI .i64) a0)] [] (fun x => .sl 2 (List.map e_ref03_Span res)) (fun x => []) := by
  unfold ref04_Spans at h0
  refine CallF.mkG (X := X) Try.func20 rfl rfl Try.ntmps20 rfl rfl ?_
  refine T.seq ?_
  refine T.region ?_
  refine TL.op1 (OpR.pure rfl) rfl ?_
  refine TL.nil ?_
  show T X _ _ _
  refine T.seq ?_
  refine T.region ?_
  refine TL.op1 (OpR.pure rfl) rfl ?_
  refine TL.nil ?_
  show T X _ _ _
  refine T.seq ?_
  refine T.seq ?_
  refine T.region ?_
  refine TL.op1 (OpR.pure rfl) rfl ?_
  refine TL.op1 (OpR.cast (OpR.pure rfl) (intE (lenM _ _))) rfl ?_
  refine TL.op1 (OpR.pure rfl) rfl ?_
  refine TL.nil ?_
  show T X _ _ _
  obtain ⟨t1, ht1, h0⟩ := bnd_some h0
  refine T.cutC (fun S' => ∃ y2 : Value, S' = ⟨[(3, .val y2), (2, .val (.slice none 0 0))], [.row y2 (List.map e_ref03_Span t1) 2 80], 42⟩) (fun _ h => h) ?_ ?_
  · refine T.block ?_
    obtain ⟨n5, n10⟩ := loop_some ht1
    refine T.loop (fun n S' => ∃ S'', Gst S' S'' ∧ ∃ y3 : Value, ∃ s4 : Int × (List ref03_Span), S'' = ⟨[(8, .val (.int .i64 s4.1)), (7, .val (.int .i64 (a0.length : Int))), (6, .sl 1 (List.map (eI .i64) a0)), (3, .val y3), (2, .val (.slice none 0 0)), (0, .sl 1 (List.map (eI .i64) a0))], [.row y3 (List.map e_ref03_Span s4.2) 2 80], 42⟩ ∧ iter (ref04_Spans.l1 a0) n s4 = some t1) n5 ?_ ?_
    · exact ⟨_, Gst.trans (Gst.only [0, 2, 3, 6, 7, 8] rfl) (Gst.nilRow (ow := []) 2 80 rfl), (.slice none 0 0), (0, []), rfl, n10⟩
    rintro n5 _ ⟨_, g, y3, s4, rfl, i9⟩
    refine T.ghost g ?_
    obtain ⟨m6, q7, rfl, q8, i9⟩ := iter_succ i9
    unfold ref04_Spans.l1 at q8
    refine T.seq ?_
    refine T.region ?_
    refine TL.op1 (OpR.pure rfl) rfl ?_
    refine TL.nil ?_
    show T X _ _ _
    refine T.seq ?_
    rcases ite_some q8 with ⟨c12, q8⟩ | ⟨c12, q8⟩
    · refine T.condT rfl (decide_eq_true c12) ?_
      refine T.skip ?_
      show T X _ _ _
      refine T.seq ?_
      refine T.block ?_
      refine T.seq ?_
      refine T.region ?_
      refine TL.op1 (OpR.pure rfl) rfl ?_
      obtain ⟨x13, hx13, q8⟩ := bnd_some q8
      refine TL.op1 (OpR.indexM (eI .i64) hx13 rfl rfl rfl rfl rfl) rfl ?_
      refine TL.op1 (OpR.pure rfl) rfl ?_
      refine TL.op1 (OpR.pure rfl) rfl ?_
      refine TL.op1 (OpR.pure rfl) rfl ?_
      refine TL.nil ?_
      show T X _ _ _
      refine T.seq ?_
      obtain ⟨t14, ht14, q8⟩ := bnd_some q8
      refine T.cutC (fun S' => S' = ⟨[(24, .val (.bool t14)), (8, .val (.int .i64 s4.1)), (7, .val (.int .i64 (a0.length : Int))), (6, .sl 1 (List.map (eI .i64) a0)), (5, .val (.int .i64 x13)), (3, .val y3), (2, .val (.slice none 0 0)), (0, .sl 1 (List.map (eI .i64) a0))], [.row y3 (List.map e_ref03_Span s4.2) 2 80], 42⟩) (fun _ h => h) ?_ ?_
      · refine T.region ?_
        refine TL.op1 (OpR.pure rfl) rfl ?_
        refine TL.op1 (OpR.pure rfl) rfl ?_
        refine TL.op1 (OpR.pure rfl) rfl ?_
        rcases ite_some ht14 with ⟨c15, ht14⟩ | ⟨c15, ht14⟩
        · refine TL.on rfl rfl rfl rfl (decide_eq_true c15) ?_
          refine TL.op1 (OpR.pure rfl) rfl ?_
          refine TL.on rfl rfl rfl rfl (decide_eq_true c15) ?_
          refine TL.op1 (OpR.pure rfl) rfl ?_
          refine TL.on rfl rfl rfl rfl (decide_eq_true c15) ?_
          refine TL.op1 (OpR.pure rfl) rfl ?_
          refine TL.on rfl rfl rfl rfl (decide_eq_true c15) ?_
          obtain ⟨x16, hx16, ht14⟩ := bnd_some ht14
          refine TL.op1 (OpR.indexM (eI .i64) hx16 rfl rfl rfl rfl rfl) rfl ?_
          refine TL.on rfl rfl rfl rfl (decide_eq_true c15) ?_
          refine TL.op1 (OpR.pure rfl) rfl ?_
          refine TL.on rfl rfl rfl rfl (decide_eq_true c15) ?_
          refine TL.op1 (OpR.pure rfl) rfl ?_
          refine TL.on rfl rfl rfl rfl (decide_eq_true c15) ?_
          refine TL.op1 (OpR.pure rfl) rfl ?_
          refine TL.on rfl rfl rfl rfl (decide_eq_true c15) ?_
          refine TL.op1 (OpR.pure rfl) rfl ?_
          refine TL.op1 (OpR.pickT rfl (decide_eq_true c15) rfl) rfl ?_
          refine TL.nil ?_
          obtain rfl := Option.some.inj ht14
          exact ⟨_, Gst.only [0, 2, 3, 5, 6, 7, 8, 24] rfl, rfl⟩
        · refine TL.off rfl rfl rfl rfl (decide_eq_false c15) rfl rfl ?_
          refine TL.off rfl rfl rfl rfl (decide_eq_false c15) rfl rfl ?_
          refine TL.off rfl rfl rfl rfl (decide_eq_false c15) rfl rfl ?_
          refine TL.off rfl rfl rfl rfl (decide_eq_false c15) rfl rfl ?_
          refine TL.off rfl rfl rfl rfl (decide_eq_false c15) rfl rfl ?_
          refine TL.off rfl rfl rfl rfl (decide_eq_false c15) rfl rfl ?_
          refine TL.off rfl rfl rfl rfl (decide_eq_false c15) rfl rfl ?_
          refine TL.off rfl rfl rfl rfl (decide_eq_false c15) rfl rfl ?_
          refine TL.op1 (OpR.pickF rfl (decide_eq_false c15) rfl) rfl ?_
          refine TL.nil ?_
          obtain rfl := Option.some.inj ht14
          exact ⟨_, Gst.only [0, 2, 3, 5, 6, 7, 8, 24] rfl, rfl⟩
      · rintro _ rfl
        show T X _ _ _
        obtain ⟨t17, ht17, q8⟩ := bnd_some q8
        refine T.cutC (fun S' => ∃ y18 : Value, S' = ⟨[(8, .val (.int .i64 s4.1)), (7, .val (.int .i64 (a0.length : Int))), (6, .sl 1 (List.map (eI .i64) a0)), (3, .val y18), (2, .val (.slice none 0 0)), (0, .sl 1 (List.map (eI .i64) a0))], [.row y18 (List.map e_ref03_Span t17) 2 80], 42⟩) (fun _ h => h) ?_ ?_
        · rcases ite_some ht17 with ⟨c19, ht17⟩ | ⟨c19, ht17⟩
          · refine T.condT rfl (c19) ?_
            refine T.region ?_
            refine TL.op1 (OpR.pure rfl) rfl ?_
            refine TL.op1 (OpR.pure rfl) rfl ?_
            refine TL.op1 (OpR.rowLenM e_ref03_Span 0 rfl rfl rfl rfl) rfl ?_
            refine TL.op1 (OpR.pure rfl) rfl ?_
            obtain ⟨x20, hx20, ht17⟩ := bnd_some ht17
            refine TL.op1 (OpR.rowIndexM e_ref03_Span 0 hx20 rfl rfl rfl rfl rfl rfl rfl) rfl ?_
            refine TL.op1 (OpR.pure rfl) rfl ?_
            refine TL.op1 (OpR.rowLoadM (j := w64 ((s4.2.length : Int) - 1)) e_ref03_Span 0 hx20 rfl rfl rfl rfl) rfl ?_
            refine TL.op1 (OpR.pure rfl) rfl ?_
            refine TL.op1 (OpR.rowIndexM e_ref03_Span 0 hx20 rfl rfl rfl rfl rfl rfl rfl) rfl ?_
            refine TL.op1 (OpR.pure rfl) rfl ?_
            refine TL.op0 (OpR.rowStoreM (j := w64 ((s4.2.length : Int) - 1)) e_ref03_Span (⟨x20.fAt, w64 (x20.fN + 1)⟩ : ref03_Span) 0 hx20 rfl rfl rfl rfl rfl rfl rfl rfl rfl) ?_
            refine TL.nil ?_
            obtain rfl := Option.some.inj ht17
            exact ⟨_, Gst.only [0, 2, 3, 6, 7, 8] rfl, y3, rfl⟩
          · refine T.condF rfl (eq_false_of_ne_true c19) ?_
            refine T.region ?_
            refine TL.op1 (OpR.pure rfl) rfl ?_
            refine TL.op1 (OpR.pure rfl) rfl ?_
            refine TL.op1 (OpR.build rfl rfl rfl rfl rfl) rfl ?_
            refine TL.op1 (OpR.lit rfl rfl rfl rfl rfl rfl rfl) rfl ?_
            obtain ⟨x21, hx21, ht17⟩ := bnd_some ht17
            refine TL.op (OpR.appendM (m := [(⟨x13, 1⟩ : ref03_Span)]) e_ref03_Span 0 hx21 rfl rfl rfl rfl rfl rfl rfl rfl rfl (fun _ => rfl)) rfl (fun v22 => ?_)
            refine TL.op1 (OpR.pure rfl) rfl ?_
            refine TL.nil ?_
            obtain rfl := Option.some.inj ht17
            exact ⟨_, Gst.only [0, 2, 3, 6, 7, 8] rfl, v22, rfl⟩
        · rintro _ ⟨y18, rfl⟩
          show T X _ _ _
          refine T.region ?_
          refine TL.op1 (OpR.pure rfl) rfl ?_
          refine TL.op1 (OpR.pure rfl) rfl ?_
          refine TL.nil ?_
          obtain rfl := Option.some.inj q8
          exact ⟨m6, Nat.lt_succ_self _, _, Gst.only [0, 2, 3, 6, 7, 8] rfl, y18, (w64 (s4.1 + 1), t17), rfl, i9⟩
    · refine T.condF rfl (decide_eq_false c12) ?_
      refine T.exit ?_
      obtain rfl := Option.some.inj q8
      obtain rfl : _ = _ := i9
      exact ⟨_, Gst.only [2, 3] rfl, y3, rfl⟩
  · rintro _ ⟨y2, rfl⟩
    show T X _ _ _
    refine T.seq ?_
    refine T.region ?_
    refine TL.op1 (OpR.pure rfl) rfl ?_
    refine TL.op1 (OpR.pure rfl) rfl ?_
    refine TL.nil ?_
    show T X _ _ _
    refine T.ret ?_
    obtain rfl := Option.some.inj h0
    exact PostG.retP (ks := []) (Gst.trans (Gst.only [2] rfl) (Gst.trans (Gst.freezeRow 0 rfl rfl (ReS.cons (Re.base .all) ReS.nil) (ReO.same ReO.nil)) (Gst.pick [] rfl rfl))) undef (ResL.cons (ResV.tmp rfl) ResL.nil) rfl rfl rfl rfl
noncomputable def ref04_Same.l1 (a0 : List ref03_Span) (a1 : List ref03_Span) (s4 : Int) : Option (Lp Int (Ex Unit Bool)) :=
  if s4 < (a0.length : Int) then
    bnd (idx a0 s4) fun x14 =>
    bnd (idx a1 s4) fun x15 =>
    if x14 = x15 then
      some (Lp.next (w64 (s4 + 1)))
    else
      some (Lp.done (Ex.ret false))
  else
    some (Lp.done (Ex.brk ()))
noncomputable def ref04_Same (a0 : List ref03_Span) (a1 : List ref03_Span) : Option Bool :=
  if (a0.length : Int) = (a1.length : Int) then
    bnd (loop (ref04_Same.l1 a0 a1) 0 : Option (Ex Unit Bool)) fun t2 => match t2 with
      | .brk u3 =>
        some true
      | .ret u3 => some u3
  else
    some false
set_option maxHeartbeats 4000000 in
theorem ref04_Same_c {a0 : List ref03_Span} {a1 : List ref03_Span} {res : Bool} (h0 : ref04_Same a0 a1 = some res) : CallF X 19 [.sl 2 (List.map e_ref03_Span a0), .sl 2 (List.map e_ref03_Span a1)] [] (fun x => .val (.bool res)) (fun x => []) := by
  unfold ref04_Same at h0
  refine CallF.mkG (X := X) Try.func19 rfl rfl Try.ntmps19 rfl rfl ?_
  refine T.seq ?_
  refine T.region ?_
  refine TL.op1 (OpR.pure rfl) rfl ?_
  refine TL.nil ?_
  show T X _ _ _
  refine T.seq ?_
  refine T.seq ?_
  refine T.region ?_
  refine TL.op1 (OpR.pure rfl) rfl ?_
  refine TL.op1 (OpR.cast (OpR.pure rfl) (intE (lenM _ _))) rfl ?_
  refine TL.op1 (OpR.pure rfl) rfl ?_
  refine TL.op1 (OpR.cast (OpR.pure rfl) (intE (lenM _ _))) rfl ?_
  refine TL.op1 (OpR.pure rfl) rfl ?_
  refine TL.nil ?_
  show T X _ _ _
  rcases ite_some h0 with ⟨c1, h0⟩ | ⟨c1, h0⟩
  · refine T.condF rfl (not_t (beq_iff_eq.2 c1)) ?_
    refine T.skip ?_
    show T X _ _ _
    refine T.seq ?_
    refine T.seq ?_
    refine T.region ?_
    refine TL.op1 (OpR.pure rfl) rfl ?_
    refine TL.op1 (OpR.cast (OpR.pure rfl) (intE (lenM _ _))) rfl ?_
    refine TL.op1 (OpR.pure rfl) rfl ?_
    refine TL.nil ?_
    show T X _ _ _
    obtain ⟨t2, ht2, h0⟩ := bnd_some h0
    refine T.cutC (fun S' => ∃ u3, t2 = Ex.brk u3 ∧ S' = ⟨[(4, .val (.bool false))], [], 26⟩) (fun _ h => h) ?_ ?_
    · refine T.block ?_
      obtain ⟨n5, n10⟩ := loop_some ht2
      refine T.loop (fun n S' => ∃ S'', Gst S' S'' ∧ ∃ s4 : Int, S'' = ⟨[(13, .val (.int .i64 s4)), (12, .val (.int .i64 (a0.length : Int))), (4, .val (.bool false)), (1, .sl 2 (List.map e_ref03_Span a1)), (0, .sl 2 (List.map e_ref03_Span a0))], [], 26⟩ ∧ iter (ref04_Same.l1 a0 a1) n s4 = some t2) n5 ?_ ?_
      · exact ⟨_, Gst.only [0, 1, 4, 12, 13] rfl, 0, rfl, n10⟩
      rintro n5 _ ⟨_, g, s4, rfl, i9⟩
      refine T.ghost g ?_
      obtain ⟨m6, q7, rfl, q8, i9⟩ := iter_succ i9
      unfold ref04_Same.l1 at q8
      refine T.seq ?_
      refine T.region ?_
      refine TL.op1 (OpR.pure rfl) rfl ?_
      refine TL.nil ?_
      show T X _ _ _
      refine T.seq ?_
      rcases ite_some q8 with ⟨c12, q8⟩ | ⟨c12, q8⟩
      · refine T.condT rfl (decide_eq_true c12) ?_
        refine T.skip ?_
        show T X _ _ _
        refine T.seq ?_
        refine T.block ?_
        refine T.seq ?_
        refine T.region ?_
        refine TL.op1 (OpR.pure rfl) rfl ?_
        refine TL.op1 (OpR.pure rfl) rfl ?_
        refine TL.nil ?_
        show T X _ _ _
        refine T.seq ?_
        obtain ⟨x14, hx14, q8⟩ := bnd_some q8
        obtain ⟨x15, hx15, q8⟩ := bnd_some q8
        refine T.drawQ drawsX [.sl 2 (List.map e_ref03_Span a0), .val (.int .i64 s4), .nod [.val (.int .i64 x14.fAt), .val (.int .i64 x14.fN)], .agg [.val (.int .i64 x14.fAt), .val (.int .i64 x14.fN)], .sl 2 (List.map e_ref03_Span a1), .val (.int .i64 s4), .nod [.val (.int .i64 x15.fAt), .val (.int .i64 x15.fN)], .agg [.val (.int .i64 x15.fAt), .val (.int .i64 x15.fN)], .val (.bool (!(x14 == x15)))] [0, 1, 4, 5, 12, 13, 14, 15, 16, 17, 18, 19, 20, 21, 22, 23, 24] (by decide +kernel) rfl ?_ rfl ?_
        · refine OpsQ.yes (Want.plain rfl) rfl (OpR.pure rfl) ?_
          refine OpsQ.yes (Want.plain rfl) rfl (OpR.pure rfl) ?_
          refine OpsQ.yes (Want.plain rfl) rfl (OpR.indexM e_ref03_Span hx14 rfl rfl rfl rfl rfl) ?_
          refine OpsQ.yes (Want.plain rfl) rfl (OpR.pure rfl) ?_
          refine OpsQ.yes (Want.plain rfl) rfl (OpR.pure rfl) ?_
          refine OpsQ.yes (Want.plain rfl) rfl (OpR.pure rfl) ?_
          refine OpsQ.yes (Want.plain rfl) rfl (OpR.indexM e_ref03_Span hx15 rfl rfl rfl rfl rfl) ?_
          refine OpsQ.yes (Want.plain rfl) rfl (OpR.pure rfl) ?_
          refine OpsQ.yes (Want.plain rfl) rfl (OpR.cast (OpR.neStruct rfl rfl rfl rfl rfl (by kernel_rfl) (by kernel_rfl)) (boolE (congrArg (fun b => !b) (beq_ref03_Span x14 x15)))) ?_
          exact OpsQ.nil
        · show T X _ _ _
          rcases ite_some q8 with ⟨c16, q8⟩ | ⟨c16, q8⟩
          · refine T.condF rfl (not_t (beq_iff_eq.2 c16)) ?_
            refine T.skip ?_
            show T X _ _ _
            refine T.region ?_
            refine TL.op1 (OpR.pure rfl) rfl ?_
            refine TL.op1 (OpR.pure rfl) rfl ?_
            refine TL.nil ?_
            obtain rfl := Option.some.inj q8
            exact ⟨m6, Nat.lt_succ_self _, _, Gst.only [0, 1, 4, 12, 13] rfl, w64 (s4 + 1), rfl, i9⟩
          · refine T.condT rfl (not_f (beq_eq_false_iff_ne.2 c16)) ?_
            refine T.seq ?_
            refine T.region ?_
            refine TL.op1 (OpR.pure rfl) rfl ?_
            refine TL.nil ?_
            show T X _ _ _
            refine T.ret ?_
            obtain rfl := Option.some.inj q8
            obtain rfl : _ = _ := i9
            obtain rfl := Option.some.inj h0
            exact PostG.retP (ks := []) (Gst.only [4] rfl) undef (ResL.cons (ResV.tmp rfl) ResL.nil) rfl rfl rfl rfl
      · refine T.condF rfl (decide_eq_false c12) ?_
        refine T.exit ?_
        obtain rfl := Option.some.inj q8
        obtain rfl : _ = _ := i9
        exact ⟨_, Gst.only [4] rfl, _, rfl, rfl⟩
    · rintro _ ⟨u3, rfl, rfl⟩
      show T X _ _ _
      refine T.seq ?_
      refine T.region ?_
      refine TL.op1 (OpR.pure rfl) rfl ?_
      refine TL.nil ?_
      show T X _ _ _
      refine T.ret ?_
      obtain rfl := Option.some.inj h0
      exact PostG.retP (ks := []) (Gst.only [4] rfl) undef (ResL.cons (ResV.tmp rfl) ResL.nil) rfl rfl rfl rfl
  · refine T.condT rfl (not_f (beq_eq_false_iff_ne.2 c1)) ?_
    refine T.seq ?_
    refine T.region ?_
    refine TL.op1 (OpR.pure rfl) rfl ?_
    refine TL.nil ?_
    show T X _ _ _
    refine T.ret ?_
    obtain rfl := Option.some.inj h0
    exact PostG.retP (ks := []) (Gst.only [4] rfl) undef (ResL.cons (ResV.tmp rfl) ResL.nil) rfl rfl rfl rfl
noncomputable def piece_Text_Len (a0 : piece_Text) : Option Int :=
  some a0.fN
set_option maxHeartbeats 4000000 in
theorem piece_Text_Len_c {a0 : piece_Text} {res : Int} (h0 : piece_Text_Len a0 = some res) : CallF X 30 [.agg [.sl 2 (List.map e_arena_Span a0.fL), .val (.int .i64 a0.fN)]] [] (fun x => .val (.int .i64 res)) (fun x => []) := by
  unfold piece_Text_Len at h0
  refine CallF.mkG (X := X) Try.func30 rfl rfl Try.ntmps30 rfl rfl ?_
  refine T.seq ?_
  refine T.region ?_
  refine TL.op1 (OpR.boxImm rfl rfl) rfl ?_
  refine TL.op1 (OpR.pure rfl) rfl ?_
  refine TL.nil ?_
  show T X _ _ _
  refine T.seq ?_
  refine T.region ?_
  refine TL.op1 (OpR.pure rfl) rfl ?_
  refine TL.op1 (OpR.pure rfl) rfl ?_
  refine TL.op1 (OpR.pure rfl) rfl ?_
  refine TL.nil ?_
  show T X _ _ _
  refine T.ret ?_
  obtain rfl := Option.some.inj h0
  exact PostG.retP (ks := []) (Gst.only [2] rfl) undef (ResL.cons (ResV.tmp rfl) ResL.nil) rfl rfl rfl rfl
noncomputable def law04_like (a0 : piece_Text) (a1 : List Int) : Option Bool :=
  bnd (bnd (law04_Spans a0) fun x2 =>
  bnd (ref04_Spans a1) fun x3 =>
  bnd (ref04_Same x2 x3) fun x4 =>
  if x4 = true then
    bnd (piece_Text_Len a0) fun x6 =>
    some (x6 == (a1.length : Int))
  else
    some false : Option Bool) fun t1 =>
  some t1
set_option maxHeartbeats 4000000 in
theorem law04_like_c {a0 : piece_Text} {a1 : List Int} {res : Bool} (h0 : law04_like a0 a1 = some res) : CallF X 16 [.agg [.sl 2 (List.map e_arena_Span a0.fL), .val (.int .i64 a0.fN)], .sl 1 (List.map (eI .i64) a1)] [] (fun x => .val (.bool res)) (fun x => []) := by
  unfold law04_like at h0
  refine CallF.mkG (X := X) Try.func16 rfl rfl Try.ntmps16 rfl rfl ?_
  refine T.seq ?_
  refine T.region ?_
  refine TL.op1 (OpR.boxImm rfl rfl) rfl ?_
  refine TL.op1 (OpR.pure rfl) rfl ?_
  refine TL.nil ?_
  show T X _ _ _
  refine T.seq ?_
  obtain ⟨t1, ht1, h0⟩ := bnd_some h0
  refine T.cutC (fun S' => S' = ⟨[(4, .val (.bool t1))], [], 17⟩) (fun _ h => h) ?_ ?_
  · refine T.region ?_
    refine TL.op1 (OpR.pure rfl) rfl ?_
    obtain ⟨x2, hx2, ht1⟩ := bnd_some ht1
    refine TL.op1 (OpR.call0 fn61 (law04_Spans_c hx2) rfl) rfl ?_
    refine TL.op1 (OpR.pure rfl) rfl ?_
    obtain ⟨x3, hx3, ht1⟩ := bnd_some ht1
    refine TL.op1 (OpR.call0 fn20 (ref04_Spans_c hx3) rfl) rfl ?_
    obtain ⟨x4, hx4, ht1⟩ := bnd_some ht1
    refine TL.op1 (OpR.call0 fn19 (ref04_Same_c hx4) rfl) rfl ?_
    refine TL.op1 (OpR.pure rfl) rfl ?_
    rcases ite_some ht1 with ⟨c5, ht1⟩ | ⟨c5, ht1⟩
    · refine TL.on rfl rfl rfl rfl (c5) ?_
      refine TL.op1 (OpR.pure rfl) rfl ?_
      refine TL.on rfl rfl rfl rfl (c5) ?_
      obtain ⟨x6, hx6, ht1⟩ := bnd_some ht1
      refine TL.op1 (OpR.call0 fn30 (piece_Text_Len_c hx6) rfl) rfl ?_
      refine TL.on rfl rfl rfl rfl (c5) ?_
      refine TL.op1 (OpR.pure rfl) rfl ?_
      refine TL.on rfl rfl rfl rfl (c5) ?_
      refine TL.op1 (OpR.cast (OpR.pure rfl) (intE (lenM _ _))) rfl ?_
      refine TL.on rfl rfl rfl rfl (c5) ?_
      refine TL.op1 (OpR.pure rfl) rfl ?_
      refine TL.op1 (OpR.pickT rfl (c5) rfl) rfl ?_
      refine TL.op1 (OpR.pure rfl) rfl ?_
      refine TL.nil ?_
      obtain rfl := Option.some.inj ht1
      exact ⟨_, Gst.only [4] rfl, rfl⟩
    · refine TL.off rfl rfl rfl rfl (eq_false_of_ne_true c5) rfl rfl ?_
      refine TL.off rfl rfl rfl rfl (eq_false_of_ne_true c5) rfl rfl ?_
      refine TL.off rfl rfl rfl rfl (eq_false_of_ne_true c5) rfl rfl ?_
      refine TL.off rfl rfl rfl rfl (eq_false_of_ne_true c5) rfl rfl ?_
      refine TL.off rfl rfl rfl rfl (eq_false_of_ne_true c5) rfl rfl ?_
      refine TL.op1 (OpR.pickF rfl (eq_false_of_ne_true c5) rfl) rfl ?_
      refine TL.op1 (OpR.pure rfl) rfl ?_
      refine TL.nil ?_
      obtain rfl := Option.some.inj ht1
      exact ⟨_, Gst.only [4] rfl, rfl⟩
  · rintro _ rfl
    show T X _ _ _
    refine T.ret ?_
    obtain rfl := Option.some.inj h0
    exact PostG.retP (ks := []) (Gst.only [4] rfl) undef (ResL.cons (ResV.tmp rfl) ResL.nil) rfl rfl rfl rfl
noncomputable def slices_Equal_arena_Span_arena_Span.l1 (a0 : List arena_Span) (a1 : List arena_Span) (s4 : Int) : Option (Lp Int (Ex Unit Bool)) :=
  if s4 < (a0.length : Int) then
    bnd (idx a0 s4) fun x14 =>
    bnd (idx a1 s4) fun x15 =>
    if x14 = x15 then
      some (Lp.next (w64 (s4 + 1)))
    else
      some (Lp.done (Ex.ret false))
  else
    some (Lp.done (Ex.brk ()))
noncomputable def slices_Equal_arena_Span_arena_Span (a0 : List arena_Span) (a1 : List arena_Span) : Option Bool :=
  if (a0.length : Int) = (a1.length : Int) then
    bnd (loop (slices_Equal_arena_Span_arena_Span.l1 a0 a1) 0 : Option (Ex Unit Bool)) fun t2 => match t2 with
      | .brk u3 =>
        some true
      | .ret u3 => some u3
  else
    some false
set_option maxHeartbeats 4000000 in
theorem slices_Equal_arena_Span_arena_Span_c {a0 : List arena_Span} {a1 : List arena_Span} {res : Bool} (h0 : slices_Equal_arena_Span_arena_Span a0 a1 = some res) : CallF X 62 [.sl 2 (List.map e_arena_Span a0), .sl 2 (List.map e_arena_Span a1)] [] (fun x => .val (.bool res)) (fun x => []) := by
  unfold slices_Equal_arena_Span_arena_Span at h0
  refine CallF.mkG (X := X) Try.func62 rfl rfl Try.ntmps62 rfl rfl ?_
  refine T.seq ?_
  refine T.region ?_
  refine TL.op1 (OpR.pure rfl) rfl ?_
  refine TL.nil ?_
  show T X _ _ _
  refine T.seq ?_
  refine T.seq ?_
  refine T.region ?_
  refine TL.op1 (OpR.pure rfl) rfl ?_
  refine TL.op1 (OpR.cast (OpR.pure rfl) (intE (lenM _ _))) rfl ?_
  refine TL.op1 (OpR.pure rfl) rfl ?_
  refine TL.op1 (OpR.cast (OpR.pure rfl) (intE (lenM _ _))) rfl ?_
  refine TL.op1 (OpR.pure rfl) rfl ?_
  refine TL.nil ?_
  show T X _ _ _
  rcases ite_some h0 with ⟨c1, h0⟩ | ⟨c1, h0⟩
  · refine T.condF rfl (not_t (beq_iff_eq.2 c1)) ?_
    refine T.skip ?_
    show T X _ _ _
    refine T.seq ?_
    refine T.seq ?_
    refine T.region ?_
    refine TL.op1 (OpR.pure rfl) rfl ?_
    refine TL.op1 (OpR.cast (OpR.pure rfl) (intE (lenM _ _))) rfl ?_
    refine TL.op1 (OpR.pure rfl) rfl ?_
    refine TL.nil ?_
    show T X _ _ _
    obtain ⟨t2, ht2, h0⟩ := bnd_some h0
    refine T.cutC (fun S' => ∃ u3, t2 = Ex.brk u3 ∧ S' = ⟨[(4, .val (.bool false))], [], 26⟩) (fun _ h => h) ?_ ?_
    · refine T.block ?_
      obtain ⟨n5, n10⟩ := loop_some ht2
      refine T.loop (fun n S' => ∃ S'', Gst S' S'' ∧ ∃ s4 : Int, S'' = ⟨[(13, .val (.int .i64 s4)), (12, .val (.int .i64 (a0.length : Int))), (4, .val (.bool false)), (1, .sl 2 (List.map e_arena_Span a1)), (0, .sl 2 (List.map e_arena_Span a0))], [], 26⟩ ∧ iter (slices_Equal_arena_Span_arena_Span.l1 a0 a1) n s4 = some t2) n5 ?_ ?_
      · exact ⟨_, Gst.only [0, 1, 4, 12, 13] rfl, 0, rfl, n10⟩
      rintro n5 _ ⟨_, g, s4, rfl, i9⟩
      refine T.ghost g ?_
      obtain ⟨m6, q7, rfl, q8, i9⟩ := iter_succ i9
      unfold slices_Equal_arena_Span_arena_Span.l1 at q8
      refine T.seq ?_
      refine T.region ?_
      refine TL.op1 (OpR.pure rfl) rfl ?_
      refine TL.nil ?_
      show T X _ _ _
      refine T.seq ?_
      rcases ite_some q8 with ⟨c12, q8⟩ | ⟨c12, q8⟩
      · refine T.condT rfl (decide_eq_true c12) ?_
        refine T.skip ?_
        show T X _ _ _
        refine T.seq ?_
        refine T.block ?_
        refine T.seq ?_
        refine T.region ?_
        refine TL.op1 (OpR.pure rfl) rfl ?_
        refine TL.op1 (OpR.pure rfl) rfl ?_
        refine TL.nil ?_
        show T X _ _ _
        refine T.seq ?_
        obtain ⟨x14, hx14, q8⟩ := bnd_some q8
        obtain ⟨x15, hx15, q8⟩ := bnd_some q8
        refine T.drawQ drawsX [.sl 2 (List.map e_arena_Span a0), .val (.int .i64 s4), .nod [.val (.int .i64 x14.fAt), .val (.int .i64 x14.fN)], .agg [.val (.int .i64 x14.fAt), .val (.int .i64 x14.fN)], .sl 2 (List.map e_arena_Span a1), .val (.int .i64 s4), .nod [.val (.int .i64 x15.fAt), .val (.int .i64 x15.fN)], .agg [.val (.int .i64 x15.fAt), .val (.int .i64 x15.fN)], .val (.bool (!(x14 == x15)))] [0, 1, 4, 5, 12, 13, 14, 15, 16, 17, 18, 19, 20, 21, 22, 23, 24] (by decide +kernel) rfl ?_ rfl ?_
        · refine OpsQ.yes (Want.plain rfl) rfl (OpR.pure rfl) ?_
          refine OpsQ.yes (Want.plain rfl) rfl (OpR.pure rfl) ?_
          refine OpsQ.yes (Want.plain rfl) rfl (OpR.indexM e_arena_Span hx14 rfl rfl rfl rfl rfl) ?_
          refine OpsQ.yes (Want.plain rfl) rfl (OpR.pure rfl) ?_
          refine OpsQ.yes (Want.plain rfl) rfl (OpR.pure rfl) ?_
          refine OpsQ.yes (Want.plain rfl) rfl (OpR.pure rfl) ?_
          refine OpsQ.yes (Want.plain rfl) rfl (OpR.indexM e_arena_Span hx15 rfl rfl rfl rfl rfl) ?_
          refine OpsQ.yes (Want.plain rfl) rfl (OpR.pure rfl) ?_
          refine OpsQ.yes (Want.plain rfl) rfl (OpR.cast (OpR.neStruct rfl rfl rfl rfl rfl (by kernel_rfl) (by kernel_rfl)) (boolE (congrArg (fun b => !b) (beq_arena_Span x14 x15)))) ?_
          exact OpsQ.nil
        · show T X _ _ _
          rcases ite_some q8 with ⟨c16, q8⟩ | ⟨c16, q8⟩
          · refine T.condF rfl (not_t (beq_iff_eq.2 c16)) ?_
            refine T.skip ?_
            show T X _ _ _
            refine T.region ?_
            refine TL.op1 (OpR.pure rfl) rfl ?_
            refine TL.op1 (OpR.pure rfl) rfl ?_
            refine TL.nil ?_
            obtain rfl := Option.some.inj q8
            exact ⟨m6, Nat.lt_succ_self _, _, Gst.only [0, 1, 4, 12, 13] rfl, w64 (s4 + 1), rfl, i9⟩
          · refine T.condT rfl (not_f (beq_eq_false_iff_ne.2 c16)) ?_
            refine T.seq ?_
            refine T.region ?_
            refine TL.op1 (OpR.pure rfl) rfl ?_
            refine TL.nil ?_
            show T X _ _ _
            refine T.ret ?_
            obtain rfl := Option.some.inj q8
            obtain rfl : _ = _ := i9
            obtain rfl := Option.some.inj h0
            exact PostG.retP (ks := []) (Gst.only [4] rfl) undef (ResL.cons (ResV.tmp rfl) ResL.nil) rfl rfl rfl rfl
      · refine T.condF rfl (decide_eq_false c12) ?_
        refine T.exit ?_
        obtain rfl := Option.some.inj q8
        obtain rfl : _ = _ := i9
        exact ⟨_, Gst.only [4] rfl, _, rfl, rfl⟩
    · rintro _ ⟨u3, rfl, rfl⟩
      show T X _ _ _
      refine T.seq ?_
      refine T.region ?_
      refine TL.op1 (OpR.pure rfl) rfl ?_
      refine TL.nil ?_
      show T X _ _ _
      refine T.ret ?_
      obtain rfl := Option.some.inj h0
      exact PostG.retP (ks := []) (Gst.only [4] rfl) undef (ResL.cons (ResV.tmp rfl) ResL.nil) rfl rfl rfl rfl
  · refine T.condT rfl (not_f (beq_eq_false_iff_ne.2 c1)) ?_
    refine T.seq ?_
    refine T.region ?_
    refine TL.op1 (OpR.pure rfl) rfl ?_
    refine TL.nil ?_
    show T X _ _ _
    refine T.ret ?_
    obtain rfl := Option.some.inj h0
    exact PostG.retP (ks := []) (Gst.only [4] rfl) undef (ResL.cons (ResV.tmp rfl) ResL.nil) rfl rfl rfl rfl
noncomputable def piece_Same (a0 : piece_Text) (a1 : piece_Text) : Option Bool :=
  bnd (slices_Equal_arena_Span_arena_Span a0.fL a1.fL) fun x1 =>
  some x1
set_option maxHeartbeats 4000000 in
theorem piece_Same_c {a0 : piece_Text} {a1 : piece_Text} {res : Bool} (h0 : piece_Same a0 a1 = some res) : CallF X 18 [.agg [.sl 2 (List.map e_arena_Span a0.fL), .val (.int .i64 a0.fN)], .agg [.sl 2 (List.map e_arena_Span a1.fL), .val (.int .i64 a1.fN)]] [] (fun x => .val (.bool res)) (fun x => []) := by
  unfold piece_Same at h0
  refine CallF.mkG (X := X) Try.func18 rfl rfl Try.ntmps18 rfl rfl ?_
  refine T.seq ?_
  refine T.region ?_
  refine TL.op1 (OpR.boxImm rfl rfl) rfl ?_
  refine TL.op1 (OpR.boxImm rfl rfl) rfl ?_
  refine TL.op1 (OpR.pure rfl) rfl ?_
  refine TL.nil ?_
  show T X _ _ _
  refine T.seq ?_
  refine T.region ?_
  refine TL.op1 (OpR.pure rfl) rfl ?_
  refine TL.op1 (OpR.pure rfl) rfl ?_
  refine TL.op1 (OpR.pure rfl) rfl ?_
  refine TL.op1 (OpR.pure rfl) rfl ?_
  obtain ⟨x1, hx1, h0⟩ := bnd_some h0
  refine TL.op1 (OpR.call0 fn62 (slices_Equal_arena_Span_arena_Span_c hx1) rfl) rfl ?_
  refine TL.op1 (OpR.pure rfl) rfl ?_
  refine TL.nil ?_
  show T X _ _ _
  refine T.ret ?_
  obtain rfl := Option.some.inj h0
  exact PostG.retP (ks := []) (Gst.only [4] rfl) undef (ResL.cons (ResV.tmp rfl) ResL.nil) rfl rfl rfl rfl
noncomputable def piece_Text_place (a0 : piece_Text) (a1 : Int) : Option Int :=
  bnd (some (if a0.fN < (if 0 > a1 then 0 else a1) then a0.fN else (if 0 > a1 then 0 else a1))) fun x1 =>
  some x1
set_option maxHeartbeats 4000000 in
theorem piece_Text_place_c {a0 : piece_Text} {a1 : Int} {res : Int} (h0 : piece_Text_place a0 a1 = some res) : CallF X 64 [.agg [.sl 2 (List.map e_arena_Span a0.fL), .val (.int .i64 a0.fN)], .val (.int .i64 a1)] [] (fun x => .val (.int .i64 res)) (fun x => []) := by
  unfold piece_Text_place at h0
  refine CallF.mkG (X := X) Try.func64 rfl rfl Try.ntmps64 rfl rfl ?_
  refine T.seq ?_
  refine T.region ?_
  refine TL.op1 (OpR.boxImm rfl rfl) rfl ?_
  refine TL.op1 (OpR.pure rfl) rfl ?_
  refine TL.nil ?_
  show T X _ _ _
  refine T.seq ?_
  refine T.region ?_
  refine TL.op1 (OpR.pure rfl) rfl ?_
  refine TL.op1 (OpR.pure rfl) rfl ?_
  refine TL.op1 (OpR.pure rfl) rfl ?_
  refine TL.op1 (OpR.pure rfl) rfl ?_
  obtain ⟨x1, hx1, h0⟩ := bnd_some h0
  refine TL.op1 (OpR.cast (OpR.pure rfl) (intE (Option.some.inj hx1))) rfl ?_
  refine TL.op1 (OpR.pure rfl) rfl ?_
  refine TL.nil ?_
  show T X _ _ _
  refine T.ret ?_
  obtain rfl := Option.some.inj h0
  exact PostG.retP (ks := []) (Gst.only [4] rfl) undef (ResL.cons (ResV.tmp rfl) ResL.nil) rfl rfl rfl rfl
noncomputable def arena_Sub (a0 : arena_Span) (a1 : Int) (a2 : Int) : Option arena_Span :=
  if a0.fN < 0 then
    some (⟨0, 0⟩ : arena_Span)
  else
    bnd (some (if a0.fN < (if 0 > a1 then 0 else a1) then a0.fN else (if 0 > a1 then 0 else a1))) fun x3 =>
    bnd (some (if a0.fN < (if x3 > a2 then x3 else a2) then a0.fN else (if x3 > a2 then x3 else a2))) fun x4 =>
    some (⟨w64 (a0.fAt + x3), w64 (x4 - x3)⟩ : arena_Span)
set_option maxHeartbeats 4000000 in
theorem arena_Sub_c {a0 : arena_Span} {a1 : Int} {a2 : Int} {res : arena_Span} (h0 : arena_Sub a0 a1 a2 = some res) : CallF X 67 [.agg [.val (.int .i64 a0.fAt), .val (.int .i64 a0.fN)], .val (.int .i64 a1), .val (.int .i64 a2)] [] (fun x => .agg [.val (.int .i64 res.fAt), .val (.int .i64 res.fN)]) (fun x => []) := by
  unfold arena_Sub at h0
  refine CallF.mkG (X := X) Try.func67 rfl rfl Try.ntmps67 rfl rfl ?_
  refine T.seq ?_
  refine T.region ?_
  refine TL.op1 (OpR.boxImm rfl rfl) rfl ?_
  refine TL.op (OpR.alloc rfl rfl (fun _ => rfl)) rfl (fun p1 => ?_)
  refine TL.nil ?_
  show T X _ _ _
  refine T.seq ?_
  refine T.seq ?_
  refine T.region ?_
  refine TL.op1 (OpR.pure rfl) rfl ?_
  refine TL.op1 (OpR.pure rfl) rfl ?_
  refine TL.op1 (OpR.pure rfl) rfl ?_
  refine TL.nil ?_
  show T X _ _ _
  rcases ite_some h0 with ⟨c2, h0⟩ | ⟨c2, h0⟩
  · refine T.condT rfl (decide_eq_true c2) ?_
    refine T.seq ?_
    refine T.region ?_
    refine TL.op1 (OpR.build rfl rfl rfl rfl rfl) rfl ?_
    refine TL.op0 (OpR.store 0 rfl rfl rfl rfl rfl rfl rfl rfl) ?_
    refine TL.nil ?_
    show T X _ _ _
    refine T.ret ?_
    obtain rfl := Option.some.inj h0
    exact PostG.retP (ks := []) (Gst.only [6] rfl) undef (ResL.cons (ResV.var 0 rfl rfl rfl rfl) ResL.nil) rfl rfl rfl rfl
  · refine T.condF rfl (decide_eq_false c2) ?_
    refine T.skip ?_
    show T X _ _ _
    refine T.seq ?_
    refine T.region ?_
    refine TL.op1 (OpR.pure rfl) rfl ?_
    refine TL.op1 (OpR.pure rfl) rfl ?_
    refine TL.op1 (OpR.pure rfl) rfl ?_
    refine TL.op1 (OpR.pure rfl) rfl ?_
    obtain ⟨x3, hx3, h0⟩ := bnd_some h0
    refine TL.op1 (OpR.cast (OpR.pure rfl) (intE (Option.some.inj hx3))) rfl ?_
    refine TL.op1 (OpR.pure rfl) rfl ?_
    refine TL.nil ?_
    show T X _ _ _
    refine T.seq ?_
    refine T.region ?_
    refine TL.op1 (OpR.pure rfl) rfl ?_
    refine TL.op1 (OpR.pure rfl) rfl ?_
    refine TL.op1 (OpR.pure rfl) rfl ?_
    refine TL.op1 (OpR.pure rfl) rfl ?_
    refine TL.op1 (OpR.pure rfl) rfl ?_
    obtain ⟨x4, hx4, h0⟩ := bnd_some h0
    refine TL.op1 (OpR.cast (OpR.pure rfl) (intE (Option.some.inj hx4))) rfl ?_
    refine TL.op1 (OpR.pure rfl) rfl ?_
    refine TL.nil ?_
    show T X _ _ _
    refine T.seq ?_
    refine T.region ?_
    refine TL.op1 (OpR.pure rfl) rfl ?_
    refine TL.op1 (OpR.pure rfl) rfl ?_
    refine TL.op1 (OpR.pure rfl) rfl ?_
    refine TL.op1 (OpR.pure rfl) rfl ?_
    refine TL.op1 (OpR.pure rfl) rfl ?_
    refine TL.op1 (OpR.pure rfl) rfl ?_
    refine TL.op1 (OpR.pure rfl) rfl ?_
    refine TL.op1 (OpR.build rfl rfl rfl rfl rfl) rfl ?_
    refine TL.op0 (OpR.store 0 rfl rfl rfl rfl rfl rfl rfl rfl) ?_
    refine TL.nil ?_
    show T X _ _ _
    refine T.ret ?_
    obtain rfl := Option.some.inj h0
    exact PostG.retP (ks := []) (Gst.only [6] rfl) undef (ResL.cons (ResV.var 0 rfl rfl rfl rfl) ResL.nil) rfl rfl rfl rfl
noncomputable def piece_Text_Slice_1_2 (a0 : Int) (a1 : arena_Span) (a2 : Int) (a3 : Int) (a4 : Int) (a5 : List arena_Span) : Option (Bool × Int × (List arena_Span)) :=
  bnd (arena_Sub a1 (w64 (a3 - a0)) (if 0 > (w64 (a4 - a0)) then 0 else (w64 (a4 - a0)))) fun x1 =>
  bnd (piece_Text_with_2 x1 a2 a5) fun x2 =>
  some (decide ((w64 (a0 + a1.fN)) < a4), x2.1, x2.2)
set_option maxHeartbeats 4000000 in
theorem piece_Text_Slice_1_2_c {a0 : Int} {a1 : arena_Span} {a2 : Int} {a3 : Int} {a4 : Int} {a5 : List arena_Span} {b0 : Nat} {b1 : Nat} {b2 : Nat} {v3 : Value} {res : Bool × Int × (List arena_Span)} (h0 : piece_Text_Slice_1_2 a0 a1 a2 a3 a4 a5 = some res) : CallF X 66 [.val (.int .i64 a0), .agg [.val (.int .i64 a1.fAt), .val (.int .i64 a1.fN)], .val (.pointer (some ⟨b0, 0, none⟩)), .val (.pointer (some ⟨b1, 0, none⟩)), .val (.pointer (some ⟨b2, 0, none⟩))] [.var b0 [.val v3, .val (.int .i64 a2)] 27, .var b1 [.val (.int .i64 a3)] 3, .var b2 [.val (.int .i64 a4)] 3, .row v3 (List.map e_arena_Span a5) 2 75] (fun x => .val (.bool res.1)) (fun x => [.var b0 [.val (vn x 0), .val (.int .i64 res.2.1)] 27, .var b1 [.val (.int .i64 a3)] 3, .var b2 [.val (.int .i64 a4)] 3, .row (vn x 0) (List.map e_arena_Span res.2.2) 2 75]) := by
  unfold piece_Text_Slice_1_2 at h0
  refine CallF.mkG (X := X) Try.func66 rfl rfl Try.ntmps66 rfl rfl ?_
  refine T.seq ?_
  refine T.region ?_
  refine TL.op1 (OpR.boxImm rfl rfl) rfl ?_
  refine TL.op1 (OpR.pure rfl) rfl ?_
  refine TL.nil ?_
  show T X _ _ _
  refine T.seq ?_
  refine T.region ?_
  refine TL.op1 (OpR.pure rfl) rfl ?_
  refine TL.op1 (OpR.loadPtr 1 rfl rfl rfl rfl) rfl ?_
  refine TL.op1 (OpR.pure rfl) rfl ?_
  refine TL.op1 (OpR.pure rfl) rfl ?_
  refine TL.op1 (OpR.loadPtr 2 rfl rfl rfl rfl) rfl ?_
  refine TL.op1 (OpR.pure rfl) rfl ?_
  refine TL.op1 (OpR.pure rfl) rfl ?_
  refine TL.op1 (OpR.pure rfl) rfl ?_
  obtain ⟨x1, hx1, h0⟩ := bnd_some h0
  refine TL.op1 (OpR.call0 fn67 (arena_Sub_c hx1) rfl) rfl ?_
  obtain ⟨x2, hx2, h0⟩ := bnd_some h0
  refine TL.op (OpR.call [0, 3] fn60 (piece_Text_with_2_c hx2) rfl rfl rfl (fun _ => rfl)) rfl (fun w3 => ?_)
  refine TL.nil ?_
  show T X _ _ _
  refine T.seq ?_
  refine T.region ?_
  refine TL.op1 (OpR.pure rfl) rfl ?_
  refine TL.op1 (OpR.pure rfl) rfl ?_
  refine TL.op1 (OpR.pure rfl) rfl ?_
  refine TL.op1 (OpR.pure rfl) rfl ?_
  refine TL.op1 (OpR.loadPtr 2 rfl rfl rfl rfl) rfl ?_
  refine TL.op1 (OpR.pure rfl) rfl ?_
  refine TL.op1 (OpR.pure rfl) rfl ?_
  refine TL.nil ?_
  show T X _ _ _
  refine T.ret ?_
  obtain rfl := Option.some.inj h0
  exact PostG.retP (ks := [0, 1, 2, 3]) (Gst.only [7] rfl) (.tuple #[(vn w3 0)]) (ResL.cons (ResV.tmp rfl) ResL.nil) rfl rfl rfl rfl
noncomputable def piece_Text_each.l1 (a0 : piece_Text) (a2 : Int) (a3 : Int) (s5 : Int × Int × Int × (List arena_Span)) : Option (Lp (Int × Int × Int × (List arena_Span)) (Ex (Int × (List arena_Span)) (Int × (List arena_Span)))) :=
  if s5.2.1 < (a0.fL.length : Int) then
    bnd (idx a0.fL s5.2.1) fun x14 =>
    bnd (piece_Text_Slice_1_2 s5.1 x14 s5.2.2.1 a2 a3 s5.2.2.2) fun x16 =>
    if x16.1 = true then
      some (Lp.next (w64 (s5.1 + x14.fN), w64 (s5.2.1 + 1), x16.2.1, x16.2.2))
    else
      some (Lp.done (Ex.ret (x16.2.1, x16.2.2)))
  else
    some (Lp.done (Ex.brk (s5.2.2.1, s5.2.2.2)))
noncomputable def piece_Text_each (a0 : piece_Text) (a1 : Int) (a2 : Int) (a3 : Int) : Option (Int × (List arena_Span)) :=
  bnd (loop (piece_Text_each.l1 a0 a2 a3) (0, 0, a1, []) : Option (Ex (Int × (List arena_Span)) (Int × (List arena_Span)))) fun t1 => match t1 with
    | .brk u2 =>
      some (u2.1, u2.2)
    | .ret u2 => some u2
set_option maxHeartbeats 4000000 in
theorem piece_Text_each_c {a0 : piece_Text} {a1 : Int} {a2 : Int} {a3 : Int} {b0 : Nat} {b1 : Nat} {b2 : Nat} {res : Int × (List arena_Span)} (h0 : piece_Text_each a0 a1 a2 a3 = some res) : CallF X 65 [.agg [.sl 2 (List.map e_arena_Span a0.fL), .val (.int .i64 a0.fN)], .fn (.func 66) [] [.val (.pointer (some ⟨b0, 0, none⟩)), .val (.pointer (some ⟨b1, 0, none⟩)), .val (.pointer (some ⟨b2, 0, none⟩))]] [.var b0 [.val (.slice none 0 0), .val (.int .i64 a1)] 27, .var b1 [.val (.int .i64 a2)] 3, .var b2 [.val (.int .i64 a3)] 3] (fun x => .tup []) (fun x => [.var b0 [.val (vn x 0), .val (.int .i64 res.1)] 27, .var b1 [.val (.int .i64 a2)] 3, .var b2 [.val (.int .i64 a3)] 3, .row (vn x 0) (List.map e_arena_Span res.2) 2 75]) := by
  unfold piece_Text_each at h0
  refine CallF.mkG (X := X) Try.func65 rfl rfl Try.ntmps65 rfl rfl ?_
  refine T.seq ?_
  refine T.region ?_
  refine TL.op1 (OpR.boxImm rfl rfl) rfl ?_
  refine TL.nil ?_
  show T X _ _ _
  refine T.seq ?_
  refine T.region ?_
  refine TL.op1 (OpR.pure rfl) rfl ?_
  refine TL.nil ?_
  show T X _ _ _
  refine T.seq ?_
  refine T.region ?_
  refine TL.op1 (OpR.pure rfl) rfl ?_
  refine TL.op1 (OpR.pure rfl) rfl ?_
  refine TL.op1 (OpR.cast (OpR.pure rfl) (intE (lenM _ _))) rfl ?_
  refine TL.op1 (OpR.pure rfl) rfl ?_
  refine TL.nil ?_
  show T X _ _ _
  obtain ⟨t1, ht1, h0⟩ := bnd_some h0
  refine T.cutN (fun S' => ∃ u2, t1 = Ex.brk u2 ∧ ∃ y3 : Value, S' = ⟨[], [.var b0 [.val y3, .val (.int .i64 u2.1)] 27, .var b1 [.val (.int .i64 a2)] 3, .var b2 [.val (.int .i64 a3)] 3, .row y3 (List.map e_arena_Span u2.2) 2 75], 24⟩) (fun _ _ g ⟨h, S', ds, g', r⟩ => ⟨h, S', ds, Gst.trans g g', r⟩) ?_ ?_
  · refine T.block ?_
    obtain ⟨n6, n11⟩ := loop_some ht1
    refine T.loop (fun n S' => ∃ S'', Gst S' S'' ∧ ∃ y4 : Value, ∃ s5 : Int × Int × Int × (List arena_Span), S'' = ⟨[(10, .val (.int .i64 s5.2.1)), (9, .val (.int .i64 (a0.fL.length : Int))), (8, .sl 2 (List.map e_arena_Span a0.fL)), (4, .val (.int .i64 s5.1)), (1, .fn (.func 66) [] [.val (.pointer (some ⟨b0, 0, none⟩)), .val (.pointer (some ⟨b1, 0, none⟩)), .val (.pointer (some ⟨b2, 0, none⟩))])], [.var b0 [.val y4, .val (.int .i64 s5.2.2.1)] 27, .var b1 [.val (.int .i64 a2)] 3, .var b2 [.val (.int .i64 a3)] 3, .row y4 (List.map e_arena_Span s5.2.2.2) 2 75], 24⟩ ∧ iter (piece_Text_each.l1 a0 a2 a3) n s5 = some t1) n6 ?_ ?_
    · exact ⟨_, Gst.trans (Gst.only [1, 4, 8, 9, 10] rfl) (Gst.nilRow (ow := [.var b0 [.val (.slice none 0 0), .val (.int .i64 a1)] 27, .var b1 [.val (.int .i64 a2)] 3, .var b2 [.val (.int .i64 a3)] 3]) 2 75 rfl), (.slice none 0 0), (0, 0, a1, []), rfl, n11⟩
    rintro n6 _ ⟨_, g, y4, s5, rfl, i10⟩
    refine T.ghost g ?_
    obtain ⟨m7, q8, rfl, q9, i10⟩ := iter_succ i10
    unfold piece_Text_each.l1 at q9
    refine T.seq ?_
    refine T.region ?_
    refine TL.op1 (OpR.pure rfl) rfl ?_
    refine TL.nil ?_
    show T X _ _ _
    refine T.seq ?_
    rcases ite_some q9 with ⟨c13, q9⟩ | ⟨c13, q9⟩
    · refine T.condT rfl (decide_eq_true c13) ?_
      refine T.skip ?_
      show T X _ _ _
      refine T.seq ?_
      refine T.block ?_
      refine T.seq ?_
      refine T.region ?_
      obtain ⟨x14, hx14, q9⟩ := bnd_some q9
      refine TL.op1 (OpR.indexM e_arena_Span hx14 rfl rfl rfl rfl rfl) rfl ?_
      refine TL.op1 (OpR.pure rfl) rfl ?_
      refine TL.op (OpR.alloc rfl rfl (fun _ => rfl)) rfl (fun p15 => ?_)
      refine TL.op0 (OpR.store 4 rfl rfl rfl rfl rfl rfl rfl rfl) ?_
      refine TL.nil ?_
      show T X _ _ _
      refine T.seq ?_
      refine T.seq ?_
      refine T.region ?_
      refine TL.op1 (OpR.pure rfl) rfl ?_
      refine TL.op1 (OpR.pure rfl) rfl ?_
      refine TL.op1 (OpR.loadPtr 4 rfl rfl rfl rfl) rfl ?_
      obtain ⟨x16, hx16, q9⟩ := bnd_some q9
      refine TL.op (OpR.callV [0, 1, 2, 3] rfl fn66 (piece_Text_Slice_1_2_c hx16) rfl rfl rfl (fun _ => rfl)) rfl (fun w17 => ?_)
      refine TL.op1 (OpR.pure rfl) rfl ?_
      refine TL.nil ?_
      show T X _ _ _
      rcases ite_some q9 with ⟨c18, q9⟩ | ⟨c18, q9⟩
      · refine T.condF rfl (not_t (c18)) ?_
        refine T.skip ?_
        show T X _ _ _
        refine T.region ?_
        refine TL.op1 (OpR.pure rfl) rfl ?_
        refine TL.op1 (OpR.pure rfl) rfl ?_
        refine TL.op1 (OpR.loadPtr 4 rfl rfl rfl rfl) rfl ?_
        refine TL.op1 (OpR.pure rfl) rfl ?_
        refine TL.op1 (OpR.pure rfl) rfl ?_
        refine TL.nil ?_
        show T X _ _ _
        refine T.region ?_
        refine TL.op1 (OpR.pure rfl) rfl ?_
        refine TL.op1 (OpR.pure rfl) rfl ?_
        refine TL.nil ?_
        obtain rfl := Option.some.inj q9
        exact ⟨m7, Nat.lt_succ_self _, _, Gst.trans (Gst.only [1, 4, 8, 9, 10] rfl) (Gst.pick [0, 1, 2, 3] rfl rfl), (vn w17 0), (w64 (s5.1 + x14.fN), w64 (s5.2.1 + 1), x16.2.1, x16.2.2), rfl, i10⟩
      · refine T.condT rfl (not_f (eq_false_of_ne_true c18)) ?_
        refine T.ret ?_
        obtain rfl := Option.some.inj q9
        obtain rfl : _ = _ := i10
        obtain rfl := Option.some.inj h0
        exact PostG.retP (ks := [0, 1, 2, 3]) (Gst.trans (Gst.only [] rfl) (Gst.pick [0, 1, 2, 3] rfl rfl)) (.tuple #[(vn w17 0)]) ResL.nil rfl rfl rfl rfl
    · refine T.condF rfl (decide_eq_false c13) ?_
      refine T.exit ?_
      obtain rfl := Option.some.inj q9
      obtain rfl : _ = _ := i10
      exact ⟨_, Gst.only [] rfl, _, rfl, y4, rfl⟩
  · rintro _ ⟨u2, rfl, y3, rfl⟩
    obtain rfl := Option.some.inj h0
    exact PostG.finP (ks := [0, 1, 2, 3]) (Gst.only [] rfl) (.tuple #[y3]) ResL.nil rfl rfl rfl rfl
noncomputable def piece_Text_Slice (a0 : piece_Text) (a1 : Int) (a2 : Int) : Option piece_Text :=
  bnd (piece_Text_place a0 a1) fun x5 =>
  bnd (piece_Text_place a0 a2) fun x6 =>
  bnd (piece_Text_each a0 0 x5 x6) fun x8 =>
  if x6 ≤ x5 then
    some (⟨[], 0⟩ : piece_Text)
  else
    some (⟨x8.2, x8.1⟩ : piece_Text)
set_option maxHeartbeats 4000000 in
theorem piece_Text_Slice_c {a0 : piece_Text} {a1 : Int} {a2 : Int} {res : piece_Text} (h0 : piece_Text_Slice a0 a1 a2 = some res) : CallF X 22 [.agg [.sl 2 (List.map e_arena_Span a0.fL), .val (.int .i64 a0.fN)], .val (.int .i64 a1), .val (.int .i64 a2)] [] (fun x => .agg [.sl 2 (List.map e_arena_Span res.fL), .val (.int .i64 res.fN)]) (fun x => []) := by
  unfold piece_Text_Slice at h0
  refine CallF.mkG (X := X) Try.func22 rfl rfl Try.ntmps22 rfl rfl ?_
  refine T.seq ?_
  refine T.region ?_
  refine TL.op1 (OpR.boxImm rfl rfl) rfl ?_
  refine TL.op (OpR.boxVar rfl rfl (fun _ => rfl)) rfl (fun p1 => ?_)
  refine TL.op (OpR.boxVar rfl rfl (fun _ => rfl)) rfl (fun p2 => ?_)
  refine TL.op (OpR.alloc rfl rfl (fun _ => rfl)) rfl (fun p3 => ?_)
  refine TL.nil ?_
  show T X _ _ _
  refine T.seq ?_
  obtain ⟨x5, hx5, h0⟩ := bnd_some h0
  obtain ⟨x6, hx6, h0⟩ := bnd_some h0
  refine T.drawS drawsX (fun env4 => [.agg [.sl 2 (List.map e_arena_Span a0.fL), .val (.int .i64 a0.fN)], .val (.int .i64 a1), .val (.int .i64 x5), .agg [.sl 2 (List.map e_arena_Span a0.fL), .val (.int .i64 a0.fN)], .val (.int .i64 a2), .val (.int .i64 x6), .dead, .dead]) (fun D env4 => [(bif D 6 then .var (blk p1) [.val (.int .i64 x5)] 3 else .var (blk p1) [.val (.int .i64 a1)] 3), (bif D 7 then .var (blk p2) [.val (.int .i64 x6)] 3 else .var (blk p2) [.val (.int .i64 a2)] 3), .var (blk p3) [.val (.slice none 0 0), .val (.int .i64 0)] 27]) [0, 0, 3, 0, 0, 31, 63, 127] [0, 1, 2, 3, 4, 5, 6, 8, 9, 10, 11, 12, 13] (fun env4 => [.var (blk p1) [.val (.int .i64 x5)] 3, .var (blk p2) [.val (.int .i64 x6)] 3, .var (blk p3) [.val (.slice none 0 0), .val (.int .i64 0)] 27]) (by decide +kernel) (by decide +kernel) (fun _ => rfl) (fun _ => rfl) ?_ (fun _ => rfl) (fun _ => rfl) ?_
  · refine OpsS.cons' true ?_ (fun _ _ _ _ _ _ _ => rfl) ?_
    · intro D env4 hA
      have e6 : D 6 = false := hA.no 6 _ rfl rfl
      have e7 : D 7 = false := hA.no 7 _ rfl rfl
      exact OpS.yes (o0 := [.var (blk p1) [.val (.int .i64 a1)] 3, .var (blk p2) [.val (.int .i64 a2)] 3, .var (blk p3) [.val (.slice none 0 0), .val (.int .i64 0)] 27]) (o1 := fun x => [.var (blk p1) [.val (.int .i64 a1)] 3, .var (blk p2) [.val (.int .i64 a2)] 3, .var (blk p3) [.val (.slice none 0 0), .val (.int .i64 0)] 27]) (d := fun x => .agg [.sl 2 (List.map e_arena_Span a0.fL), .val (.int .i64 a0.fN)]) (Want.plain rfl) (by first | rfl | simp only [e6, e7, cond_true, cond_false, List.cons_append, List.nil_append, List.append_nil]) (fun x => by first | rfl | simp only [ins_self, ins_ne D (show 0 ≠ 6 by decide), ins_ne D (show 0 ≠ 7 by decide), upd_self, e6, e7, cond_true, cond_false, List.cons_append, List.nil_append, List.append_nil]) (fun x => rfl) (OpR.pure rfl)
    refine OpsS.cons' true ?_ (fun _ _ _ _ _ _ _ => rfl) ?_
    · intro D env4 hA
      have e6 : D 6 = false := hA.no 6 _ rfl rfl
      have e7 : D 7 = false := hA.no 7 _ rfl rfl
      exact OpS.yes (o0 := [.var (blk p1) [.val (.int .i64 a1)] 3, .var (blk p2) [.val (.int .i64 a2)] 3, .var (blk p3) [.val (.slice none 0 0), .val (.int .i64 0)] 27]) (o1 := fun x => [.var (blk p1) [.val (.int .i64 a1)] 3, .var (blk p2) [.val (.int .i64 a2)] 3, .var (blk p3) [.val (.slice none 0 0), .val (.int .i64 0)] 27]) (d := fun x => .val (.int .i64 a1)) (Want.plain rfl) (by first | rfl | simp only [e6, e7, cond_true, cond_false, List.cons_append, List.nil_append, List.append_nil]) (fun x => by first | rfl | simp only [ins_self, ins_ne D (show 1 ≠ 6 by decide), ins_ne D (show 1 ≠ 7 by decide), upd_self, e6, e7, cond_true, cond_false, List.cons_append, List.nil_append, List.append_nil]) (fun x => rfl) (OpR.loadPtr 0 rfl rfl rfl rfl)
    refine OpsS.cons' true ?_ (fun _ _ _ _ _ _ _ => rfl) ?_
    · intro D env4 hA
      have e6 : D 6 = false := hA.no 6 _ rfl rfl
      have e7 : D 7 = false := hA.no 7 _ rfl rfl
      exact OpS.yes (o0 := [.var (blk p1) [.val (.int .i64 a1)] 3, .var (blk p2) [.val (.int .i64 a2)] 3, .var (blk p3) [.val (.slice none 0 0), .val (.int .i64 0)] 27]) (o1 := fun x => [.var (blk p1) [.val (.int .i64 a1)] 3, .var (blk p2) [.val (.int .i64 a2)] 3, .var (blk p3) [.val (.slice none 0 0), .val (.int .i64 0)] 27]) (d := fun x => .val (.int .i64 x5)) (Want.plain rfl) (by first | rfl | simp only [e6, e7, cond_true, cond_false, List.cons_append, List.nil_append, List.append_nil]) (fun x => by first | rfl | simp only [ins_self, ins_ne D (show 2 ≠ 6 by decide), ins_ne D (show 2 ≠ 7 by decide), upd_self, e6, e7, cond_true, cond_false, List.cons_append, List.nil_append, List.append_nil]) (fun x => rfl) (OpR.call0 fn64 (piece_Text_place_c hx5) rfl)
    refine OpsS.cons' true ?_ (fun _ _ _ _ _ _ _ => rfl) ?_
    · intro D env4 hA
      have e6 : D 6 = false := hA.no 6 _ rfl rfl
      have e7 : D 7 = false := hA.no 7 _ rfl rfl
      exact OpS.yes (o0 := [.var (blk p1) [.val (.int .i64 a1)] 3, .var (blk p2) [.val (.int .i64 a2)] 3, .var (blk p3) [.val (.slice none 0 0), .val (.int .i64 0)] 27]) (o1 := fun x => [.var (blk p1) [.val (.int .i64 a1)] 3, .var (blk p2) [.val (.int .i64 a2)] 3, .var (blk p3) [.val (.slice none 0 0), .val (.int .i64 0)] 27]) (d := fun x => .agg [.sl 2 (List.map e_arena_Span a0.fL), .val (.int .i64 a0.fN)]) (Want.plain rfl) (by first | rfl | simp only [e6, e7, cond_true, cond_false, List.cons_append, List.nil_append, List.append_nil]) (fun x => by first | rfl | simp only [ins_self, ins_ne D (show 3 ≠ 6 by decide), ins_ne D (show 3 ≠ 7 by decide), upd_self, e6, e7, cond_true, cond_false, List.cons_append, List.nil_append, List.append_nil]) (fun x => rfl) (OpR.pure rfl)
    refine OpsS.cons' true ?_ (fun _ _ _ _ _ _ _ => rfl) ?_
    · intro D env4 hA
      have e6 : D 6 = false := hA.no 6 _ rfl rfl
      have e7 : D 7 = false := hA.no 7 _ rfl rfl
      exact OpS.yes (o0 := [.var (blk p1) [.val (.int .i64 a1)] 3, .var (blk p2) [.val (.int .i64 a2)] 3, .var (blk p3) [.val (.slice none 0 0), .val (.int .i64 0)] 27]) (o1 := fun x => [.var (blk p1) [.val (.int .i64 a1)] 3, .var (blk p2) [.val (.int .i64 a2)] 3, .var (blk p3) [.val (.slice none 0 0), .val (.int .i64 0)] 27]) (d := fun x => .val (.int .i64 a2)) (Want.plain rfl) (by first | rfl | simp only [e6, e7, cond_true, cond_false, List.cons_append, List.nil_append, List.append_nil]) (fun x => by first | rfl | simp only [ins_self, ins_ne D (show 4 ≠ 6 by decide), ins_ne D (show 4 ≠ 7 by decide), upd_self, e6, e7, cond_true, cond_false, List.cons_append, List.nil_append, List.append_nil]) (fun x => rfl) (OpR.loadPtr 1 rfl rfl rfl rfl)
    refine OpsS.cons' true ?_ (fun _ _ _ _ _ _ _ => rfl) ?_
    · intro D env4 hA
      have e6 : D 6 = false := hA.no 6 _ rfl rfl
      have e7 : D 7 = false := hA.no 7 _ rfl rfl
      exact OpS.yes (o0 := [.var (blk p1) [.val (.int .i64 a1)] 3, .var (blk p2) [.val (.int .i64 a2)] 3, .var (blk p3) [.val (.slice none 0 0), .val (.int .i64 0)] 27]) (o1 := fun x => [.var (blk p1) [.val (.int .i64 a1)] 3, .var (blk p2) [.val (.int .i64 a2)] 3, .var (blk p3) [.val (.slice none 0 0), .val (.int .i64 0)] 27]) (d := fun x => .val (.int .i64 x6)) (Want.plain rfl) (by first | rfl | simp only [e6, e7, cond_true, cond_false, List.cons_append, List.nil_append, List.append_nil]) (fun x => by first | rfl | simp only [ins_self, ins_ne D (show 5 ≠ 6 by decide), ins_ne D (show 5 ≠ 7 by decide), upd_self, e6, e7, cond_true, cond_false, List.cons_append, List.nil_append, List.append_nil]) (fun x => rfl) (OpR.call0 fn64 (piece_Text_place_c hx6) rfl)
    refine OpsS.cons' true ?_ (fun _ _ _ _ _ _ _ => rfl) ?_
    · intro D env4 hA
      have e7 : D 7 = false := hA.no 7 _ rfl rfl
      exact OpS.yes (o0 := [.var (blk p1) [.val (.int .i64 a1)] 3, .var (blk p2) [.val (.int .i64 a2)] 3, .var (blk p3) [.val (.slice none 0 0), .val (.int .i64 0)] 27]) (o1 := fun x => [.var (blk p1) [.val (.int .i64 x5)] 3, .var (blk p2) [.val (.int .i64 a2)] 3, .var (blk p3) [.val (.slice none 0 0), .val (.int .i64 0)] 27]) (d := fun x => .dead) (Want.plain rfl) (by first | rfl | simp only [e7, hA.me, cond_true, cond_false, List.cons_append, List.nil_append, List.append_nil]) (fun x => by first | rfl | simp only [ins_self, ins_ne D (show 6 ≠ 7 by decide), upd_self, e7, hA.me, cond_true, cond_false, List.cons_append, List.nil_append, List.append_nil]) (fun x => rfl) (OpR.store 0 rfl rfl rfl rfl rfl rfl rfl rfl)
    refine OpsS.cons' true ?_ (fun _ _ _ _ _ _ _ => rfl) ?_
    · intro D env4 hA
      have e6 : D 6 = true := hA.yes 6 _ rfl rfl
      exact OpS.yes (o0 := [.var (blk p1) [.val (.int .i64 x5)] 3, .var (blk p2) [.val (.int .i64 a2)] 3, .var (blk p3) [.val (.slice none 0 0), .val (.int .i64 0)] 27]) (o1 := fun x => [.var (blk p1) [.val (.int .i64 x5)] 3, .var (blk p2) [.val (.int .i64 x6)] 3, .var (blk p3) [.val (.slice none 0 0), .val (.int .i64 0)] 27]) (d := fun x => .dead) (Want.plain rfl) (by first | rfl | simp only [e6, hA.me, cond_true, cond_false, List.cons_append, List.nil_append, List.append_nil]) (fun x => by first | rfl | simp only [ins_self, ins_ne D (show 7 ≠ 6 by decide), upd_self, e6, hA.me, cond_true, cond_false, List.cons_append, List.nil_append, List.append_nil]) (fun x => rfl) (OpR.store 1 rfl rfl rfl rfl rfl rfl rfl rfl)
    exact trivial
  · intro env4
    show T X _ _ _
    refine T.seq ?_
    refine T.region ?_
    refine TL.op (OpR.alloc rfl rfl (fun _ => rfl)) rfl (fun p7 => ?_)
    refine TL.nil ?_
    show T X _ _ _
    refine T.seq ?_
    refine T.region ?_
    refine TL.op1 (OpR.pure rfl) rfl ?_
    refine TL.op1 (OpR.pure rfl) rfl ?_
    obtain ⟨x8, hx8, h0⟩ := bnd_some h0
    refine TL.op (OpR.call [3, 0, 1] fn65 (piece_Text_each_c hx8) rfl rfl rfl (fun _ => rfl)) rfl (fun w9 => ?_)
    refine TL.nil ?_
    show T X _ _ _
    refine T.seq ?_
    refine T.seq ?_
    refine T.region ?_
    refine TL.op1 (OpR.loadPtr 1 rfl rfl rfl rfl) rfl ?_
    refine TL.op1 (OpR.loadPtr 0 rfl rfl rfl rfl) rfl ?_
    refine TL.op1 (OpR.pure rfl) rfl ?_
    refine TL.nil ?_
    show T X _ _ _
    rcases ite_some h0 with ⟨c10, h0⟩ | ⟨c10, h0⟩
    · refine T.condT rfl (decide_eq_true c10) ?_
      refine T.seq ?_
      refine T.region ?_
      refine TL.op1 (OpR.build rfl rfl rfl rfl rfl) rfl ?_
      refine TL.op0 (OpR.store 2 rfl rfl rfl rfl rfl rfl rfl rfl) ?_
      refine TL.nil ?_
      show T X _ _ _
      refine T.ret ?_
      obtain rfl := Option.some.inj h0
      exact PostG.retP (ks := []) (Gst.trans (Gst.only [6] rfl) (Gst.trans (Gst.denil (ReS.cons Re.refl ReS.nil) (ReO.same (ReO.same (ReO.var (ReL.cons (Re.base .nil) (ReL.cons Re.refl ReL.nil)) (ReO.same (ReO.same ReO.nil)))))) (Gst.pick [2] rfl rfl))) undef (ResL.cons (ResV.var 0 rfl rfl rfl rfl) ResL.nil) rfl rfl rfl rfl
    · refine T.condF rfl (decide_eq_false c10) ?_
      refine T.skip ?_
      show T X _ _ _
      refine T.seq ?_
      refine T.region ?_
      refine TL.op1 (OpR.loadPtr 3 rfl rfl rfl rfl) rfl ?_
      refine TL.op0 (OpR.store 2 rfl rfl rfl rfl rfl rfl rfl rfl) ?_
      refine TL.nil ?_
      show T X _ _ _
      refine T.ret ?_
      obtain rfl := Option.some.inj h0
      exact PostG.retP (ks := []) (Gst.trans (Gst.only [6] rfl) (Gst.trans (Gst.freezeRow 4 rfl rfl (ReS.cons Re.refl ReS.nil) (ReO.same (ReO.same (ReO.var (ReL.cons (Re.base .all) (ReL.cons Re.refl ReL.nil)) (ReO.var (ReL.cons (Re.base .all) (ReL.cons Re.refl ReL.nil)) (ReO.same ReO.nil)))))) (Gst.pick [2] rfl rfl))) undef (ResL.cons (ResV.var 0 rfl rfl rfl rfl) ResL.nil) rfl rfl rfl rfl
noncomputable def piece_Concat.l1 (x15 : piece_Text) (s20 : Int × Int × (List arena_Span)) : Option (Lp (Int × Int × (List arena_Span)) (Int × (List arena_Span))) :=
  if s20.1 < (x15.fL.length : Int) then
    bnd (idx x15.fL s20.1) fun x29 =>
    bnd (piece_Text_with_2 x29 s20.2.1 s20.2.2) fun x31 =>
    some (Lp.next (w64 (s20.1 + 1), x31.1, x31.2))
  else
    some (Lp.done (s20.2.1, s20.2.2))
noncomputable def piece_Concat.l2 (a0 : List piece_Text) (s6 : Int × Int × (List arena_Span)) : Option (Lp (Int × Int × (List arena_Span)) (Int × (List arena_Span))) :=
  if s6.1 < (a0.length : Int) then
    bnd (idx a0 s6.1) fun x15 =>
    bnd (loop (piece_Concat.l1 x15) (0, s6.2.1, s6.2.2) : Option (Int × (List arena_Span))) fun t17 =>
    some (Lp.next (w64 (s6.1 + 1), t17.1, t17.2))
  else
    some (Lp.done (s6.2.1, s6.2.2))
noncomputable def piece_Concat (a0 : List piece_Text) : Option piece_Text :=
  bnd (loop (piece_Concat.l2 a0) (0, 0, []) : Option (Int × (List arena_Span))) fun t3 =>
  some (⟨t3.2, t3.1⟩ : piece_Text)
set_option maxHeartbeats 4000000 in
theorem piece_Concat_c {a0 : List piece_Text} {res : piece_Text} (h0 : piece_Concat a0 = some res) : CallF X 28 [.sl 2 (List.map e_piece_Text a0)] [] (fun x => .agg [.sl 2 (List.map e_arena_Span res.fL), .val (.int .i64 res.fN)]) (fun x => []) := by
  unfold piece_Concat at h0
  refine CallF.mkG (X := X) Try.func28 rfl rfl Try.ntmps28 rfl rfl ?_
  refine T.seq ?_
  refine T.region ?_
  refine TL.op (OpR.alloc rfl rfl (fun _ => rfl)) rfl (fun p1 => ?_)
  refine TL.nil ?_
  show T X _ _ _
  refine T.seq ?_
  refine T.region ?_
  refine TL.op (OpR.alloc rfl rfl (fun _ => rfl)) rfl (fun p2 => ?_)
  refine TL.nil ?_
  show T X _ _ _
  refine T.seq ?_
  refine T.seq ?_
  refine T.region ?_
  refine TL.op1 (OpR.pure rfl) rfl ?_
  refine TL.op1 (OpR.cast (OpR.pure rfl) (intE (lenM _ _))) rfl ?_
  refine TL.op1 (OpR.pure rfl) rfl ?_
  refine TL.nil ?_
  show T X _ _ _
  obtain ⟨t3, ht3, h0⟩ := bnd_some h0
  refine T.cutC (fun S' => ∃ y4 : Value, S' = ⟨[(3, .val (.pointer (some ⟨(blk p2), 0, none⟩))), (2, .val (.pointer (some ⟨(blk p1), 0, none⟩)))], [.var (blk p1) [.val (.slice none 0 0), .val (.int .i64 0)] 27, .var (blk p2) [.val y4, .val (.int .i64 t3.1)] 27, .row y4 (List.map e_arena_Span t3.2) 2 75], 26⟩) (fun _ h => h) ?_ ?_
  · refine T.block ?_
    obtain ⟨n7, n12⟩ := loop_some ht3
    refine T.loop (fun n S' => ∃ S'', Gst S' S'' ∧ ∃ y5 : Value, ∃ s6 : Int × Int × (List arena_Span), S'' = ⟨[(10, .val (.int .i64 s6.1)), (9, .val (.int .i64 (a0.length : Int))), (8, .sl 2 (List.map e_piece_Text a0)), (3, .val (.pointer (some ⟨(blk p2), 0, none⟩))), (2, .val (.pointer (some ⟨(blk p1), 0, none⟩)))], [.var (blk p1) [.val (.slice none 0 0), .val (.int .i64 0)] 27, .var (blk p2) [.val y5, .val (.int .i64 s6.2.1)] 27, .row y5 (List.map e_arena_Span s6.2.2) 2 75], 26⟩ ∧ iter (piece_Concat.l2 a0) n s6 = some t3) n7 ?_ ?_
    · exact ⟨_, Gst.trans (Gst.only [2, 3, 8, 9, 10] rfl) (Gst.nilRow (ow := [.var (blk p1) [.val (.slice none 0 0), .val (.int .i64 0)] 27, .var (blk p2) [.val (.slice none 0 0), .val (.int .i64 0)] 27]) 2 75 rfl), (.slice none 0 0), (0, 0, []), rfl, n12⟩
    rintro n7 _ ⟨_, g, y5, s6, rfl, i11⟩
    refine T.ghost g ?_
    obtain ⟨m8, q9, rfl, q10, i11⟩ := iter_succ i11
    unfold piece_Concat.l2 at q10
    refine T.seq ?_
    refine T.region ?_
    refine TL.op1 (OpR.pure rfl) rfl ?_
    refine TL.nil ?_
    show T X _ _ _
    refine T.seq ?_
    rcases ite_some q10 with ⟨c14, q10⟩ | ⟨c14, q10⟩
    · refine T.condT rfl (decide_eq_true c14) ?_
      refine T.skip ?_
      show T X _ _ _
      refine T.seq ?_
      refine T.block ?_
      refine T.seq ?_
      refine T.region ?_
      obtain ⟨x15, hx15, q10⟩ := bnd_some q10
      refine TL.op1 (OpR.indexM e_piece_Text hx15 rfl rfl rfl rfl rfl) rfl ?_
      refine TL.op1 (OpR.pure rfl) rfl ?_
      refine TL.op (OpR.alloc rfl rfl (fun _ => rfl)) rfl (fun p16 => ?_)
      refine TL.op0 (OpR.store 3 rfl rfl rfl rfl rfl rfl rfl rfl) ?_
      refine TL.nil ?_
      show T X _ _ _
      refine T.seq ?_
      refine T.region ?_
      refine TL.op1 (OpR.pure rfl) rfl ?_
      refine TL.op1 (OpR.loadPtr 3 rfl rfl rfl rfl) rfl ?_
      refine TL.op1 (OpR.cast (OpR.pure rfl) (intE (lenM _ _))) rfl ?_
      refine TL.op1 (OpR.pure rfl) rfl ?_
      refine TL.nil ?_
      show T X _ _ _
      obtain ⟨t17, ht17, q10⟩ := bnd_some q10
      refine T.cutC (fun S' => ∃ y18 : Value, S' = ⟨[(10, .val (.int .i64 s6.1)), (9, .val (.int .i64 (a0.length : Int))), (8, .sl 2 (List.map e_piece_Text a0)), (3, .val (.pointer (some ⟨(blk p2), 0, none⟩))), (2, .val (.pointer (some ⟨(blk p1), 0, none⟩)))], [.var (blk p1) [.val (.slice none 0 0), .val (.int .i64 0)] 27, .var (blk p2) [.val y18, .val (.int .i64 t17.1)] 27, .row y18 (List.map e_arena_Span t17.2) 2 75], 26⟩) (fun _ h => h) ?_ ?_
      · refine T.block ?_
        obtain ⟨n21, n26⟩ := loop_some ht17
        refine T.loop (fun n S' => ∃ S'', Gst S' S'' ∧ ∃ y19 : Value, ∃ s20 : Int × Int × (List arena_Span), S'' = ⟨[(17, .val (.int .i64 s20.1)), (16, .val (.int .i64 (x15.fL.length : Int))), (15, .sl 2 (List.map e_arena_Span x15.fL)), (10, .val (.int .i64 s6.1)), (9, .val (.int .i64 (a0.length : Int))), (8, .sl 2 (List.map e_piece_Text a0)), (3, .val (.pointer (some ⟨(blk p2), 0, none⟩))), (2, .val (.pointer (some ⟨(blk p1), 0, none⟩)))], [.var (blk p1) [.val (.slice none 0 0), .val (.int .i64 0)] 27, .var (blk p2) [.val y19, .val (.int .i64 s20.2.1)] 27, .row y19 (List.map e_arena_Span s20.2.2) 2 75], 26⟩ ∧ iter (piece_Concat.l1 x15) n s20 = some t17) n21 ?_ ?_
        · exact ⟨_, Gst.trans (Gst.only [2, 3, 8, 9, 10, 15, 16, 17] rfl) (Gst.pick [0, 1, 2] rfl rfl), y5, (0, s6.2.1, s6.2.2), rfl, n26⟩
        rintro n21 _ ⟨_, g, y19, s20, rfl, i25⟩
        refine T.ghost g ?_
        obtain ⟨m22, q23, rfl, q24, i25⟩ := iter_succ i25
        unfold piece_Concat.l1 at q24
        refine T.seq ?_
        refine T.region ?_
        refine TL.op1 (OpR.pure rfl) rfl ?_
        refine TL.nil ?_
        show T X _ _ _
        refine T.seq ?_
        rcases ite_some q24 with ⟨c28, q24⟩ | ⟨c28, q24⟩
        · refine T.condT rfl (decide_eq_true c28) ?_
          refine T.skip ?_
          show T X _ _ _
          refine T.seq ?_
          refine T.block ?_
          refine T.seq ?_
          refine T.region ?_
          obtain ⟨x29, hx29, q24⟩ := bnd_some q24
          refine TL.op1 (OpR.indexM e_arena_Span hx29 rfl rfl rfl rfl rfl) rfl ?_
          refine TL.op1 (OpR.pure rfl) rfl ?_
          refine TL.op (OpR.alloc rfl rfl (fun _ => rfl)) rfl (fun p30 => ?_)
          refine TL.op0 (OpR.store 3 rfl rfl rfl rfl rfl rfl rfl rfl) ?_
          refine TL.nil ?_
          show T X _ _ _
          refine T.region ?_
          refine TL.op1 (OpR.loadPtr 3 rfl rfl rfl rfl) rfl ?_
          obtain ⟨x31, hx31, q24⟩ := bnd_some q24
          refine TL.op (OpR.call [1, 2] fn60 (piece_Text_with_2_c hx31) rfl rfl rfl (fun _ => rfl)) rfl (fun w32 => ?_)
          refine TL.nil ?_
          show T X _ _ _
          refine T.region ?_
          refine TL.op1 (OpR.pure rfl) rfl ?_
          refine TL.op1 (OpR.pure rfl) rfl ?_
          refine TL.nil ?_
          obtain rfl := Option.some.inj q24
          exact ⟨m22, Nat.lt_succ_self _, _, Gst.trans (Gst.only [2, 3, 8, 9, 10, 15, 16, 17] rfl) (Gst.pick [0, 1, 2] rfl rfl), (vn w32 0), (w64 (s20.1 + 1), x31.1, x31.2), rfl, i25⟩
        · refine T.condF rfl (decide_eq_false c28) ?_
          refine T.exit ?_
          obtain rfl := Option.some.inj q24
          obtain rfl : _ = _ := i25
          exact ⟨_, Gst.only [2, 3, 8, 9, 10] rfl, y19, rfl⟩
      · rintro _ ⟨y18, rfl⟩
        show T X _ _ _
        refine T.region ?_
        refine TL.op1 (OpR.pure rfl) rfl ?_
        refine TL.op1 (OpR.pure rfl) rfl ?_
        refine TL.nil ?_
        obtain rfl := Option.some.inj q10
        exact ⟨m8, Nat.lt_succ_self _, _, Gst.only [2, 3, 8, 9, 10] rfl, y18, (w64 (s6.1 + 1), t17.1, t17.2), rfl, i11⟩
    · refine T.condF rfl (decide_eq_false c14) ?_
      refine T.exit ?_
      obtain rfl := Option.some.inj q10
      obtain rfl : _ = _ := i11
      exact ⟨_, Gst.only [2, 3] rfl, y5, rfl⟩
  · rintro _ ⟨y4, rfl⟩
    show T X _ _ _
    refine T.seq ?_
    refine T.region ?_
    refine TL.op1 (OpR.loadPtr 1 rfl rfl rfl rfl) rfl ?_
    refine TL.op0 (OpR.store 0 rfl rfl rfl rfl rfl rfl rfl rfl) ?_
    refine TL.nil ?_
    show T X _ _ _
    refine T.ret ?_
    obtain rfl := Option.some.inj h0
    exact PostG.retP (ks := []) (Gst.trans (Gst.only [2] rfl) (Gst.trans (Gst.freezeRow 2 rfl rfl (ReS.cons Re.refl ReS.nil) (ReO.var (ReL.cons (Re.base .all) (ReL.cons Re.refl ReL.nil)) (ReO.var (ReL.cons (Re.base .all) (ReL.cons Re.refl ReL.nil)) (ReO.same ReO.nil)))) (Gst.pick [0] rfl rfl))) undef (ResL.cons (ResV.var 0 rfl rfl rfl rfl) ResL.nil) rfl rfl rfl rfl
noncomputable def piece_Text_Delete (a0 : piece_Text) (a1 : Int) (a2 : Int) : Option piece_Text :=
  bnd (piece_Text_place a0 a1) fun x2 =>
  bnd (piece_Text_Slice a0 0 x2) fun x4 =>
  bnd (piece_Text_place a0 a2) fun x5 =>
  bnd (piece_Text_Slice a0 (if x5 > x2 then x5 else x2) a0.fN) fun x6 =>
  bnd (piece_Concat [x4, x6]) fun x7 =>
  some x7
set_option maxHeartbeats 4000000 in
theorem piece_Text_Delete_c {a0 : piece_Text} {a1 : Int} {a2 : Int} {res : piece_Text} (h0 : piece_Text_Delete a0 a1 a2 = some res) : CallF X 26 [.agg [.sl 2 (List.map e_arena_Span a0.fL), .val (.int .i64 a0.fN)], .val (.int .i64 a1), .val (.int .i64 a2)] [] (fun x => .agg [.sl 2 (List.map e_arena_Span res.fL), .val (.int .i64 res.fN)]) (fun x => []) := by
  unfold piece_Text_Delete at h0
  refine CallF.mkG (X := X) Try.func26 rfl rfl Try.ntmps26 rfl rfl ?_
  refine T.seq ?_
  refine T.region ?_
  refine TL.op1 (OpR.boxImm rfl rfl) rfl ?_
  refine TL.op (OpR.alloc rfl rfl (fun _ => rfl)) rfl (fun p1 => ?_)
  refine TL.nil ?_
  show T X _ _ _
  refine T.seq ?_
  refine T.region ?_
  refine TL.op1 (OpR.pure rfl) rfl ?_
  refine TL.op1 (OpR.pure rfl) rfl ?_
  obtain ⟨x2, hx2, h0⟩ := bnd_some h0
  refine TL.op1 (OpR.call0 fn64 (piece_Text_place_c hx2) rfl) rfl ?_
  refine TL.op1 (OpR.pure rfl) rfl ?_
  refine TL.nil ?_
  show T X _ _ _
  refine T.seq ?_
  obtain ⟨x4, hx4, h0⟩ := bnd_some h0
  obtain ⟨x5, hx5, h0⟩ := bnd_some h0
  obtain ⟨x6, hx6, h0⟩ := bnd_some h0
  obtain ⟨x7, hx7, h0⟩ := bnd_some h0
  refine T.drawS drawsX (fun env3 => [.agg [.sl 2 (List.map e_arena_Span a0.fL), .val (.int .i64 a0.fN)], .val (.int .i64 x2), .agg [.sl 2 (List.map e_arena_Span x4.fL), .val (.int .i64 x4.fN)], .agg [.sl 2 (List.map e_arena_Span a0.fL), .val (.int .i64 a0.fN)], .val (.int .i64 x2), .agg [.sl 2 (List.map e_arena_Span a0.fL), .val (.int .i64 a0.fN)], .val (.int .i64 a2), .val (.int .i64 x5), .val (.int .i64 (if x5 > x2 then x5 else x2)), .nod [.val (.int .i64 a0.fN)], .val (.int .i64 a0.fN), .agg [.sl 2 (List.map e_arena_Span x6.fL), .val (.int .i64 x6.fN)], .sl 2 (List.map e_piece_Text [x4, x6]), .agg [.sl 2 (List.map e_arena_Span x7.fL), .val (.int .i64 x7.fN)], .dead]) (fun D env3 => [(bif D 14 then .var (blk p1) [.sl 2 (List.map e_arena_Span x7.fL), .val (.int .i64 x7.fN)] 27 else .var (blk p1) [.val (.slice none 0 0), .val (.int .i64 0)] 27)]) [0, 0, 3, 0, 0, 0, 0, 103, 247, 0, 512, 2047, 4095, 8191, 16383] [0, 1, 2, 3, 6, 7, 8, 9, 10, 11, 12, 13, 14, 15, 16, 17, 18, 19, 20, 21, 22, 23] (fun env3 => [.var (blk p1) [.sl 2 (List.map e_arena_Span x7.fL), .val (.int .i64 x7.fN)] 27]) (by decide +kernel) (by decide +kernel) (fun _ => rfl) (fun _ => rfl) ?_ (fun _ => rfl) (fun _ => rfl) ?_
  · refine OpsS.cons' true ?_ (fun _ _ _ _ _ _ _ => rfl) ?_
    · intro D env3 hA
      have e14 : D 14 = false := hA.no 14 _ rfl rfl
      exact OpS.yes (o0 := [.var (blk p1) [.val (.slice none 0 0), .val (.int .i64 0)] 27]) (o1 := fun x => [.var (blk p1) [.val (.slice none 0 0), .val (.int .i64 0)] 27]) (d := fun x => .agg [.sl 2 (List.map e_arena_Span a0.fL), .val (.int .i64 a0.fN)]) (Want.plain rfl) (by first | rfl | simp only [e14, cond_true, cond_false, List.cons_append, List.nil_append, List.append_nil]) (fun x => by first | rfl | simp only [ins_self, ins_ne D (show 0 ≠ 14 by decide), upd_self, e14, cond_true, cond_false, List.cons_append, List.nil_append, List.append_nil]) (fun x => rfl) (OpR.pure rfl)
    refine OpsS.cons' true ?_ (fun _ _ _ _ _ _ _ => rfl) ?_
    · intro D env3 hA
      have e14 : D 14 = false := hA.no 14 _ rfl rfl
      exact OpS.yes (o0 := [.var (blk p1) [.val (.slice none 0 0), .val (.int .i64 0)] 27]) (o1 := fun x => [.var (blk p1) [.val (.slice none 0 0), .val (.int .i64 0)] 27]) (d := fun x => .val (.int .i64 x2)) (Want.plain rfl) (by first | rfl | simp only [e14, cond_true, cond_false, List.cons_append, List.nil_append, List.append_nil]) (fun x => by first | rfl | simp only [ins_self, ins_ne D (show 1 ≠ 14 by decide), upd_self, e14, cond_true, cond_false, List.cons_append, List.nil_append, List.append_nil]) (fun x => rfl) (OpR.pure rfl)
    refine OpsS.cons' true ?_ (fun _ _ _ _ _ _ _ => rfl) ?_
    · intro D env3 hA
      have e14 : D 14 = false := hA.no 14 _ rfl rfl
      exact OpS.yes (o0 := [.var (blk p1) [.val (.slice none 0 0), .val (.int .i64 0)] 27]) (o1 := fun x => [.var (blk p1) [.val (.slice none 0 0), .val (.int .i64 0)] 27]) (d := fun x => .agg [.sl 2 (List.map e_arena_Span x4.fL), .val (.int .i64 x4.fN)]) (Want.plain rfl) (by first | rfl | simp only [e14, cond_true, cond_false, List.cons_append, List.nil_append, List.append_nil]) (fun x => by first | rfl | simp only [ins_self, ins_ne D (show 2 ≠ 14 by decide), upd_self, e14, cond_true, cond_false, List.cons_append, List.nil_append, List.append_nil]) (fun x => rfl) (OpR.call0 fn22 (piece_Text_Slice_c hx4) rfl)
    refine OpsS.cons' true ?_ (fun _ _ _ _ _ _ _ => rfl) ?_
    · intro D env3 hA
      have e14 : D 14 = false := hA.no 14 _ rfl rfl
      exact OpS.yes (o0 := [.var (blk p1) [.val (.slice none 0 0), .val (.int .i64 0)] 27]) (o1 := fun x => [.var (blk p1) [.val (.slice none 0 0), .val (.int .i64 0)] 27]) (d := fun x => .agg [.sl 2 (List.map e_arena_Span a0.fL), .val (.int .i64 a0.fN)]) (Want.plain rfl) (by first | rfl | simp only [e14, cond_true, cond_false, List.cons_append, List.nil_append, List.append_nil]) (fun x => by first | rfl | simp only [ins_self, ins_ne D (show 3 ≠ 14 by decide), upd_self, e14, cond_true, cond_false, List.cons_append, List.nil_append, List.append_nil]) (fun x => rfl) (OpR.pure rfl)
    refine OpsS.cons' true ?_ (fun _ _ _ _ _ _ _ => rfl) ?_
    · intro D env3 hA
      have e14 : D 14 = false := hA.no 14 _ rfl rfl
      exact OpS.yes (o0 := [.var (blk p1) [.val (.slice none 0 0), .val (.int .i64 0)] 27]) (o1 := fun x => [.var (blk p1) [.val (.slice none 0 0), .val (.int .i64 0)] 27]) (d := fun x => .val (.int .i64 x2)) (Want.plain rfl) (by first | rfl | simp only [e14, cond_true, cond_false, List.cons_append, List.nil_append, List.append_nil]) (fun x => by first | rfl | simp only [ins_self, ins_ne D (show 4 ≠ 14 by decide), upd_self, e14, cond_true, cond_false, List.cons_append, List.nil_append, List.append_nil]) (fun x => rfl) (OpR.pure rfl)
    refine OpsS.cons' true ?_ (fun _ _ _ _ _ _ _ => rfl) ?_
    · intro D env3 hA
      have e14 : D 14 = false := hA.no 14 _ rfl rfl
      exact OpS.yes (o0 := [.var (blk p1) [.val (.slice none 0 0), .val (.int .i64 0)] 27]) (o1 := fun x => [.var (blk p1) [.val (.slice none 0 0), .val (.int .i64 0)] 27]) (d := fun x => .agg [.sl 2 (List.map e_arena_Span a0.fL), .val (.int .i64 a0.fN)]) (Want.plain rfl) (by first | rfl | simp only [e14, cond_true, cond_false, List.cons_append, List.nil_append, List.append_nil]) (fun x => by first | rfl | simp only [ins_self, ins_ne D (show 5 ≠ 14 by decide), upd_self, e14, cond_true, cond_false, List.cons_append, List.nil_append, List.append_nil]) (fun x => rfl) (OpR.pure rfl)
    refine OpsS.cons' true ?_ (fun _ _ _ _ _ _ _ => rfl) ?_
    · intro D env3 hA
      have e14 : D 14 = false := hA.no 14 _ rfl rfl
      exact OpS.yes (o0 := [.var (blk p1) [.val (.slice none 0 0), .val (.int .i64 0)] 27]) (o1 := fun x => [.var (blk p1) [.val (.slice none 0 0), .val (.int .i64 0)] 27]) (d := fun x => .val (.int .i64 a2)) (Want.plain rfl) (by first | rfl | simp only [e14, cond_true, cond_false, List.cons_append, List.nil_append, List.append_nil]) (fun x => by first | rfl | simp only [ins_self, ins_ne D (show 6 ≠ 14 by decide), upd_self, e14, cond_true, cond_false, List.cons_append, List.nil_append, List.append_nil]) (fun x => rfl) (OpR.pure rfl)
    refine OpsS.cons' true ?_ (fun _ _ _ _ _ _ _ => rfl) ?_
    · intro D env3 hA
      have e14 : D 14 = false := hA.no 14 _ rfl rfl
      exact OpS.yes (o0 := [.var (blk p1) [.val (.slice none 0 0), .val (.int .i64 0)] 27]) (o1 := fun x => [.var (blk p1) [.val (.slice none 0 0), .val (.int .i64 0)] 27]) (d := fun x => .val (.int .i64 x5)) (Want.plain rfl) (by first | rfl | simp only [e14, cond_true, cond_false, List.cons_append, List.nil_append, List.append_nil]) (fun x => by first | rfl | simp only [ins_self, ins_ne D (show 7 ≠ 14 by decide), upd_self, e14, cond_true, cond_false, List.cons_append, List.nil_append, List.append_nil]) (fun x => rfl) (OpR.call0 fn64 (piece_Text_place_c hx5) rfl)
    refine OpsS.cons' true ?_ (fun _ _ _ _ _ _ _ => rfl) ?_
    · intro D env3 hA
      have e14 : D 14 = false := hA.no 14 _ rfl rfl
      exact OpS.yes (o0 := [.var (blk p1) [.val (.slice none 0 0), .val (.int .i64 0)] 27]) (o1 := fun x => [.var (blk p1) [.val (.slice none 0 0), .val (.int .i64 0)] 27]) (d := fun x => .val (.int .i64 (if x5 > x2 then x5 else x2))) (Want.plain rfl) (by first | rfl | simp only [e14, cond_true, cond_false, List.cons_append, List.nil_append, List.append_nil]) (fun x => by first | rfl | simp only [ins_self, ins_ne D (show 8 ≠ 14 by decide), upd_self, e14, cond_true, cond_false, List.cons_append, List.nil_append, List.append_nil]) (fun x => rfl) (OpR.pure rfl)
    refine OpsS.cons' true ?_ (fun _ _ _ _ _ _ _ => rfl) ?_
    · intro D env3 hA
      have e14 : D 14 = false := hA.no 14 _ rfl rfl
      exact OpS.yes (o0 := [.var (blk p1) [.val (.slice none 0 0), .val (.int .i64 0)] 27]) (o1 := fun x => [.var (blk p1) [.val (.slice none 0 0), .val (.int .i64 0)] 27]) (d := fun x => .nod [.val (.int .i64 a0.fN)]) (Want.plain rfl) (by first | rfl | simp only [e14, cond_true, cond_false, List.cons_append, List.nil_append, List.append_nil]) (fun x => by first | rfl | simp only [ins_self, ins_ne D (show 9 ≠ 14 by decide), upd_self, e14, cond_true, cond_false, List.cons_append, List.nil_append, List.append_nil]) (fun x => rfl) (OpR.pure rfl)
    refine OpsS.cons' true ?_ (fun _ _ _ _ _ _ _ => rfl) ?_
    · intro D env3 hA
      have e14 : D 14 = false := hA.no 14 _ rfl rfl
      exact OpS.yes (o0 := [.var (blk p1) [.val (.slice none 0 0), .val (.int .i64 0)] 27]) (o1 := fun x => [.var (blk p1) [.val (.slice none 0 0), .val (.int .i64 0)] 27]) (d := fun x => .val (.int .i64 a0.fN)) (Want.plain rfl) (by first | rfl | simp only [e14, cond_true, cond_false, List.cons_append, List.nil_append, List.append_nil]) (fun x => by first | rfl | simp only [ins_self, ins_ne D (show 10 ≠ 14 by decide), upd_self, e14, cond_true, cond_false, List.cons_append, List.nil_append, List.append_nil]) (fun x => rfl) (OpR.pure rfl)
    refine OpsS.cons' true ?_ (fun _ _ _ _ _ _ _ => rfl) ?_
    · intro D env3 hA
      have e14 : D 14 = false := hA.no 14 _ rfl rfl
      exact OpS.yes (o0 := [.var (blk p1) [.val (.slice none 0 0), .val (.int .i64 0)] 27]) (o1 := fun x => [.var (blk p1) [.val (.slice none 0 0), .val (.int .i64 0)] 27]) (d := fun x => .agg [.sl 2 (List.map e_arena_Span x6.fL), .val (.int .i64 x6.fN)]) (Want.plain rfl) (by first | rfl | simp only [e14, cond_true, cond_false, List.cons_append, List.nil_append, List.append_nil]) (fun x => by first | rfl | simp only [ins_self, ins_ne D (show 11 ≠ 14 by decide), upd_self, e14, cond_true, cond_false, List.cons_append, List.nil_append, List.append_nil]) (fun x => rfl) (OpR.call0 fn22 (piece_Text_Slice_c hx6) rfl)
    refine OpsS.cons' true ?_ (fun _ _ _ _ _ _ _ => rfl) ?_
    · intro D env3 hA
      have e14 : D 14 = false := hA.no 14 _ rfl rfl
      exact OpS.yes (o0 := [.var (blk p1) [.val (.slice none 0 0), .val (.int .i64 0)] 27]) (o1 := fun x => [.var (blk p1) [.val (.slice none 0 0), .val (.int .i64 0)] 27]) (d := fun x => .sl 2 (List.map e_piece_Text [x4, x6])) (Want.plain rfl) (by first | rfl | simp only [e14, cond_true, cond_false, List.cons_append, List.nil_append, List.append_nil]) (fun x => by first | rfl | simp only [ins_self, ins_ne D (show 12 ≠ 14 by decide), upd_self, e14, cond_true, cond_false, List.cons_append, List.nil_append, List.append_nil]) (fun x => rfl) (OpR.lit rfl rfl rfl rfl rfl rfl rfl)
    refine OpsS.cons' true ?_ (fun _ _ _ _ _ _ _ => rfl) ?_
    · intro D env3 hA
      have e14 : D 14 = false := hA.no 14 _ rfl rfl
      exact OpS.yes (o0 := [.var (blk p1) [.val (.slice none 0 0), .val (.int .i64 0)] 27]) (o1 := fun x => [.var (blk p1) [.val (.slice none 0 0), .val (.int .i64 0)] 27]) (d := fun x => .agg [.sl 2 (List.map e_arena_Span x7.fL), .val (.int .i64 x7.fN)]) (Want.plain rfl) (by first | rfl | simp only [e14, cond_true, cond_false, List.cons_append, List.nil_append, List.append_nil]) (fun x => by first | rfl | simp only [ins_self, ins_ne D (show 13 ≠ 14 by decide), upd_self, e14, cond_true, cond_false, List.cons_append, List.nil_append, List.append_nil]) (fun x => rfl) (OpR.call0 fn28 (piece_Concat_c hx7) rfl)
    refine OpsS.cons' true ?_ (fun _ _ _ _ _ _ _ => rfl) ?_
    · intro D env3 hA
      exact OpS.yes (o0 := [.var (blk p1) [.val (.slice none 0 0), .val (.int .i64 0)] 27]) (o1 := fun x => [.var (blk p1) [.sl 2 (List.map e_arena_Span x7.fL), .val (.int .i64 x7.fN)] 27]) (d := fun x => .dead) (Want.plain rfl) (by first | rfl | simp only [hA.me, cond_true, cond_false, List.cons_append, List.nil_append, List.append_nil]) (fun x => by first | rfl | simp only [ins_self, upd_self, hA.me, cond_true, cond_false, List.cons_append, List.nil_append, List.append_nil]) (fun x => rfl) (OpR.store 0 rfl rfl rfl rfl rfl rfl rfl rfl)
    exact trivial
  · intro env3
    show T X _ _ _
    refine T.ret ?_
    obtain rfl := Option.some.inj h0
    exact PostG.retP (ks := []) (Gst.only [6] rfl) undef (ResL.cons (ResV.var 0 rfl rfl rfl rfl) ResL.nil) rfl rfl rfl rfl
end Go.Proofs.Ytbogkjbjgcclnaa.S
