/- A program logic by ownership over the kit's wp. Part 18: slices with three bounds, rows that begin as copies, slices.Grow. -/
import Derived.Test.YtlginjmkmfodmaaDoorSG
set_option linter.unusedVariables false
namespace Go.Sm
open Go.RowKit Go.Lib
section
variable {X : Prg} {sl : List (Nat × Dat)} {ow : List Own} {w : World} {ok : Nat → Prop} {α : Type}
/-- A slice without room is a slice. -/
theorem OpR.unx {op : Op} {sz : Nat} {l : List Dat} {ow' : Value → List Own} (h : OpR X op sl ow (fun _ => .slx sz l) ow') : OpR X op sl ow (fun _ => .sl sz l) ow' :=
  fun G a w ok hb kn o ho K Qm hK => h G a w ok hb kn o ho K Qm fun x v w' ok' h1 h2 h3 => hK x v w' ok' h1 h2.slx_sl h3
/-- 'l[p:q:q]'. -/
theorem OpR.slice3 {xt : TypeId} {x y z : Operand} {lo : Option Operand} {i : TI} {e : TypeId} {ie : TI} {l : List Dat} {ky kz : IntKind} (p q : Nat)
    (hi' : lkT X.tab xt = some i) (hd : i.desc = .slice e) (hie : lkT X.tab e = some ie) (hx : ev sl x = some (.sl ie.size l)) (hlo : Bd sl lo 0 p) (hy : ev sl y = some (.val (.int ky (q : Int)))) (hz : ev sl z = some (.val (.int kz (q : Int)))) (hpq : p ≤ q) (hq : q ≤ l.length)
    {l' : List Dat} (hl' : (l.take q).drop p = l') : OpR X (.slice xt x lo (some y) (some z)) sl ow (fun _ => .slx ie.size l') (fun _ => ow) := .of_run fun a w ok kn dst ty pos after g => by
  subst hl'
  have u1 := run_underlying' (X.tok _ _ hi') w
  have u2 := run_sizeOf' (X.tok _ _ hie) w
  rw [hd] at u1
  have b2 (cap : Nat) (hc : q ≤ cap) (code : BoundsCode) : (Instr.sliceBound (a.eval z) cap code).run X.P w = .ok q w := by
    have := bound_run kn (P := X.P) hz (Int.natCast_nonneg _) (y := cap) (by rw [Int.toNat_natCast]; exact hc) code
    rwa [Int.toNat_natCast] at this
  have b1 (code : BoundsCode) : (Instr.sliceBound (a.eval y) q code).run X.P w = .ok q w := by
    have := bound_run kn (P := X.P) hy (Int.natCast_nonneg _) (y := q) (by rw [Int.toNat_natCast]; exact Nat.le_refl _) code
    rwa [Int.toNat_natCast] at this
  have hb (len cap : Nat) (hc : q ≤ cap) : (Instr.sliceBounds true len cap (lo.map a.eval) (some (a.eval y)) (some (a.eval z))).run X.P w = .ok (p, q, q) w := by
    cases hlo with
    | none => simp [Instr.sliceBounds, b2 cap hc, b1]
    | some h h0 =>
      have e := bound_run kn (P := X.P) h h0 (y := q) hpq .slice3C
      simp [Instr.sliceBounds, b2 cap hc, b1, e]
  rcases (kn x _ hx).sl_inv with ⟨rfl, ex⟩ | ⟨pa, c, ex, hc, es⟩
  · simp at hq
    subst hq
    have : p = 0 := by omega
    subst this
    refine ⟨.slice none 0 0, ?_, by simpa using Enc.slxnil⟩
    simp [execOp, Instr.sliceAt, Instr.slice, u1, u2, ex, hb 0 0 (Nat.le_refl _)]
  · by_cases hcp : q = p
    · subst hcp
      refine ⟨.slice (some pa) 0 0, ?_, ?_⟩
      · simp [execOp, Instr.sliceAt, Instr.slice, u1, u2, ex, hb _ c (by omega)]
      · rw [List.drop_of_length_le (by simp; omega)]
        exact .slx rfl .nil
    · refine ⟨.slice (some (pa.add (p * ie.size))) (q - p) (q - p), ?_, .slx (by simp; omega) ((es.take q).drop p)⟩
      simp [execOp, Instr.sliceAt, Instr.slice, u1, u2, ex, hb _ c (by omega), hcp]
theorem OpR.slice3M {xt : TypeId} {x y z : Operand} {lo : Option Operand} {i : TI} {e : TypeId} {ie : TI} {ky kz : IntKind} (f : α → Dat) {l r : List α} {p q : Int} {sz : Nat} (h : cut l p q = some r)
    (hi' : lkT X.tab xt = some i) (hd : i.desc = .slice e) (hie : lkT X.tab e = some ie) (hx : ev sl x = some (.sl ie.size (l.map f))) (hlo : BdM sl lo 0 p) (hy : ev sl y = some (.val (.int ky q))) (hz' : ev sl z = some (.val (.int kz q))) (hz : Nat.beq ie.size sz = true) :
    OpR X (.slice xt x lo (some y) (some z)) sl ow (fun _ => .slx sz (r.map f)) (fun _ => ow) := by
  obtain rfl := Nat.eq_of_beq_eq_true hz
  obtain ⟨⟨h1, h2, h3⟩, rfl⟩ := cut_some h
  have hq : ((q.toNat : Nat) : Int) = q := by omega
  exact OpR.slice3 p.toNat q.toNat hi' hd hie hx (hlo.bd (m := 0) h1) (by rw [hq]; exact hy) (by rw [hq]; exact hz') (by omega) (by rw [List.length_map]; omega) (by rw [← List.map_take, ← List.map_drop])
/-- 'append(l[p:q:q], xs...)': a row begins as a copy. -/
theorem OpR.appendX {t1 : TypeId} {x y : Operand} {i ie : TI} {e : TypeId} {sz by_ : Nat} {l ds : List Dat} (hi : lkT X.tab t1 = some i) (hd : i.desc = .slice e) (hie : lkT X.tab e = some ie) (hsz : ie.size = sz) (hbt : ie.bytes = by_) (hz : Nat.beq ie.zero.cells.size ie.size = true)
    (hx : ev sl x = some (.slx sz l)) (hy : Src sl ow y sz ds) (h0 : Nat.blt 0 ds.length = true) (h63 : l.length + ds.length ≤ maxLen) (hby : (l.length + ds.length) * by_ ≤ 140737488355328)
    {l' : List Dat} (hl' : l ++ ds = l') {ow' : Value → List Own} (ho : ∀ x, appK ow (.row x l' sz e) some = some (ow' x)) :
    OpR X (.call { callee := .builtin .append, args := #[x, y], argTypes := #[t1, t1] }) sl ow (fun x => .val x) ow' := .of_val fun G a w ok hr kn dst ty pos after g => by
  subst hl' hsz hbt
  have hset : ∀ x, ow' x = ow ++ [.row x (l ++ ds) ie.size e] := fun x => (Option.some.inj (appK_eq _ _ _ _ (ho x))).symm
  have u1 := (X.tok _ _ hi).desc
  obtain ⟨xi, i1, i2, i3, i4⟩ := (X.tok _ _ hie).info
  rw [hd] at u1
  have hm : 0 < ds.length := by simpa [Nat.blt_eq] using h0
  have ey := hy.run hr kn
  rcases ey with ⟨h0', _⟩ | ⟨pa, c, news, ey, n1, n2, n3, n4, n5⟩
  · rw [h0'] at hm; cases hm
  have hzz : ie.zero.cells.size = xi.size := by rw [i2]; exact Nat.eq_of_beq_eq_true hz
  have hsmall : l.length + ds.length ≤ 9223372036854775807 := by simp only [maxLen] at h63; omega
  have fin : ∀ (vs : List Value) (cap : Nat), EncL w ok (l.flatMap Dat.cells) vs → (∀ v ∈ vs, one v = true) → (∀ d ∈ l, d.cells.length = ie.size) → vs.length = l.length * xi.size →
      (execOp a.eval { dst := dst, op := .call { callee := .builtin .append, args := #[x, y], argTypes := #[t1, t1] }, type := ty, pos := pos, after := after, guard := g }).run X.P w = .ok (.value (.slice (some ⟨w.heap.size, 0, none⟩) (l.length + ds.length) (grownCap w (l.length + ds.length) cap e))) (w.drew.alloc (.cells (vs.toArray ++ news.toArray ++ Builtin.zeroCells ie.zero.cells (grownCap w (l.length + ds.length) cap e - (l.length + ds.length))) e)) →
      ∃ x_1 v w' ok', (execOp a.eval { dst := dst, op := .call { callee := .builtin .append, args := #[x, y], argTypes := #[t1, t1] }, type := ty, pos := pos, after := after, guard := g }).run X.P w = .ok (.value v) w' ∧ RepB G (ow' x_1) w' ok' ∧ Enc w' ok' (.val x_1) v ∧ Stay w w' ok ok' := fun vs cap v2 v3 v4 v1 hrun => by
    have hc : Chg w (w.drew.alloc (.cells (vs.toArray ++ news.toArray ++ Builtin.zeroCells ie.zero.cells (grownCap w (l.length + ds.length) cap e - (l.length + ds.length))) e)) (fun _ => False) := (Chg.drew w _).trans (Chg.alloc _ _ _)
    have hst := hr.stay0 hc
    refine ⟨.slice (some ⟨w.heap.size, 0, none⟩) (l.length + ds.length) (grownCap w (l.length + ds.length) cap e), _, _, ok, hrun, ?_, .val rfl, hst⟩
    rw [hset]
    refine hr.newOwn' hc (b := w.heap.size) (.row (vs := vs ++ news) (us := (Builtin.zeroCells ie.zero.cells (grownCap w (l.length + ds.length) cap e - (l.length + ds.length))).toList) (by rw [List.length_append]) (grownCap_ge w _ cap e) (grownCap_le_maxLen w _ cap e h63) ?_ ?_ ?_ (fun v hv => (List.mem_append.1 hv).elim (v3 v) (n4 v)) (fun d hd => (List.mem_append.1 hd).elim (v4 d) (n5 d))) (fun m hm => (Option.some.inj hm).symm) (Nat.le_refl _) (by simp)
    · show (w.drew.alloc _).heap[w.drew.heap.size]? = _
      rw [alloc_new w.drew]; simp
    · have := grownCap_ge w (l.length + ds.length) cap e
      simp only [List.length_append, Array.length_toList, size_zeroCells, hzz, n2, v1, i2, ← Nat.add_mul]
      congr 1; omega
    · rw [List.flatMap_append]; exact (v2.mono hst).append (n1.mono hst)
  rcases (kn x _ hx).slx_inv with ⟨rfl, ex⟩ | ⟨pb, ex, es⟩
  · have hr' := run_append_nil (P := X.P) w t1 ty e xi ie.zero u1 i1 i4 pa ds.length c news (by rw [n2, i2]) n3 hm (by simp only [List.length_nil] at hsmall; omega) (by simp only [List.length_nil, Nat.zero_add] at hby; rw [i3]; omega)
    refine fin [] 0 .nil (fun _ h => by cases h) (fun _ h => by cases h) (by simp) ?_
    simp only [List.length_nil, Nat.zero_add] at hr' ⊢
    simp only [execOp, resolve, invoke, builtin, Sem.run_bind, Sem.run_pure, Result.andThen_ok, List.map_toArray, List.map_cons, List.map_nil, ex, ey, hr']
    simp
  · obtain ⟨vs, v2, v1, v3, v4, v5⟩ := es.vals
    have hr' := run_append_grow (P := X.P) w t1 ty e xi ie.zero u1 i1 i4 pb l.length l.length vs (by rw [v1, i2]) v3 pa ds.length c news (by rw [n2, i2]) n3 (by omega) (by omega) (growslice_fits (by omega) (by rw [i3]; exact hby))
    refine fin vs l.length v2 v4 v5 (by rw [v1, i2]) ?_
    simp only [execOp, resolve, invoke, builtin, Sem.run_bind, Sem.run_pure, Result.andThen_ok, List.map_toArray, List.map_cons, List.map_nil, ex, ey, hr']
theorem OpR.appendXM {t1 : TypeId} {x y : Operand} {i ie : TI} {e : TypeId} {sz by_ : Nat} (f : α → Dat) {l m r : List α} (h : app by_ l m = some r) (hy : Src sl ow y sz (m.map f)) (hi : lkT X.tab t1 = some i) (hd : i.desc = .slice e) (hie : lkT X.tab e = some ie) (hsz : ie.size = sz) (hbt : ie.bytes = by_) (hz : Nat.beq ie.zero.cells.size ie.size = true)
    (hx : ev sl x = some (.slx sz (l.map f))) (h0 : Nat.blt 0 m.length = true) {ow' : Value → List Own} (ho : ∀ x, appK ow (.row x (r.map f) sz e) some = some (ow' x)) :
    OpR X (.call { callee := .builtin .append, args := #[x, y], argTypes := #[t1, t1] }) sl ow (fun x => .val x) ow' := by
  obtain ⟨rfl, h1, h2⟩ := app_some h
  exact OpR.appendX hi hd hie hsz hbt hz hx hy (by rw [List.length_map]; exact h0) (by rw [List.length_map, List.length_map]; exact h1) (by rw [List.length_map, List.length_map]; exact h2) (by rw [List.map_append]) ho
theorem OpR.rmdK {t yt : TypeId} {x y : Operand} {k : IntKind} {p q z : Int} (h : rmd p q = some z) (hx : ev sl x = some (.val (.int k p))) (hy : ev sl y = some (.val (.int k q))) :
    OpR X (.binOp .rem t x y yt) sl ow (fun _ => .val (.int k z)) (fun _ => ow) := .of_run fun a w ok kn dst ty pos after g => by
  have ex := (kn x _ hx).val_inv.1
  have ey := (kn y _ hy).val_inv.1
  unfold rmd at h
  split at h
  · cases h
  · rename_i hne
    obtain rfl := Option.some.inj h
    have hg' := eqGuard_free (P := X.P) .rem t x y (.int k p) (.int k q) w rfl
    exact ⟨.int k (p.tmod q), by simp [execOp, ex, ey, hg', binOp, Op.intDiv, hne], .val rfl⟩
/-! ### slices.Grow of nothing -/
theorem OpR.capNil {t : TypeId} {x : Operand} {i : TI} {e : TypeId} (hi : lkT X.tab t = some i) (hd : i.desc = .slice e) (hx : ev sl x = some (.val (.slice none 0 0))) : OpR X (.call { callee := .builtin .cap, args := #[x], argTypes := #[t] }) sl ow (fun _ => .val (.int .i64 0)) (fun _ => ow) := .of_run fun a w ok kn dst ty pos after g => by
  have ex := (kn x _ hx).val_inv.1
  have u1 := run_underlying' (X.tok _ _ hi) w
  rw [hd] at u1
  refine ⟨.int .i64 0, ?_, .val rfl⟩
  simp [execOp, resolve, invoke, builtin, ex, Builtin.cap_, goInt, u1]
theorem OpR.sliceNil {xt : TypeId} {x y : Operand} {i : TI} {e : TypeId} {ie : TI} {k : IntKind} (hi' : lkT X.tab xt = some i) (hd : i.desc = .slice e) (hie : lkT X.tab e = some ie) (hx : ev sl x = some (.val (.slice none 0 0))) (hy : ev sl y = some (.val (.int k 0))) :
    OpR X (.slice xt x none (some y) none) sl ow (fun _ => .val (.slice none 0 0)) (fun _ => ow) := .of_run fun a w ok kn dst ty pos after g => by
  have u1 := run_underlying' (X.tok _ _ hi') w
  have u2 := run_sizeOf' (X.tok _ _ hie) w
  rw [hd] at u1
  have ex := (kn x _ hx).val_inv.1
  have b1 (code : BoundsCode) := bound_run kn (P := X.P) hy (Int.le_refl _) (y := 0) (by decide) code
  refine ⟨.slice none 0 0, ?_, .val rfl⟩
  simp only [Int.toNat_zero] at b1
  simp [execOp, Instr.sliceAt, Instr.slice, u1, u2, ex, Instr.sliceBounds, b1]
/-- Room for so many things of so many bytes. -/
def mkg (by_ : Nat) (n : Int) : Option Unit := if 0 < n ∧ n * ((by_ : Int) + 1) ≤ 140737488355328 then some () else none
theorem mkg_of {by_ : Nat} {n : Int} (h : 0 < n ∧ n * ((by_ : Int) + 1) ≤ 140737488355328) : mkg by_ n = some () := if_pos h
def cut0 : Value → Value
  | .slice a _ c => .slice a 0 c
  | v => v
theorem run_append_zero {P : Program} (w : World) (t t2 ty e : TypeId) (i : TypeInfo) (z : Value) (ik k : IntKind) (n : Nat) (ht : P.underlying t = some (.slice e)) (ht2 : P.underlying t2 = some (.int ik)) (hi : P.info? e = some i) (hz : i.zero = some z) (hzs : z.cells.size = i.size)
    (h0 : 0 < n) (h63 : n ≤ maxLen) (h48 : n * i.bytes ≤ 140737488355328) :
    (Builtin.append_ #[t, t2] ty #[.slice none 0 0, .int k n]).run P w =
      .ok (.slice (some ⟨w.heap.size, 0, none⟩) n (grownCap w n 0 e)) (w.drew.alloc (.cells (Builtin.zeroCells z.cells n ++ Builtin.zeroCells z.cells (grownCap w n 0 e - n)) e)) := by
  have hn : n ≠ 0 := by omega
  simp only [maxLen] at h63
  have hw : IntKind.i64.wrap (n : Int) = n := w64_id ⟨by omega, by omega⟩
  have h63' : ¬ (9223372036854775807 < (n : Int)) := by omega
  have hneg : ¬ ((n : Int) < 0) := by omega
  have hb1 : ¬ (281474976710656 < (n : Int) * (i.bytes : Int)) := by
    have : ((n * i.bytes : Nat) : Int) ≤ ((140737488355328 : Nat) : Int) := Int.ofNat_le.2 h48
    rw [Int.natCast_mul] at this
    exact fun h => absurd (Int.lt_of_lt_of_le h this) (by decide)
  have h48' : ¬ (281474976710656 < Builtin.nextslicecap n 0 * i.bytes) := by rw [nextslicecap_zero h0]; omega
  have hne : n * i.size = 0 → Builtin.zeroCells z.cells n = #[] := fun h => by
    apply Array.eq_empty_of_size_eq_zero
    rw [size_zeroCells, hzs, h]
  simp [Builtin.append_, run_underlying ht, run_underlying ht2, sizeOf, typeInfo, zeroValue, hi, hz, hn, h63', h48', hw, hneg, hb1, asInt, asIntOf, Question.forced, run_firstCells_none, newRow, grownCap]
  exact fun h => by rw [hne h]; simp
/-- 'append(nil, make([]T, n)...)'; what it has is looked at as 'x[:0]' alone. -/
theorem OpR.appendZ {t1 t2 : TypeId} {x y : Operand} {i i2 ie : TI} {e : TypeId} {sz by_ : Nat} {ik k : IntKind} {n : Int} {u : Unit} (h : mkg by_ n = some u) (hi : lkT X.tab t1 = some i) (hd : i.desc = .slice e) (hi2 : lkT X.tab t2 = some i2) (hd2 : i2.desc = .int ik) (hie : lkT X.tab e = some ie) (hsz : ie.size = sz) (hbt : ie.bytes = by_) (hz : Nat.beq ie.zero.cells.size ie.size = true)
    (hx : ev sl x = some (.val (.slice none 0 0))) (hy : ev sl y = some (.val (.int k n))) {ow' : Value → List Own} (ho : ∀ x, appK ow (.row (cut0 x) [] sz e) some = some (ow' x)) :
    OpR X (.call { callee := .builtin .append, args := #[x, y], argTypes := #[t1, t2] }) sl ow (fun x => .val x) ow' := .of_val fun G a w ok hr kn dst ty pos after g => by
  subst hsz hbt
  have hset : ∀ x, ow' x = ow ++ [.row (cut0 x) [] ie.size e] := fun x => (Option.some.inj (appK_eq _ _ _ _ (ho x))).symm
  have u1 := (X.tok _ _ hi).desc
  have u2 := (X.tok _ _ hi2).desc
  obtain ⟨xi, i1, i2', i3, i4⟩ := (X.tok _ _ hie).info
  rw [hd] at u1
  rw [hd2] at u2
  unfold mkg at h
  split at h
  case isFalse => cases h
  rename_i hb
  obtain ⟨hn, hb1⟩ := hb
  have hb0 : 0 ≤ n := by omega
  have hexp : n * ((ie.bytes : Int) + 1) = n * (ie.bytes : Int) + n := by rw [Int.mul_add, Int.mul_one]
  have hm0 : 0 ≤ n * (ie.bytes : Int) := Int.mul_nonneg hb0 (by omega)
  obtain ⟨m, rfl⟩ : ∃ m : Nat, n = m := ⟨n.toNat, by omega⟩
  have ex := (kn x _ hx).val_inv.1
  have ey := (kn y _ hy).val_inv.1
  have hzz : ie.zero.cells.size = xi.size := by rw [i2']; exact Nat.eq_of_beq_eq_true hz
  have hmax : m ≤ maxLen := by simp only [maxLen]; omega
  have hby : m * xi.bytes ≤ 140737488355328 := by
    rw [i3]
    refine Int.ofNat_le.1 ?_
    rw [Int.natCast_mul]
    show (m : Int) * (ie.bytes : Int) ≤ 140737488355328
    generalize (m : Int) * (ie.bytes : Int) = q at hm0 hexp
    omega
  have hrun := run_append_zero (P := X.P) w t1 t2 ty e xi ie.zero ik k m u1 u2 i1 i4 hzz (by omega) hmax hby
  have hc : Chg w (w.drew.alloc (.cells (Builtin.zeroCells ie.zero.cells m ++ Builtin.zeroCells ie.zero.cells (grownCap w m 0 e - m)) e)) (fun _ => False) := (Chg.drew w _).trans (Chg.alloc _ _ _)
  have hst := hr.stay0 hc
  refine ⟨.slice (some ⟨w.heap.size, 0, none⟩) m (grownCap w m 0 e), _, _, ok, ?_, ?_, .val rfl, hst⟩
  · simp only [execOp, resolve, invoke, builtin, Sem.run_bind, Sem.run_pure, Result.andThen_ok, List.map_toArray, List.map_cons, List.map_nil, ex, ey, hrun]
  · rw [hset]
    refine hr.newOwn' hc (b := w.heap.size) (.row (vs := []) (us := (Builtin.zeroCells ie.zero.cells m ++ Builtin.zeroCells ie.zero.cells (grownCap w m 0 e - m)).toList) rfl (Nat.zero_le _) (grownCap_le_maxLen w m 0 e hmax) ?_ ?_ .nil (fun _ h => by cases h) (fun _ h => by cases h)) (fun m hm => (Option.some.inj hm).symm) (Nat.le_refl _) (by simp)
    · show (w.drew.alloc _).heap[w.drew.heap.size]? = _
      rw [alloc_new w.drew]; simp
    · have := grownCap_ge w m 0 e
      simp only [List.nil_append, Array.length_toList, Array.size_append, size_zeroCells, hzz, i2', ← Nat.add_mul]
      congr 1; omega
theorem OpR.slice0 {xt : TypeId} {x y : Operand} {i : TI} {e0 e : TypeId} {ie : TI} {k : IntKind} {v : Value} {sz : Nat} {l : List Dat} (p : Nat) (hi' : lkT X.tab xt = some i) (hd : i.desc = .slice e0) (hie : lkT X.tab e0 = some ie) (hx : ev sl x = some (.val v)) (hy : ev sl y = some (.val (.int k 0))) (hb : ow[p]? = some (.row (cut0 v) l sz e)) :
    OpR X (.slice xt x none (some y) none) sl ow (fun _ => .val (cut0 v)) (fun _ => ow) := .of_val fun G a w ok hr kn dst ty pos after g => by
  have u1 := run_underlying' (X.tok _ _ hi') w
  have u2 := run_sizeOf' (X.tok _ _ hie) w
  rw [hd] at u1
  have ex := (kn x _ hx).val_inv.1
  have hown := hr.own p _ hb
  obtain ⟨A, n, c, hv⟩ : ∃ A n c, v = .slice A n c := by
    rcases hown.row_inv with ⟨h, _⟩ | ⟨b, c, vs, us, h, _⟩
    · cases v <;> simp [cut0] at h
      exact ⟨_, _, _, rfl⟩
    · cases v <;> simp [cut0] at h
      exact ⟨_, _, _, rfl⟩
  subst hv
  have b1 (code : BoundsCode) (cap : Nat) := bound_run kn (P := X.P) hy (Int.le_refl _) (y := cap) (Nat.zero_le _) code
  simp only [Int.toNat_zero] at b1
  refine ⟨undef, .slice A 0 c, w, ok, ?_, hr, .val rfl, Stay.refl _ _⟩
  simp [execOp, Instr.sliceAt, Instr.slice, u1, u2, ex, Instr.sliceBounds, b1]
  intro _
  cases A with
  | none => rfl
  | some a => rfl
/-- Into a part of an element of an array in a variable. -/
theorem OpR.arrStoreF {α : Type} {e1 : TypeId} {x y : Operand} {i : TI} {b off sz fo : Nat} {cs pre rest : List Dat} {be : TypeId} {d : Dat} (f : α → Dat) {l : List α} {c a' : α} {j : Int} (k : Nat) (h : idx l j = some c) (hx : ev sl x = some (.val (.pointer (some ⟨b, off + j.toNat * sz + fo, none⟩)))) (hy : ev sl y = some d)
    (hda : (f a').cells = (f c).cells.take fo ++ d.cells ++ (f c).cells.drop (fo + d.cells.length)) (hfo : Nat.ble (fo + d.cells.length) sz = true) (hlv : live d = true)
    (hi : lkT X.tab e1 = some i) (hb : ow[k]? = some (.var b cs be)) (hs : ∀ a, (f a).cells.length = sz) (hz : Nat.beq d.cells.length i.size = true) (hp : Nat.beq pre.length off = true) (hcs : cs = pre ++ ((l.map f).flatMap Dat.cells ++ rest)) {ow' : List Own} (ho : setK k (.var b (pre ++ (((setIf a' l j).map f).flatMap Dat.cells ++ rest)) be) ow some = some ow') :
    OpR X (.store e1 x y) sl ow (fun _ => .dead) (fun _ => ow') := by
  obtain ⟨h0, h1⟩ := idx_some h
  have hlt := (List.getElem?_eq_some_iff.1 h1).1
  have hpl := Nat.eq_of_beq_eq_true hp
  have hfo' := Nat.le_of_ble_eq_true hfo
  have hs' : ∀ q ∈ l.map f, q.cells.length = sz := fun q hq => by obtain ⟨w, _, rfl⟩ := List.mem_map.1 hq; exact hs w
  have hfl : ((l.map f).flatMap Dat.cells).length = l.length * sz := by rw [flat_len hs', List.length_map]
  have hle : j.toNat * sz + sz ≤ l.length * sz := by rw [← Nat.succ_mul]; exact Nat.mul_le_mul_right _ hlt
  obtain ⟨r, hr'⟩ := flat_at hs' (show (l.map f)[j.toNat]? = some (f c) by rw [List.getElem?_map, h1]; rfl)
  refine OpR.store k hx hy hlv hi hb hz (spliceK_gen _ _ _ _ (by rw [hcs]; simp only [List.length_append]; omega)) ?_
  rw [setIf_eq _ _ _ h0, flat_set hs a' l j.toNat hlt] at ho
  have hF : (l.map f).flatMap Dat.cells = ((l.map f).flatMap Dat.cells).take (j.toNat * sz) ++ ((f c).cells ++ r) := by
    conv => lhs; rw [← List.take_append_drop (j.toNat * sz) ((l.map f).flatMap Dat.cells), hr']
  have hA : (((l.map f).flatMap Dat.cells).take (j.toNat * sz)).length = j.toNat * sz := by rw [List.length_take, hfl]; omega
  have hB : ((l.map f).flatMap Dat.cells).drop (j.toNat * sz + sz) = r := by
    rw [← List.drop_drop, hr', ← hs c, List.drop_left]
  rw [hB] at ho
  generalize ((l.map f).flatMap Dat.cells).take (j.toNat * sz) = A at ho hF hA
  have e : cs.take (off + j.toNat * sz + fo) ++ d.cells ++ cs.drop (off + j.toNat * sz + fo + d.cells.length) = pre ++ (A ++ (f a').cells ++ r ++ rest) := by
    rw [hcs, hF, hda, ← hpl, ← hA, Nat.add_assoc, Nat.add_assoc, List.take_length_add_append, List.drop_length_add_append, List.append_assoc A, Nat.add_assoc, List.take_length_add_append, List.drop_length_add_append, List.append_assoc (f c).cells, List.take_append_of_le_length (by rw [hs]; omega), List.drop_append_of_le_length (by rw [hs]; omega)]
    simp
  rw [e]; exact ho
end
/-! ### nodes behind pointers -/
/-- What stands behind a pointer that is not nil, and that nobody writes any more. -/
structure NP where
  cs : List Dat
def eNP (x : NP) : Dat := .nod x.cs
def eOP : Option NP → Dat
  | none => .val (.pointer none)
  | some x => .nod x.cs
open Classical in
noncomputable def npOpen {α : Type} (c : α → NP) (x : NP) : Option α := if h : ∃ y, c y = x then some h.choose else none
theorem npOpen_eq {α : Type} {c : α → NP} {x : NP} {y : α} (h : npOpen c x = some y) : x = c y := by
  unfold npOpen at h
  split at h
  · rename_i h1
    obtain rfl := Option.some.inj h
    exact h1.choose_spec.symm
  · cases h
theorem npOpen_of {α : Type} {c : α → NP} (inj : ∀ a b, c a = c b → a = b) (y : α) : npOpen c (c y) = some y := by
  unfold npOpen
  have h1 : ∃ z, c z = c y := ⟨y, rfl⟩
  rw [dif_pos h1, inj _ _ h1.choose_spec]
/-- Nil slices as arguments are slices. -/
theorem CallF.denil {X : Prg} {f : FuncId} {args args' : List Dat} {ow : List Own} {d : Value → Dat} {ow' : Value → List Own} (h : CallF X f args' ow d ow') (hr : ReL RNil args args') : CallF X f args ow d ow' :=
  fun w vs ok hb he => h w vs ok hb (EncL.re RNil.enc (fun _ _ h => h) hr he)
end Go.Sm
