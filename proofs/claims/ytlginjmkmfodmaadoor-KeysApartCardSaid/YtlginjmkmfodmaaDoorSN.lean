/- A program logic by ownership over the kit's wp. Part 23: going through a text letter by letter; builders of texts. -/
import Derived.Test.YtlginjmkmfodmaaDoorSK
import Derived.Lib.OthersKept
import Derived.Laws.RangeString
import Derived.Shelf.Small.Strs
import Derived.Shelf.Strings.BuilderK
import Derived.Shelf.Small.Utf8
set_option linter.unusedVariables false
namespace Go.Sm
open Go Go.Proofs Go.Shelf Go.RowKit Go.Lib
section
variable {X : Prg} {sl : List (Nat × Dat)} {ow : List Own} {w : World} {ok : Nat → Prop} {d : Dat}
/-- The letter that a text has at a place, and where the next one is. -/
def sRune (s : List UInt8) (i : Int) : Int := ((Utf8.decode (bs s) i.toNat).1 : Int)
def sNext (s : List UInt8) (i : Int) : Int := ((i.toNat + (Utf8.decode (bs s) i.toNat).2 : Nat) : Int)
theorem OpR.rangeStr {t : TypeId} {x : Operand} {i : TI} {s : List UInt8} (hx : ev sl x = some (.val (.string (bs s)))) (hi : lkT X.tab t = some i) (hd : i.desc = .string) {ow' : Value → List Own} (ho : ∀ x, appK ow (.sit (blk x) s 0) some = some (ow' x)) :
    OpR X (.range t x) sl ow (fun x => .val (.pointer (some ⟨blk x, 0, none⟩))) ow' := .of_val fun G a w ok hr kn dst ty pos after g => by
  have e := (kn x _ hx).val_inv.1
  have hc := Chg.alloc w (.stringIter (bs s) 0) (fun _ => False)
  have hu : X.P.underlying t = some .string := by rw [(X.tok _ _ hi).desc, hd]
  refine ⟨.pointer (some ⟨w.heap.size, 0, none⟩), .pointer (some ⟨w.heap.size, 0, none⟩), w.alloc (.stringIter (bs s) 0), ok, ?_, ?_, .val rfl, hr.stay0 hc⟩
  · simp only [execOp]
    rw [e]
    have := run_range_string (P := X.P) w t (bs s) hu
    simp [this, World.iter]
  · have := Option.some.inj (appK_eq _ _ _ _ (ho (.pointer (some ⟨w.heap.size, 0, none⟩))))
    rw [← this]
    exact hr.newOwn' hc (b := w.heap.size) (.sit (i := 0) (alloc_new _ _)) (fun m hm => (Option.some.inj hm).symm) (Nat.le_refl _) (by rw [alloc_size]; omega)
theorem OpR.nextT {it : Operand} {b : Nat} {s : List UInt8} {i : Int} (k : Nat) (hx : ev sl it = some (.val (.pointer (some ⟨b, 0, none⟩)))) (hk : ow[k]? = some (.sit b s i)) (hc : i.toNat < s.length) {ow' : List Own} (ho : setK k (.sit b s (sNext s i)) ow some = some ow') :
    OpR X (.next it true) sl ow (fun _ => .tup [.val (.bool true), .val (.int .i64 (i.toNat : Int)), .val (.int .i32 (sRune s i))]) (fun _ => ow') := .of_val fun G a w ok hr kn dst ty pos after g => by
  have e := (kn it _ hx).val_inv.1
  have ho0 := hr.own k _ hk
  cases ho0 with
  | sit hb =>
    have hlt : b < w.heap.size := (Array.getElem?_eq_some_iff.1 hb).1
    have hrun := run_next_any_at (P := X.P) w b (bs s) i.toNat ty hb (by show i.toNat < s.toArray.size; simpa using hc)
    have hch : Chg w (w.iterAt b (bs s) (i.toNat + (Utf8.decode (bs s) i.toNat).2)) (fun m => (Own.sit b s i).block = some m) :=
      ⟨rfl, rfl, rfl, Nat.le_of_eq (iterAt_size _ _ _ _).symm, fun m hm hne => iterAt_other w b m _ _ (fun h => hne (by rw [h]; rfl))⟩
    refine ⟨undef, _, _, ok, ?_, ?_, .tup (.cons (.val rfl) (.cons (.val rfl) (.cons (.val rfl) .nil))), hr.updStay hk hch⟩
    · simp only [execOp]
      rw [e]
      simp [hrun]
      rfl
    · rw [← Option.some.inj (setK_eq _ _ _ _ _ ho)]
      refine hr.upd hk hch (.sit ?_) (fun m hm => .inl hm)
      rw [show (sNext s i).toNat = i.toNat + (Utf8.decode (bs s) i.toNat).2 by unfold sNext; rw [Int.toNat_natCast]]
      exact iterAt_heap w b (bs s) i.toNat _ hb
theorem OpR.nextF {it : Operand} {b : Nat} {s : List UInt8} {i : Int} (k : Nat) (hx : ev sl it = some (.val (.pointer (some ⟨b, 0, none⟩)))) (hk : ow[k]? = some (.sit b s i)) (hc : ¬ i.toNat < s.length) :
    OpR X (.next it true) sl ow (fun _ => .tup [.val (.bool false)]) (fun _ => ow) := .of_val fun G a w ok hr kn dst ty pos after g => by
  have e := (kn it _ hx).val_inv.1
  have ho0 := hr.own k _ hk
  cases ho0 with
  | sit hb =>
    have hrun := run_next_end_at (P := X.P) w b (bs s) i.toNat ty hb (by show ¬ i.toNat < s.toArray.size; simpa using hc)
    refine ⟨undef, _, w, ok, ?_, hr, .tup (.cons (.val rfl) .nil), ⟨fun _ h => h, fun _ _ => rfl⟩⟩
    simp only [execOp]
    rw [e]
    simp [hrun]
/-- A variable that is a builder. -/
theorem Gst.toBld {sl : List (Nat × Dat)} {ow ow' : List Own} {n : Nat} (k : Nat) {b : Nat} {p v : Value} {t : TypeId} (hk : ow[k]? = some (.var b [.val p, .val v] t)) (hp : p = .pointer none ∨ p = .pointer (some ⟨b, 0, none⟩)) (ho : setK k (.bld b v t) ow some = some ow') : Gst ⟨sl, ow, n⟩ ⟨sl, ow', n⟩ := fun G a w ok hr => by
  refine ⟨ok, hr.step ?_ (Stay.refl w ok)⟩
  rw [← Option.some.inj (setK_eq _ _ _ _ _ ho)]
  have ho0 := hr.own k _ hk
  cases ho0 with
  | var hb he h1 =>
    cases he with
    | cons h hr1 => cases hr1 with
      | cons h' hr2 => cases hr2 with
        | nil =>
          obtain rfl := h.val_inv.1
          obtain ⟨rfl, h1'⟩ := h'.val_inv
          exact hr.toRepB.upd hk (Chg.refl w _) (.bld hp hb h1') (fun m hm => .inl hm)
/-- An element of an array. -/
theorem OpR.indexAggM {α : Type} (f : α → Dat) {xt : TypeId} {x ix : Operand} {i : TI} {len : Nat} {e : TypeId} {ie : TI} {sz : Nat} {cs : List Dat} {ki : IntKind} {j : Int} {l : List α} {c : α} (h : idx l j = some c)
    (hi : lkT X.tab xt = some i) (hd : i.desc = .array len e) (hie : lkT X.tab e = some ie) (hsz : ie.size = sz) (hx : ev sl x = some (.agg cs)) (hj : ev sl ix = some (.val (.int ki j))) (hl : Nat.beq l.length len = true) (hs : ∀ a, (f a).cells.length = sz)
    (hcs : cs = (l.map f).flatMap Dat.cells) (hp : partD ie (f c).cells = some d) : OpR X (.index xt x ix) sl ow (fun _ => d) (fun _ => ow) := .of_run fun a w ok kn dst ty pos after g => by
  subst hsz hcs
  obtain ⟨g0, g1⟩ := idx_some h
  have hlt := (List.getElem?_eq_some_iff.1 g1).1
  rw [Nat.eq_of_beq_eq_true hl] at hlt
  obtain ⟨vs, ex, h1, he⟩ := (kn x _ hx).agg_inv
  have ej := (kn ix _ hj).val_inv.1
  have u1 := run_underlying' (X.tok _ _ hi) w
  have u2 := run_sizeOf' (X.tok _ _ hie) w
  have u3 := run_isAgg' (X.tok _ _ hie) w
  rw [hd] at u1
  have hs' : ∀ q ∈ l.map f, q.cells.length = ie.size := fun q hq => by
    obtain ⟨b, _, rfl⟩ := List.mem_map.1 hq
    exact hs b
  obtain ⟨r, hr'⟩ := flat_at hs' (show (l.map f)[j.toNat]? = some (f c) by rw [List.getElem?_map, g1]; rfl)
  have he2 := (he.drop (j.toNat * ie.size)).take (f c).cells.length
  rw [hr', List.take_left] at he2
  have hq := partD_run hp he2 (fun v hv => h1 v (List.mem_of_mem_drop (List.mem_of_mem_take hv)))
  have hb : 0 ≤ j ∧ j < (len : Int) := by omega
  cases ha : ie.isAgg with
  | true =>
    rw [ha] at hq u3
    obtain ⟨n, _, rfl, hle, hen⟩ := hq
    rw [List.take_take, hs, Nat.min_self] at hen
    refine ⟨_, ?_, hen⟩
    simp [execOp, Instr.index, asIntOf, ex, ej, u1, u2, hb, part, u3]
  | false =>
    rw [ha] at hq u3
    obtain ⟨v, r', hvs, hen⟩ := hq
    refine ⟨v, ?_, hen⟩
    have hz : 0 < (f c).cells.length := by rw [← he2.length.symm, hvs]; simp
    have : vs[j.toNat * ie.size]? = some v := by
      have e : ((vs.drop (j.toNat * ie.size)).take (f c).cells.length)[0]? = some v := by rw [hvs]; rfl
      rw [List.getElem?_take, if_pos hz, List.getElem?_drop] at e
      simpa using e
    simp [execOp, Instr.index, asIntOf, ex, ej, u1, u2, hb, part, u3, this]
/-! ### builders -/
theorem OwnOk.bld_inv {b : Nat} {v : Value} {t : TypeId} (h : OwnOk w ok (.bld b v t)) : ∃ p, (p = .pointer none ∨ p = .pointer (some ⟨b, 0, none⟩)) ∧ w.heap[b]? = some (.cells #[p, v] t (0, 0)) ∧ one v = true := by
  cases h with | bld hp hb h1 => exact ⟨_, hp, hb, h1⟩
theorem OpR.loadBld {e : TypeId} {x : Operand} {i : TI} {b : Nat} {v : Value} {t : TypeId} (k : Nat) (hx : ev sl x = some (.val (.pointer (some ⟨b, 1, none⟩)))) (hi : lkT X.tab e = some i) (ha : i.isAgg = false) (hk : ow[k]? = some (.bld b v t)) :
    OpR X (.load e x) sl ow (fun _ => .val v) (fun _ => ow) := .of_val fun G a w ok hr kn dst ty pos after g => by
  have e1 := (kn x _ hx).val_inv.1
  obtain ⟨p, hp, hb, h1⟩ := (hr.own k _ hk).bld_inv
  have u3 := run_isAgg' (X.tok _ _ hi) w
  rw [ha] at u3
  have hc : w.cell? ⟨b, 1, none⟩ = some v := by rw [cell_blk hb]; rfl
  exact ⟨undef, v, w, ok, by simp [execOp, Instr.loadAt, e1, Instr.sureAddr, loadVar, u3, Go.load, Sem.run, hc], hr, .val h1, Stay.refl _ _⟩
theorem OpR.storeBld {e : TypeId} {x y : Operand} {i : TI} {b : Nat} {v u : Value} {t : TypeId} (k : Nat) (hx : ev sl x = some (.val (.pointer (some ⟨b, 1, none⟩)))) (hy : ev sl y = some (.val u)) (hi : lkT X.tab e = some i) (hz : i.size = 1) (hk : ow[k]? = some (.bld b v t))
    {ow' : List Own} (ho : setK k (.bld b u t) ow some = some ow') : OpR X (.store e x y) sl ow (fun _ => .dead) (fun _ => ow') := .of_skip fun G a w ok hr kn dst ty pos after g => by
  obtain rfl := Option.some.inj (setK_eq _ _ _ _ _ ho)
  have e1 := (kn x _ hx).val_inv.1
  obtain ⟨ey, hu⟩ := (kn y _ hy).val_inv
  obtain ⟨p, hp, hb, h1⟩ := (hr.own k _ hk).bld_inv
  obtain ⟨w', cells', g1, g2, g3, g4⟩ := storeCells_run (P := X.P) [u] w #[p, v] 1 0 hb (by simpa using hu) (by simp)
  have u2 := run_sizeOf' (X.tok _ _ hi) w
  have hw' : cells' = #[p, u] := by
    apply Array.toList_inj.1; rw [g4]; rfl
  subst hw'
  have g2' : Chg w w' (fun m => (Own.bld b v t).block = some m) := g2.imp fun m h => h ▸ rfl
  have hc : u.cells = #[u] := by cases u <;> first | rfl | simp [one] at hu
  refine ⟨w', ok, ?_, hr.upd hk g2' (.bld hp g3 hu) (fun m hm => .inl hm), hr.updStay hk g2'⟩
  simp [execOp, Instr.storeAt, e1, ey, Instr.sureAddr, storeVar, u2, hc, hz, g1]
theorem setCell_blk {b off : Nat} {cells : Array Value} {t : TypeId} {fr : Nat × Nat} {u : Value} (hb : w.heap[b]? = some (.cells cells t fr)) : (w.setCell ⟨b, off, none⟩ u).heap[b]? = some (.cells (cells.setIfInBounds off u) t fr) := by
  simp only [World.setCell, Array.getElem?_modify, if_true, hb, Option.map_some]; rfl
/-- A call, told by what it does to the world. -/
theorem OpR.callW {f : FuncId} {xs : Array Operand} {ats : Array TypeId} {d : Dat} {ow' : List Own} (hfn : IsFn X f)
    (h : ∀ (G : Gh) (a : Act) (w : World) (ok : Nat → Prop), RepB G ow w ok → Kn sl a w ok → Calls X.P f (xs.map a.eval) w fun e w' => ∃ v, e = .returned v ∧ RepB G ow' w' ok ∧ Enc w' ok d v ∧ Stay w w' ok ok) :
    OpR X (.call { callee := .value (.func f), args := xs, argTypes := ats }) sl ow (fun _ => d) (fun _ => ow') := fun G a w ok hr kn o ho K Qm hK => by
  obtain ⟨dst, op', ty, pos, after, g⟩ := o
  dsimp only at ho; subst ho
  have hc := h G a w ok hr kn
  obtain ⟨fn, hf, hname, hb⟩ := hfn
  have h1 : fn.name ≠ "runtime.NumGoroutine" := by simpa using hname
  obtain ⟨cb, hcb⟩ := Option.isSome_iff_exists.1 hb
  have hrun : (execOp a.eval { dst := dst, op := .call { callee := .value (.func f), args := xs, argTypes := ats }, type := ty, pos := pos, after := after, guard := g }).run X.P w = .ok (.enter f (xs.map a.eval)) w := by
    have g0 : a.eval (.func f) = .func (.func f) #[] #[] := rfl
    simp [execOp, resolve, g0, Deferred.ofValue, invoke, callFunc, hf, h1, hcb]
  refine wpIn_of_run hrun (fun d h => by cases h) ?_
  rw [Oper.upon_enter]
  refine hc.mono fun e w' ⟨v, g1, g2, g3, g4⟩ => ?_
  subst g1
  exact hK undef v _ ok g2 g3 g4
theorem OpR.bldCheck {ρ : Ren} (L : Lays.n240 X.P ρ) (Y : Builder.X72 X.P ρ) {f : FuncId} {t : TypeId} (hf : ρ.f 240 = f) (ht : ρ.t 72 = t) (hfn : IsFn X f) {x : Operand} {ats : Array TypeId} {b : Nat} {v : Value} (k : Nat)
    (hx : ev sl x = some (.val (.pointer (some ⟨b, 0, none⟩)))) (hk : ow[k]? = some (.bld b v t)) :
    OpR X (.call { callee := .value (.func f), args := #[x], argTypes := ats }) sl ow (fun _ => .tup []) (fun _ => ow) := by
  subst hf ht
  refine OpR.callW hfn fun G a w ok hr kn => ?_
  rw [show (#[x] : Array Operand).map a.eval = #[a.eval x] by simp, (kn x _ hx).val_inv.1]
  obtain ⟨p, hp, hb, h1⟩ := (hr.own k _ hk).bld_inv
  rcases hp with rfl | rfl
  · refine (Any.Builder_copyCheck_fresh L Y b w (by rw [cell_blk hb]; rfl) (by simp [World.shape?, hb]) (by unfold World.frozen?; simp [hb])).mono fun e w' ⟨g1, g2⟩ => ?_
    subst g2
    have hch : Chg w (w.setCell ⟨b, 0, none⟩ (.pointer (some ⟨b, 0, none⟩))) (fun m => (Own.bld b v (ρ.t 72)).block = some m) := Chg.setCell w (p := ⟨b, 0, none⟩) _ rfl
    have hw : ow.set k (.bld b v (ρ.t 72)) = ow := by
      apply List.ext_getElem?
      intro j
      rw [List.getElem?_set]
      split
      · rename_i e; subst e
        rw [if_pos (List.getElem?_eq_some_iff.1 hk).1, hk]
      · rfl
    have := hr.upd hk hch (.bld (.inr rfl) (setCell_blk hb) h1) (fun m hm => .inl hm)
    rw [hw] at this
    exact ⟨_, g1, this, .tup (vs := []) .nil, hr.updStay hk hch⟩
  · refine (Any.Builder_copyCheck_used L Y b w (by rw [cell_blk hb]; rfl)).mono fun e w' ⟨g1, g2⟩ => ?_
    subst g2
    exact ⟨_, g1, hr, .tup (vs := []) .nil, Stay.refl _ _⟩
end
section
variable {P : Program} {ρ : Ren}
theorem chg_freeze (w : World) (g n : Nat) {touched : Nat → Prop} (h : touched g) : Chg w (w.drew.freeze ⟨g, 0, none⟩ n) touched := by
  unfold World.freeze
  split
  · exact Chg.drew w _
  · refine ⟨rfl, rfl, rfl, by simp, fun b _ hb => ?_⟩
    show (w.heap.modify g _)[b]? = _
    rw [Array.getElem?_modify, if_neg (fun e : g = b => hb (by subst e; exact h))]
theorem chg_drew_alloc (w : World) (o : Obj) (touched : Nat → Prop) : Chg w (w.drew.alloc o) touched :=
  ⟨rfl, rfl, rfl, by rw [alloc_size]; exact Nat.le_succ _, fun b hb _ => Lib.alloc_old w.drew o b hb⟩
set_option maxHeartbeats 2000000 in
set_option maxRecDepth 100000 in
theorem String_some (L : Lays.n169 P ρ) (X : Builder.Extra P ρ) (b g cap : Nat) (p : Value) (cur : Array Value) (l : List UInt8) (w : World) (h0 : l ≠ []) (hb : w.heap[b]? = some (.cells #[p, .slice (some ⟨g, 0, none⟩) l.length cap] (ρ.t 72) (0, 0)))
    (hg : w.heap[g]? = some (.cells cur (ρ.t 5) (0, 0))) (hn : l.length ≤ cap) (hm : cap ≤ maxLen) (hs : cur.size = cap) (hc : ∀ (j : Nat) (x : UInt8), l[j]? = some x → cur[j]? = some (Value.int .u8 x.toNat)) :
    Calls P (ρ.f 169) #[.pointer (some ⟨b, 0, none⟩)] w fun e w' => e = .returned (.string ⟨l.toArray⟩) ∧ Chg w w' (fun m => some g = some m) := by
  have hl0 : l.length ≠ 0 := by simpa using h0
  have c1 : w.drew.cell? ⟨b, 1, none⟩ = some (.slice (some ⟨g, 0, none⟩) l.length cap) := by
    have : w.drew.heap[b]? = some (.cells #[p, .slice (some ⟨g, 0, none⟩) l.length cap] (ρ.t 72) (0, 0)) := hb
    rw [Lib.cell_of_heap this]; rfl
  have hSD : (Builtin.unsafeSliceData_ #[(ρ.t 37)] (ρ.t 127) #[.slice (some ⟨g, 0, none⟩) l.length cap]).run P w.drew = .ok (.pointer (some ⟨g, 0, none⟩)) w.drew :=
    Lib.run_unsafeSliceData_row _ _ _ _ _ _ (by omega)
  have hUS : (Builtin.unsafeString_ #[(ρ.t 127), (ρ.t 3)] (ρ.t 9) #[.pointer (some ⟨g, 0, none⟩), .int .i64 l.length]).run P w.drew = .ok (.string ⟨l.toArray⟩) (w.drew.freeze ⟨g, 0, none⟩ l.length) := by
    refine Lib.run_unsafeString_row w.drew (ρ.t 127) (ρ.t 3) (ρ.t 9) (ρ.t 5) L.t127 X.cellsByte g cur.size (by have hg' : w.drew.heap[g]? = some (.cells cur (ρ.t 5) (0, 0)) := hg; simp [World.shape?, hg']) l h0 (by omega) (by unfold maxLen at hm; omega) ?_
    intro j x hx
    have hg' : w.drew.heap[g]? = some (.cells cur (ρ.t 5) (0, 0)) := hg
    have e : ((⟨g, 0, none⟩ : Addr).add j) = ⟨g, j, none⟩ := by rw [addr_add, Nat.zero_add]
    rw [e, cell_blk hg']
    exact hc j x hx
  have mixed := L.mixed
  have t72 := L.t72; have a72 := L.a72; have z72 := L.z72; have v72 := L.v72; have u72 := run_underlying L.t72
  have t70 := L.t70; have a70 := L.a70; have z70 := L.z70; have v70 := L.v70; have u70 := run_underlying L.t70
  have t37 := L.t37; have a37 := L.a37; have z37 := L.z37; have v37 := L.v37; have u37 := run_underlying L.t37
  have t127 := L.t127; have a127 := L.a127; have z127 := L.z127; have v127 := L.v127; have u127 := run_underlying L.t127
  have t3 := L.t3; have a3 := L.a3; have z3 := L.z3; have v3 := L.v3; have u3 := run_underlying L.t3
  have t9 := L.t9; have a9 := L.a9; have z9 := L.z9; have v9 := L.v9; have u9 := run_underlying L.t9
  have t5 := X.t5; have a5 := X.a5; have z5 := X.z5; have v5 := X.v5; have u5 := run_underlying X.t5
  go_enter L.f169, Body.n169_ntmps ρ
  go_wp2
  go_region_o
  all_goals (go_wp2; go_ret; exact ⟨rfl, chg_freeze w g _ rfl⟩)
set_option maxHeartbeats 2000000 in
set_option maxRecDepth 100000 in
theorem String_nil (L : Lays.n169 P ρ) (X : Builder.Extra P ρ) (b : Nat) (p : Value) (w : World) (hb : w.heap[b]? = some (.cells #[p, .slice none 0 0] (ρ.t 72) (0, 0))) :
    Calls P (ρ.f 169) #[.pointer (some ⟨b, 0, none⟩)] w fun e w' => e = .returned (.string ⟨#[]⟩) ∧ Chg w w' (fun _ => False) := by
  have hUS := Any.unsafeString_none L X
  have c1 : w.drew.cell? ⟨b, 1, none⟩ = some (.slice none 0 0) := by
    have : w.drew.heap[b]? = some (.cells #[p, .slice none 0 0] (ρ.t 72) (0, 0)) := hb
    rw [Lib.cell_of_heap this]; rfl
  have hSD : (Builtin.unsafeSliceData_ #[(ρ.t 37)] (ρ.t 127) #[.slice none 0 0]).run P w.drew = .ok (.pointer none) w.drew := rfl
  have mixed := L.mixed
  have t72 := L.t72; have a72 := L.a72; have z72 := L.z72; have v72 := L.v72; have u72 := run_underlying L.t72
  have t70 := L.t70; have a70 := L.a70; have z70 := L.z70; have v70 := L.v70; have u70 := run_underlying L.t70
  have t37 := L.t37; have a37 := L.a37; have z37 := L.z37; have v37 := L.v37; have u37 := run_underlying L.t37
  have t127 := L.t127; have a127 := L.a127; have z127 := L.z127; have v127 := L.v127; have u127 := run_underlying L.t127
  have t3 := L.t3; have a3 := L.a3; have z3 := L.z3; have v3 := L.v3; have u3 := run_underlying L.t3
  have t9 := L.t9; have a9 := L.a9; have z9 := L.z9; have v9 := L.v9; have u9 := run_underlying L.t9
  have t5 := X.t5; have a5 := X.a5; have z5 := X.z5; have v5 := X.v5; have u5 := run_underlying X.t5
  go_enter L.f169, Body.n169_ntmps ρ
  go_wp2
  go_region_o
  all_goals (go_wp2; go_ret; exact ⟨rfl, Chg.drew w _⟩)
set_option maxHeartbeats 2000000 in
set_option maxRecDepth 100000 in
theorem String_noroom (L : Lays.n169 P ρ) (X : Builder.Extra P ρ) (b g : Nat) (p : Value) (cur : Array Value) (w : World) (hb : w.heap[b]? = some (.cells #[p, .slice (some ⟨g, 0, none⟩) 0 0] (ρ.t 72) (0, 0))) (hg : w.heap[g]? = some (.cells cur (ρ.t 5) (0, 0))) :
    Calls P (ρ.f 169) #[.pointer (some ⟨b, 0, none⟩)] w fun e w' => e = .returned (.string ⟨#[]⟩) ∧ Chg w w' (fun _ => False) := by
  have hUS := Any.unsafeString_none L X
  have hlt : b < w.heap.size := (Array.getElem?_eq_some_iff.1 hb).1
  have c1 : w.drew.cell? ⟨b, 1, none⟩ = some (.slice (some ⟨g, 0, none⟩) 0 0) := by
    have : w.drew.heap[b]? = some (.cells #[p, .slice (some ⟨g, 0, none⟩) 0 0] (ρ.t 72) (0, 0)) := hb
    rw [Lib.cell_of_heap this]; rfl
  have hSD : (Builtin.unsafeSliceData_ #[(ρ.t 37)] (ρ.t 127) #[.slice (some ⟨g, 0, none⟩) 0 0]).run P w.drew = .ok (.pointer (some ⟨w.drew.heap.size, 0, none⟩)) (w.drew.alloc (.view ⟨g, 0, none⟩ (ρ.t 5))) :=
    Lib.run_unsafeSliceData_zero w.drew _ _ (ρ.t 5) L.t127 ⟨g, 0, none⟩ 0 ((ρ.t 5), cur.size) (by have hg' : w.drew.heap[g]? = some (.cells cur (ρ.t 5) (0, 0)) := hg; simp [World.shape?, hg'])
  have c2 : (w.drew.alloc (.view ⟨g, 0, none⟩ (ρ.t 5))).cell? ⟨b, 1, none⟩ = some (.slice (some ⟨g, 0, none⟩) 0 0) := by
    have : (w.drew.alloc (.view ⟨g, 0, none⟩ (ρ.t 5))).heap[b]? = _ := (Lib.alloc_old w.drew _ b hlt).trans hb
    rw [Lib.cell_of_heap this]; rfl
  have c3 : (w.alloc (.view ⟨g, 0, none⟩ (ρ.t 5))).drew.cell? ⟨b, 1, none⟩ = some (.slice (some ⟨g, 0, none⟩) 0 0) := c2
  have c0 : w.cell? ⟨b, 1, none⟩ = some (.slice (some ⟨g, 0, none⟩) 0 0) := c1
  have mixed := L.mixed
  have t72 := L.t72; have a72 := L.a72; have z72 := L.z72; have v72 := L.v72; have u72 := run_underlying L.t72
  have t70 := L.t70; have a70 := L.a70; have z70 := L.z70; have v70 := L.v70; have u70 := run_underlying L.t70
  have t37 := L.t37; have a37 := L.a37; have z37 := L.z37; have v37 := L.v37; have u37 := run_underlying L.t37
  have t127 := L.t127; have a127 := L.a127; have z127 := L.z127; have v127 := L.v127; have u127 := run_underlying L.t127
  have t3 := L.t3; have a3 := L.a3; have z3 := L.z3; have v3 := L.v3; have u3 := run_underlying L.t3
  have t9 := L.t9; have a9 := L.a9; have z9 := L.z9; have v9 := L.v9; have u9 := run_underlying L.t9
  have t5 := X.t5; have a5 := X.a5; have z5 := X.z5; have v5 := X.v5; have u5 := run_underlying X.t5
  go_enter L.f169, Body.n169_ntmps ρ
  go_wp2
  go_region_o
  all_goals (go_wp2; go_ret; exact ⟨rfl, chg_drew_alloc w _ _⟩)
set_option maxHeartbeats 2000000 in
set_option maxRecDepth 100000 in
theorem String_room (L : Lays.n169 P ρ) (X : Builder.Extra P ρ) (b g cap : Nat) (p : Value) (w : World) (hc0 : cap ≠ 0) (hb : w.heap[b]? = some (.cells #[p, .slice (some ⟨g, 0, none⟩) 0 cap] (ρ.t 72) (0, 0))) :
    Calls P (ρ.f 169) #[.pointer (some ⟨b, 0, none⟩)] w fun e w' => e = .returned (.string ⟨#[]⟩) ∧ Chg w w' (fun _ => False) := by
  have hUS := Any.unsafeString_none L X
  have c1 : w.drew.cell? ⟨b, 1, none⟩ = some (.slice (some ⟨g, 0, none⟩) 0 cap) := by
    have : w.drew.heap[b]? = some (.cells #[p, .slice (some ⟨g, 0, none⟩) 0 cap] (ρ.t 72) (0, 0)) := hb
    rw [Lib.cell_of_heap this]; rfl
  have hSD : (Builtin.unsafeSliceData_ #[(ρ.t 37)] (ρ.t 127) #[.slice (some ⟨g, 0, none⟩) 0 cap]).run P w.drew = .ok (.pointer (some ⟨g, 0, none⟩)) w.drew :=
    Lib.run_unsafeSliceData_row _ _ _ _ _ _ hc0
  clear hc0
  have mixed := L.mixed
  have t72 := L.t72; have a72 := L.a72; have z72 := L.z72; have v72 := L.v72; have u72 := run_underlying L.t72
  have t70 := L.t70; have a70 := L.a70; have z70 := L.z70; have v70 := L.v70; have u70 := run_underlying L.t70
  have t37 := L.t37; have a37 := L.a37; have z37 := L.z37; have v37 := L.v37; have u37 := run_underlying L.t37
  have t127 := L.t127; have a127 := L.a127; have z127 := L.z127; have v127 := L.v127; have u127 := run_underlying L.t127
  have t3 := L.t3; have a3 := L.a3; have z3 := L.z3; have v3 := L.v3; have u3 := run_underlying L.t3
  have t9 := L.t9; have a9 := L.a9; have z9 := L.z9; have v9 := L.v9; have u9 := run_underlying L.t9
  have t5 := X.t5; have a5 := X.a5; have z5 := X.z5; have v5 := X.v5; have u5 := run_underlying X.t5
  go_enter L.f169, Body.n169_ntmps ρ
  go_wp2
  go_region_o
  all_goals (go_wp2; go_ret; exact ⟨rfl, Chg.drew w _⟩)
end
theorem flat_self : ∀ {l : List Dat}, (∀ d ∈ l, d.cells = [d]) → l.flatMap Dat.cells = l
  | [], _ => rfl
  | d :: l, h => by
    rw [List.flatMap_cons, h d List.mem_cons_self, flat_self (fun e he => h e (List.mem_cons_of_mem _ he))]; rfl
theorem OpR.bldString {X : Prg} {sl : List (Nat × Dat)} {ow : List Own} {ρ : Ren} (L : Lays.n169 X.P ρ) (Y : Builder.Extra X.P ρ) {f : FuncId} {t e : TypeId} (hf : ρ.f 169 = f) (ht : ρ.t 72 = t) (he : ρ.t 5 = e) (hfn : IsFn X f) {x : Operand} {ats : Array TypeId} {b : Nat} {v : Value} {l : List UInt8} (k j : Nat)
    (hx : ev sl x = some (.val (.pointer (some ⟨b, 0, none⟩)))) (hk : ow[k]? = some (.bld b v t)) (hj : ow[j]? = some (.row v (List.map byteD l) 1 e)) {ow' : List Own} (ho : setK j .gone ow some = some ow') :
    OpR X (.call { callee := .value (.func f), args := #[x], argTypes := ats }) sl ow (fun _ => .val (.string (bs l))) (fun _ => ow') := by
  subst hf ht he
  obtain rfl := Option.some.inj (setK_eq _ _ _ _ _ ho)
  refine OpR.callW hfn fun G a w ok hr kn => ?_
  rw [show (#[x] : Array Operand).map a.eval = #[a.eval x] by simp, (kn x _ hx).val_inv.1]
  obtain ⟨p, hp, hb, h1⟩ := (hr.own k _ hk).bld_inv
  have fin : ∀ (e : Ending) (w' : World), e = .returned (.string ⟨l.toArray⟩) ∧ Chg w w' (fun m => (Own.row v (List.map byteD l) 1 (ρ.t 5)).block = some m) → ∃ v, e = .returned v ∧ RepB G (ow.set j .gone) w' ok ∧ Enc w' ok (.val (.string (bs l))) v ∧ Stay w w' ok ok := fun e w' ⟨g1, g2⟩ =>
    ⟨_, g1, hr.upd hj g2 .gone (fun m hm => by cases hm), .val rfl, hr.updStay hj g2⟩
  rcases (hr.own j _ hj).row_inv with ⟨rfl, hl⟩ | ⟨g, c, vs, us, rfl, hc, hm, hg, hz, hen, h1', hs⟩
  · obtain rfl : l = [] := by simpa using hl
    exact (String_nil L Y b p w hb).mono fun e w' ⟨g1, g2⟩ => fin e w' ⟨g1, g2.imp fun m h => h.elim⟩
  · rw [List.length_map] at hb hc fin
    by_cases h0 : l = []
    · subst h0
      by_cases hc0 : c = 0
      · subst hc0
        exact (String_noroom L Y b g p _ w hb hg).mono fun e w' ⟨g1, g2⟩ => fin e w' ⟨g1, g2.imp fun m h => h.elim⟩
      · exact (String_room L Y b g c p w hc0 hb).mono fun e w' ⟨g1, g2⟩ => fin e w' ⟨g1, g2.imp fun m h => h.elim⟩
    · refine (String_some L Y b g c p _ l w h0 hb hg hc hm (by simpa using hz.symm) fun i x hx => ?_).mono fun e w' ⟨g1, g2⟩ => fin e w' ⟨g1, g2⟩
      have hfl : (List.map byteD l).flatMap Dat.cells = List.map byteD l := flat_self fun d hd => by
        obtain ⟨y, _, rfl⟩ := List.mem_map.1 hd; rfl
      rw [hfl] at hen
      obtain ⟨u, hu, hu2⟩ := hen.get i (show (List.map byteD l)[i]? = some (byteD x) by rw [List.getElem?_map, hx]; rfl)
      obtain rfl := hu2.val_inv.1
      have := (List.getElem?_eq_some_iff.1 hu).1
      rw [List.getElem?_toArray, List.getElem?_append_left this]
      exact hu
/-- The first place of a byte in a text. -/
def sIndexByte (l : List UInt8) (c : UInt8) : Int := Go.Lib.indexByte l c
theorem OpR.strIndexByte {X : Prg} {sl : List (Nat × Dat)} {ow : List Own} {ρ : Ren} (L : Lays.n137 X.P ρ) {f : FuncId} (hf : ρ.f 137 = f) (hfn : IsFn X f) {x y : Operand} {ats : Array TypeId} {l : List UInt8} {c : UInt8}
    (hx : ev sl x = some (.val (.string (bs l)))) (hy : ev sl y = some (.val (.int .u8 (c.toNat : Int)))) :
    OpR X (.call { callee := .value (.func f), args := #[x, y], argTypes := ats }) sl ow (fun _ => .val (.int .i64 (sIndexByte l c))) (fun _ => ow) := by
  subst hf
  refine OpR.callQ hfn fun G a w ok hr kn => ⟨.int .i64 (sIndexByte l c), .val rfl, ?_⟩
  rw [show (#[x, y] : Array Operand).map a.eval = #[a.eval x, a.eval y] by simp, (kn x _ hx).val_inv.1, (kn y _ hy).val_inv.1]
  have h := Go.Proofs.Any.strings_IndexByte L (bs l) (c.toNat : Int) w
  have hc : ((c.toNat : Int).toNat).toUInt8 = c := by simp
  rw [hc] at h
  exact h.mono fun e w' ⟨he, hw⟩ => ⟨he, 0, hw⟩
end Go.Sm
namespace Go.Proofs.YtlginjmkmfodmaaDoor.S
open Go Go.Sm Go.Shelf Go.Proofs
def smRen : Ren := ⟨fun | 137 => 29 | 169 => 26 | 217 => 37 | 240 => 34 | 266 => 42 | 276 => 41 | n => n,
  fun | 0 => 0 | 3 => 3 | 4 => 4 | 5 => 5 | 9 => 9 | 20 => 20 | 37 => 36 | 70 => 41 | 72 => 43 | 127 => 60 | 164 => 68 | n => n,
  fun | n => n⟩
theorem smLay : Lays.n137 Tryd.prog smRen where
  mixed := by kernel_rfl
  f137 := Tryd.func29.trans (congrArg some (by kernel_rfl))
  f217 := Tryd.func37.trans (congrArg some (by kernel_rfl))
  f266 := Tryd.func42.trans (congrArg some (by kernel_rfl))
  t3 := Tryd.underlying3
  a3 := Tryd.isAgg3
  z3 := Tryd.sizeOf3
  v3 := Tryd.zeroValue3
  t5 := Tryd.underlying5
  a5 := Tryd.isAgg5
  z5 := Tryd.sizeOf5
  v5 := Tryd.zeroValue5
  t9 := Tryd.underlying9
  a9 := Tryd.isAgg9
  z9 := Tryd.sizeOf9
  v9 := Tryd.zeroValue9
theorem snLay : Lays.n240 Tryd.prog smRen where
  mixed := by kernel_rfl
  f240 := Tryd.func34.trans (congrArg some (by kernel_rfl))
  f276 := Tryd.func41.trans (congrArg some (by kernel_rfl))
  t0 := Tryd.underlying0
  a0 := Tryd.isAgg0
  z0 := Tryd.sizeOf0
  v0 := Tryd.zeroValue0
  t4 := Tryd.underlying4
  a4 := Tryd.isAgg4
  z4 := Tryd.sizeOf4
  v4 := Tryd.zeroValue4
  t9 := Tryd.underlying9
  a9 := Tryd.isAgg9
  z9 := Tryd.sizeOf9
  v9 := Tryd.zeroValue9
  t20 := Tryd.underlying20
  a20 := Tryd.isAgg20
  z20 := Tryd.sizeOf20
  v20 := Tryd.zeroValue20
  t70 := Tryd.underlying41
  a70 := Tryd.isAgg41
  z70 := Tryd.sizeOf41
  v70 := Tryd.zeroValue41
  t72 := Tryd.underlying43
  a72 := Tryd.isAgg43
  z72 := Tryd.sizeOf43
  v72 := Tryd.zeroValue43
  t164 := Tryd.underlying68
  a164 := Tryd.isAgg68
  z164 := Tryd.sizeOf68
  v164 := Tryd.zeroValue68
theorem snLay9 : Lays.n169 Tryd.prog smRen where
  mixed := by kernel_rfl
  f169 := Tryd.func26.trans (congrArg some (by kernel_rfl))
  t0 := Tryd.underlying0
  a0 := Tryd.isAgg0
  z0 := Tryd.sizeOf0
  v0 := Tryd.zeroValue0
  t3 := Tryd.underlying3
  a3 := Tryd.isAgg3
  z3 := Tryd.sizeOf3
  v3 := Tryd.zeroValue3
  t9 := Tryd.underlying9
  a9 := Tryd.isAgg9
  z9 := Tryd.sizeOf9
  v9 := Tryd.zeroValue9
  t37 := Tryd.underlying36
  a37 := Tryd.isAgg36
  z37 := Tryd.sizeOf36
  v37 := Tryd.zeroValue36
  t70 := Tryd.underlying41
  a70 := Tryd.isAgg41
  z70 := Tryd.sizeOf41
  v70 := Tryd.zeroValue41
  t72 := Tryd.underlying43
  a72 := Tryd.isAgg43
  z72 := Tryd.sizeOf43
  v72 := Tryd.zeroValue43
  t127 := Tryd.underlying60
  a127 := Tryd.isAgg60
  z127 := Tryd.sizeOf60
  v127 := Tryd.zeroValue60
theorem snXX : Builder.Extra Tryd.prog smRen where
  sizeBuilder := by kernel_rfl
  liesBuilder := by kernel_rfl
  t5 := Tryd.underlying5
  a5 := Tryd.isAgg5
  z5 := Tryd.sizeOf5
  v5 := Tryd.zeroValue5
  infoByte := by kernel_rfl
  cellsByte := by kernel_rfl
  sizeByte := by kernel_rfl
  neB5 := by decide
theorem snX : Builder.X72 Tryd.prog smRen := snXX.toX72
end Go.Proofs.YtlginjmkmfodmaaDoor.S
