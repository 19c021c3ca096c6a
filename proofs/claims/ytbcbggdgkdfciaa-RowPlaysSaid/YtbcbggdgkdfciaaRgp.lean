/- The law RowPlays. -/
import Derived.Test.YtbcbggdgkdfciaaG0
import Derived.Test.YtbcbggdgkdfciaaG12xa
import Derived.Test.YtbcbggdgkdfciaaG12xb
import Derived.Test.YtbcbggdgkdfciaaG1xa
import Derived.Test.YtbcbggdgkdfciaaG1xb
import Derived.Test.YtbcbggdgkdfciaaRgc
set_option linter.unusedVariables false
namespace Go.Proofs.Ytbcbggdgkdfciaa.S
open Go Go.Sm
theorem or2 (k p q : Int) : (if k = p then some (k == p) else some (k == q) : Option Bool) = some (decide (k = p ∨ k = q)) := by
  by_cases c : k = p
  · rw [if_pos c, decide_eq_true (.inl c)]; simp [c]
  · rw [if_neg c]; congr 1; rw [Bool.eq_iff_iff]; simp [c]
noncomputable def stepTail (a0 : row_Row) (a1 : ref08_Row) (a : List UInt8) (t13 : Int × Int × (List cell_Cell) × Int × Bool × (List ref07_Cell) × Int × Bool) : Option (row_Row × ref08_Row × Bool × (List UInt8)) :=
  bnd (if t13.1 = t13.2.1 then
    bnd (law08_Plain a0 a) fun x39 =>
    bnd (ref08_Same x39 a1) fun x40 =>
    some (!x40)
  else
    some true : Option Bool) fun t36 =>
  if t36 = true then
    some (a0, a1, false, a)
  else
    if t13.1 = 0 then
      some ((⟨t13.2.2.1, t13.2.2.2.1, t13.2.2.2.2.1⟩ : row_Row), (⟨t13.2.2.2.2.2.1, t13.2.2.2.2.2.2.1, t13.2.2.2.2.2.2.2⟩ : ref08_Row), true, a)
    else
      bnd (row_Row_Len (⟨t13.2.2.1, t13.2.2.2.1, t13.2.2.2.2.1⟩ : row_Row)) fun x46 =>
      some (a0, a1, (x46 == 0), a)
theorem tail_eq {a : List UInt8} (ha : a.length ≤ 16384) {R : row_Row} {w : ref08_Row} (hB : Both a R w) {p : row_Row × Int} {q : ref08_Row × Int} (h : Alike a p q) :
    ∃ R' w', stepTail R w a (p.2, q.2, p.1.fCells, p.1.fEnd, p.1.fHidden, q.1.fCells, q.1.fEnd, q.1.fHidden) = some (R', w', true, a) ∧ Both a R' w' := by
  obtain ⟨h1, h2, h3⟩ := h
  have hc : w.fCells.length ≤ 1000000 := by
    have := (cellsOf hB.same).1
    have := congrArg List.length this
    rw [List.length_map] at this
    have := hB.few; omega
  unfold stepTail
  dsimp only
  rw [if_pos h1, plR_eq ha hB.good (by have := hB.few; omega), hB.same, bnd_some', refRow_same _ _ hc, bnd_some', decide_eq_true rfl, bnd_some', if_neg (by simp)]
  by_cases c : p.2 = 0
  · rw [if_pos c]
    exact ⟨p.1, q.1, rfl, h2 c⟩
  · rw [if_neg c, (h3 c).1]
    exact ⟨R, w, rfl, hB⟩
theorem step_eq {a : List UInt8} {R : row_Row} {w : ref08_Row} (hB : Both a R w) (o : law08_Op) (hl : a.length + 40 ≤ 16384) : ∃ R' w' m, law08_step R w o a = some (R', w', true, a ++ m) ∧ Both (a ++ m) R' w' ∧ m.length ≤ 40 := by
  have ht : (o.fS.take 40).length ≤ 40 := by simp; omega
  obtain ⟨c, m, c1, c2, c3, c4⟩ := put_good (o.fS.take 40) a (by omega) (by omega)
  have ha' : (a ++ m).length ≤ 16384 := by rw [List.length_append]; omega
  have hB' := hB.app m ha'
  unfold law08_step
  rw [show ((40 : Int)) = ((40 : Nat) : Int) from rfl, cut8_eq, bnd_some', c1, bnd_some', bnd_some']
  dsimp only
  rw [if_pos rfl, or2, bnd_some', or2, bnd_some', or2, bnd_some', ← c3]
  have fin : ∀ (p : row_Row × Int) (q : ref08_Row × Int), Alike (a ++ m) p q → ∃ R' w' m', stepTail R w (a ++ m) (p.2, q.2, p.1.fCells, p.1.fEnd, p.1.fHidden, q.1.fCells, q.1.fEnd, q.1.fHidden) = some (R', w', true, a ++ m') ∧ Both (a ++ m') R' w' ∧ m'.length ≤ 40 := fun p q h => by
    obtain ⟨R', w', e1, e2⟩ := tail_eq ha' hB' h
    exact ⟨R', w', m, e1, e2, by omega⟩
  by_cases k1 : o.fKind = 0 ∨ o.fKind = 1
  · obtain ⟨p, q, p1, q1, h⟩ := set_alike ha' hB' o.fI c2
    rw [decide_eq_true k1, if_pos rfl, p1, bnd_some', q1, bnd_some', bnd_some']
    exact fin p q h
  · rw [decide_eq_false k1, if_neg (by simp)]
    by_cases k2 : o.fKind = 2 ∨ o.fKind = 3
    · obtain ⟨p, q, p1, q1, h⟩ := insert_alike hB' o.fI c2
      rw [decide_eq_true k2, if_pos rfl, p1, bnd_some', q1, bnd_some', bnd_some']
      exact fin p q h
    · rw [decide_eq_false k2, if_neg (by simp)]
      by_cases k3 : o.fKind = 4 ∨ o.fKind = 5
      · obtain ⟨p, q, p1, q1, h⟩ := delete_alike hB' o.fI
        rw [decide_eq_true k3, if_pos rfl, p1, bnd_some', q1, bnd_some', bnd_some']
        exact fin p q h
      · rw [decide_eq_false k3, if_neg (by simp)]
        by_cases k4 : o.fKind = 6
        · obtain ⟨p, q, p1, q1, h⟩ := move_alike hB' o.fI o.fJ
          rw [if_pos k4, p1, bnd_some', q1, bnd_some', bnd_some']
          exact fin p q h
        · rw [if_neg k4]
          obtain ⟨z1, z2⟩ := zc_good (a ++ m) ha'
          obtain ⟨L, e, hd⟩ := R
          have hg := hB'.good
          have hs := hB'.same
          have hf := hB'.few
          subst hs
          by_cases k5 : o.fKind = 7
          · rw [if_pos k5, pad_eq L e hd _ hf, bnd_some', show plR (a ++ m) ⟨L, e, hd⟩ = ⟨L.map (plC (a ++ m)), e, hd⟩ from rfl, rPad_eq _ e hd _ (by simpa using hf), bnd_some', bnd_some']
            refine fin (⟨padL L o.fI zc, e, hd⟩, 0) (⟨padL (L.map (plC (a ++ m))) o.fI pz, e, hd⟩, 0) (alike_ok (fun y hy => ?_) ?_ (padL_len L _ _ hf).1)
            · rcases padL_mem hy with rfl | hy
              · exact z1
              · exact hg y hy
            · rw [padL_map, z2]
          · rw [if_neg k5]
            by_cases k6 : o.fKind = 8
            · rw [if_pos k6, hide_eq L e hd _ (Nat.le_trans hf (by decide)), bnd_some', bnd_some']
              exact fin (⟨L, e, o.fOn⟩, 0) (⟨L.map (plC (a ++ m)), e, o.fOn⟩, 0) (alike_ok hg rfl hf)
            · rw [if_neg k6, bnd_some']
              exact fin (⟨L, e, hd⟩, 0) (⟨L.map (plC (a ++ m)), e, hd⟩, 0) (alike_ok hg rfl hf)
theorem at_eq (R : row_Row) (i : Int) : row_Row_At R i = some (if h : 0 ≤ i ∧ i < (R.fCells.length : Int) then (R.fCells[i.toNat]'(by omega), true) else (zc, false)) := by
  unfold row_Row_At
  rw [has_eq, bnd_some']
  by_cases c : 0 ≤ i ∧ i < (R.fCells.length : Int)
  · rw [decide_eq_true c, if_pos rfl, idx_int c.1 (List.getElem?_eq_getElem (show i.toNat < R.fCells.length by omega)), bnd_some', dif_pos c]
  · rw [decide_eq_false c, if_neg (by simp), dif_neg c]
    rfl
theorem playsLoop (a1 : List law08_Op) (h1 : a1.length ≤ 9223372036854775807) {R : row_Row} {w : ref08_Row} {a : List UInt8} (hB : Both a R w) (ha : a.length ≤ 600) :
    ∃ t, loop (law08_RowPlays.l1 a1) (true, 0, R.fCells, R.fEnd, R.fHidden, w.fCells, w.fEnd, w.fHidden, a) = some t ∧ ∃ R' w' a', t = Ex.brk (R'.fCells, R'.fEnd, R'.fHidden, w'.fCells, w'.fEnd, w'.fHidden, a') ∧ Both a' R' w' ∧ a'.length ≤ 16384 := by
  refine loop_for (f := law08_RowPlays.l1 a1) (σ := Bool × (List cell_Cell) × Int × Bool × (List ref07_Cell) × Int × Bool × (List UInt8)) (fun k s => (s.1, k, s.2)) a1
    (fun pre s => ∃ R w a, s = (true, R.fCells, R.fEnd, R.fHidden, w.fCells, w.fEnd, w.fHidden, a) ∧ Both a R w ∧ a.length ≤ 600 + 40 * pre.length ∧ pre.length ≤ 40) _ (fun pre o suf s hs hI => ?_) (fun s hI => ?_) (s0 := (true, R.fCells, R.fEnd, R.fHidden, w.fCells, w.fEnd, w.fHidden, a)) ⟨R, w, a, rfl, hB, by simpa using ha, by simp⟩
  · obtain ⟨R, w, a, rfl, hB, ha, hp⟩ := hI
    have hlen : a1.length = pre.length + (suf.length + 1) := by rw [hs]; simp
    have hx : a1[pre.length]? = some o := by rw [hs]; simp
    unfold law08_RowPlays.l1
    dsimp only
    rw [if_pos (by omega), idx_of hx, bnd_some']
    by_cases c : pre.length = 40
    · rw [if_pos (by omega)]
      exact .inr ⟨_, rfl, R, w, a, rfl, hB, by omega⟩
    · rw [if_neg (by omega)]
      obtain ⟨R', w', m, e1, e2, e3⟩ := step_eq hB o (by omega)
      have ha' : (a ++ m).length ≤ 16384 := by rw [List.length_append]; omega
      have hw' := (cellsOf e2.same).1
      have hwl := congrArg List.length hw'
      rw [List.length_map] at hwl
      have hf := e2.few
      rw [show (⟨R.fCells, R.fEnd, R.fHidden⟩ : row_Row) = R from rfl, show (⟨w.fCells, w.fEnd, w.fHidden⟩ : ref08_Row) = w from rfl, e1, bnd_some']
      dsimp only
      rw [if_pos rfl, plR_eq ha' e2.good (by omega), bnd_some', e2.same, refRow_same _ _ (by omega), bnd_some', decide_eq_true rfl, if_pos rfl, rowPrint_good ha' e2.good (by omega), bnd_some', e2.same, refRowPrint_eq w' (by omega) (fun p hp => by
        rw [← hw'] at hp
        obtain ⟨c, hc, rfl⟩ := List.mem_map.1 hp
        have := print_good ha' (e2.good c hc)
        omega), bnd_some', if_pos rfl, show row_Row_Len R' = some (R'.fCells.length : Int) from rfl, bnd_some', hwl, beq_self_eq_true, Bool.not_true, bnd_some', if_neg (by simp), w64_id ⟨by omega, by omega⟩]
      exact .inl ⟨_, rfl, R', w', a ++ m, rfl, e2, by rw [List.length_append, List.length_append, List.length_cons, List.length_nil]; omega, by rw [List.length_append, List.length_cons, List.length_nil]; omega⟩
  · obtain ⟨R, w, a, rfl, hB, ha, hp⟩ := hI
    refine ⟨_, ?_, R, w, a, rfl, hB, by omega⟩
    unfold law08_RowPlays.l1
    dsimp only
    rw [if_neg (by omega)]
theorem RowPlays_holds (a0 : List UInt8) (a1 : List law08_Op) (a2 : Int) (w0 : a0.length ≤ maxLen) (w1 : a1.length ≤ maxLen ∧ ∀ a ∈ a1, (Lit.int .i64 a.fKind).wf = true ∧ (Lit.int .i64 a.fI).wf = true ∧ (Lit.int .i64 a.fJ).wf = true ∧ a.fS.length ≤ maxLen ∧ True) (w2 : (Lit.int .i64 a2).wf = true) : law08_RowPlays a0 a1 a2 = some true := by
  have w1' := w1.1
  simp only [maxLen] at w1'
  unfold law08_RowPlays
  obtain ⟨R, w, ok, a, b1, b2⟩ := begun_eq a0
  rw [b1, bnd_some']
  dsimp only
  cases ok with
  | false => rw [if_neg (by simp), awake8_eq, bnd_some']
  | true =>
    obtain ⟨hB, ha, _⟩ := b2 rfl
    rw [if_pos rfl]
    obtain ⟨t, t1, R', w', a', rfl, hB', ha'⟩ := playsLoop a1 (by omega) hB ha
    rw [t1, bnd_some']
    dsimp only
    have hw' := (cellsOf hB'.same).1
    have hwl := congrArg List.length hw'
    rw [List.length_map] at hwl
    rw [show (⟨R'.fCells, R'.fEnd, R'.fHidden⟩ : row_Row) = R' from rfl, at_eq, bnd_some', ← hwl]
    by_cases c : 0 ≤ a2 ∧ a2 < (R'.fCells.length : Int)
    · have hlt : a2.toNat < R'.fCells.length := by omega
      have hx : w'.fCells[a2.toNat]? = some (plC a' (R'.fCells[a2.toNat]'hlt)) := by
        rw [← hw', List.getElem?_map, List.getElem?_eq_getElem hlt]; rfl
      rw [dif_pos c, if_pos c.1, decide_eq_true c.2, beq_self_eq_true, Bool.not_true, bnd_some', if_neg (by simp), if_pos rfl, plC_eq ha' (hB'.good _ (List.getElem_mem hlt)), bnd_some', idx_int c.1 hx, bnd_some', if_pos rfl, awake8_eq, bnd_some', bnd_some']
    · obtain ⟨z1, z2⟩ := zc_good a' ha'
      rw [dif_neg c]
      have e : (if a2 ≥ 0 then some (!((false : Bool) == decide (a2 < (R'.fCells.length : Int)))) else some (!((false : Bool) == false)) : Option Bool) = some false := by
        by_cases q : a2 ≥ 0
        · rw [if_pos q, decide_eq_false (by omega)]; rfl
        · rw [if_neg q]; rfl
      dsimp only
      rw [e, bnd_some', if_neg (by simp), if_neg (by simp), plC_eq ha' z1, bnd_some', z2, if_pos (show pz = (⟨[], [], false⟩ : ref07_Cell) from rfl), awake8_eq, bnd_some', bnd_some']
end Go.Proofs.Ytbcbggdgkdfciaa.S
