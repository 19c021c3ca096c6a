/- Chapter 8's rows, told plainly: cells of an arena, and the document's rows. -/
import Derived.Test.YtbcbggdgkdfciaaG0
import Derived.Test.YtbcbggdgkdfciaaG12xa
import Derived.Test.YtbcbggdgkdfciaaG1xa
import Derived.Test.YtbcbggdgkdfciaaG1xb
import Derived.Test.YtbcbggdgkdfciaaG8xa
import Derived.Test.YtbcbggdgkdfciaaRgo
set_option linter.unusedVariables false
namespace Go.Proofs.Ytbcbggdgkdfciaa.S
open Go Go.Sm
/-! ### cells that lie in an arena -/
def Gd (a : List UInt8) (c : cell_Cell) : Prop := ∃ r raw k, c = ⟨tOf r, raw, k⟩ ∧ InA r a ∧ r.length ≤ 16384 ∧ rightA raw a = true
noncomputable def plC (a : List UInt8) (c : cell_Cell) : ref07_Cell := (law07_Plain c a).getD ⟨[], [], false⟩
theorem plC_is {a : List UInt8} (ha : a.length ≤ 16384) {r : List Int} {raw : arena_Span} {k : Bool} (h : InA r a) (hl : r.length ≤ 16384) : law07_Plain ⟨tOf r, raw, k⟩ a = some (plC a ⟨tOf r, raw, k⟩) ∧ plC a ⟨tOf r, raw, k⟩ = ⟨bytesAt a r, if k = true then bytesA raw a else [], k⟩ := by
  have := Plain_eq r raw k a h ha (by omega)
  unfold plC
  rw [this]; exact ⟨rfl, rfl⟩
theorem plC_eq {a : List UInt8} (ha : a.length ≤ 16384) {c : cell_Cell} (h : Gd a c) : law07_Plain c a = some (plC a c) := by
  obtain ⟨r, raw, k, rfl, h1, h2, h3⟩ := h
  exact (plC_is ha h1 h2).1
theorem rightA_app {s : arena_Span} {a : List UInt8} (h : rightA s a = true) (m : List UInt8) : rightA s (a ++ m) = true ∧ bytesA s (a ++ m) = bytesA s a := by
  have h' := h
  unfold rightA at h'
  simp only [decide_eq_true_eq] at h'
  obtain ⟨e1, e2⟩ := bytesA_range (s := s) (a := a) (by omega) (by omega) (by omega)
  have hl : ((a ++ m).length : Int) = a.length + m.length := by simp
  obtain ⟨f1, f2⟩ := bytesA_range (s := s) (a := a ++ m) (by omega) (by omega) (by omega)
  refine ⟨f2, ?_⟩
  rw [e1, f1]
  refine bytesAt_app (fun x hx => ?_) m
  simp only [exp1, rangeI, List.mem_map, List.mem_range] at hx
  obtain ⟨q, q1, q2⟩ := hx
  omega
theorem Gd.app {a : List UInt8} {c : cell_Cell} (h : Gd a c) (m : List UInt8) (ha : (a ++ m).length ≤ 16384) : Gd (a ++ m) c ∧ plC (a ++ m) c = plC a c := by
  obtain ⟨r, raw, k, rfl, h1, h2, h3⟩ := h
  obtain ⟨g1, g2⟩ := rightA_app h3 m
  refine ⟨⟨r, raw, k, rfl, inA_app h1 m, h2, g1⟩, ?_⟩
  have ha' : a.length ≤ 16384 := by rw [List.length_append] at ha; omega
  rw [(plC_is ha (inA_app h1 m) h2).2, (plC_is ha' h1 h2).2, bytesAt_app h1 m, g2]
def pz : ref07_Cell := ⟨[], [], false⟩
theorem zc_good (a : List UInt8) (ha : a.length ≤ 16384) : Gd a zc ∧ plC a zc = pz := by
  have h : zc = ⟨tOf [], ⟨0, 0⟩, false⟩ := rfl
  have hi : InA [] a := fun x hx => by simp at hx
  refine ⟨⟨[], ⟨0, 0⟩, false, h, hi, by simp, by unfold rightA; simp only [decide_eq_true_eq]; omega⟩, ?_⟩
  rw [h, (plC_is ha hi (by simp)).2]
  rfl
def prP (p : ref07_Cell) : List UInt8 := if p.fKept = true then p.fRaw else put p.fS
theorem print_good {a : List UInt8} (ha : a.length ≤ 16384) {c : cell_Cell} (h : Gd a c) : cell_Cell_Print c a = some (prP (plC a c)) ∧ (prP (plC a c)).length ≤ 100000 ∧ (plC a c).fS.length ≤ 16384 := by
  obtain ⟨r, raw, k, rfl, h1, h2, h3⟩ := h
  have hb := bytesAt_len a r
  rw [Print_eq r raw k a h1 ha (by omega), (plC_is ha h1 h2).2]
  have hpl := put_len (bytesAt a r)
  cases k with
  | true =>
    refine ⟨by simp [prP], ?_, by dsimp only; omega⟩
    simp only [prP, if_true]
    unfold bytesA
    split <;> simp <;> omega
  | false =>
    refine ⟨by simp [prP], ?_, by dsimp only; omega⟩
    simp only [prP, Bool.false_eq_true, if_false]
    omega
theorem refPrint_eq (p : ref07_Cell) (h : p.fS.length ≤ 1000000) : ref07_Print p = some (prP p) := by
  unfold ref07_Print prP
  by_cases c : p.fKept = true
  · rw [if_pos c, if_pos c]
  · rw [if_neg c, if_neg c, refPut_eq _ h, bnd_some']
theorem equal_eq (a b : List UInt8) : bytes_Equal a b = some (a == b) := rfl
theorem cellSame_eq {w : List UInt8} (hw : w.length ≤ 16384) {c d : cell_Cell} (hc : Gd w c) (hd : Gd w d) : cell_Same c d w = some (decide (plC w c = plC w d)) := by
  obtain ⟨r, raw, k, rfl, h1, h2, h3⟩ := hc
  obtain ⟨r', raw', k', rfl, h1', h2', h3'⟩ := hd
  rw [(plC_is hw h1 h2).2, (plC_is hw h1' h2').2]
  unfold cell_Same
  by_cases hk : k = k'
  · subst hk
    rw [if_pos (by simp), CBytes_eq r raw k w h1 hw (by omega), bnd_some', CBytes_eq r' raw' k w h1' hw (by omega), bnd_some', equal_eq, bnd_some', bnd_some']
    by_cases hb : bytesAt w r = bytesAt w r'
    · rw [if_neg (by simp [hb])]
      cases k with
      | true =>
        dsimp only
        rw [if_pos rfl, Bytes_eq _ _ (by omega), bnd_some', Bytes_eq _ _ (by omega), bnd_some', equal_eq, bnd_some', bnd_some']
        simp only [if_true, hb]
        by_cases hr : bytesA raw w = bytesA raw' w
        · rw [hr]; simp
        · rw [decide_eq_false (fun h => hr (by injection h))]
          simpa using hr
      | false =>
        dsimp only
        rw [if_neg (by simp), bnd_some', hb]
        simp
    · rw [if_pos (by simp [hb])]
      rw [decide_eq_false (fun h => hb (by injection h))]
  · rw [if_neg (by simpa using hk), bnd_some', if_pos rfl]
    rw [decide_eq_false (fun h => hk (by injection h))]
/-! ### rows -/
def GR (a : List UInt8) (R : row_Row) : Prop := ∀ c ∈ R.fCells, Gd a c
noncomputable def plR (a : List UInt8) (R : row_Row) : ref08_Row := ⟨R.fCells.map (plC a), R.fEnd, R.fHidden⟩
theorem plR_eq {a : List UInt8} (ha : a.length ≤ 16384) {R : row_Row} (h : GR a R) (hl : R.fCells.length ≤ 1000) : law08_Plain R a = some (plR a R) := by
  obtain ⟨L, e, hd⟩ := R
  refine rowPlain_of (fun c => law07_Plain c a) a (fun c => rfl) L _ e hd hl (fun k c hk => ⟨plC a c, plC_eq ha (h c (List.mem_of_getElem? hk)), ?_⟩) (by simp)
  show (L.map (plC a))[k]? = _
  rw [List.getElem?_map, hk]; rfl
theorem GR.app {a : List UInt8} {R : row_Row} (h : GR a R) (m : List UInt8) (ha : (a ++ m).length ≤ 16384) : GR (a ++ m) R ∧ plR (a ++ m) R = plR a R := by
  refine ⟨fun c hc => ((h c hc).app m ha).1, ?_⟩
  unfold plR
  rw [List.map_congr_left (fun c hc => ((h c hc).app m ha).2)]
theorem rowSame_eq {a : List UInt8} (ha : a.length ≤ 16384) {R Q : row_Row} (hR : GR a R) (hQ : GR a Q) (hl : R.fCells.length ≤ 1000) : row_Same R Q a = some (decide (plR a R = plR a Q)) := by
  unfold row_Same
  by_cases c1 : R.fEnd = Q.fEnd
  · rw [if_pos c1, bnd_some']
    by_cases c2 : R.fHidden = Q.fHidden
    · rw [if_neg (by simp [c2])]
      have key : slices_EqualFunc_cell_Cell_cell_Cell_cell_Cell_cell_Cell R.fCells Q.fCells a = some (decide (R.fCells.map (plC a) = Q.fCells.map (plC a))) := by
        unfold slices_EqualFunc_cell_Cell_cell_Cell_cell_Cell_cell_Cell
        by_cases c3 : (R.fCells.length : Int) = (Q.fCells.length : Int)
        · rw [if_pos c3]
          obtain ⟨t, t1, t2⟩ := loop_for (f := slices_EqualFunc_cell_Cell_cell_Cell_cell_Cell_cell_Cell.l1 R.fCells Q.fCells a) (σ := Unit) (fun k _ => k) R.fCells (fun pre _ => pre.map (plC a) = (Q.fCells.take pre.length).map (plC a))
            (fun t => match t with | .brk _ => R.fCells.map (plC a) = Q.fCells.map (plC a) | .ret v => v = false ∧ R.fCells.map (plC a) ≠ Q.fCells.map (plC a))
            (fun pre x suf s hs hI => by
              have hlen : R.fCells.length = pre.length + (suf.length + 1) := by rw [hs]; simp
              have hx : R.fCells[pre.length]? = some x := by rw [hs]; simp
              have hlt : pre.length < Q.fCells.length := by omega
              have hy : Q.fCells[pre.length]? = some Q.fCells[pre.length] := List.getElem?_eq_getElem hlt
              have hsame := cellSame_eq ha (hR x (List.mem_of_getElem? hx)) (hQ _ (List.mem_of_getElem? hy))
              unfold slices_EqualFunc_cell_Cell_cell_Cell_cell_Cell_cell_Cell.l1
              rw [if_pos (by omega), idx_of hx, bnd_some', idx_of hy, bnd_some']
              unfold row_Same_1
              rw [hsame, bnd_some', bnd_some']
              by_cases hq : plC a x = plC a Q.fCells[pre.length]
              · rw [decide_eq_true hq, if_pos rfl, w64_id ⟨by omega, by omega⟩]
                refine .inl ⟨(), rfl, ?_⟩
                rw [List.map_append, hI, show (pre ++ [x]).length = pre.length + 1 by simp, List.take_succ_eq_append_getElem hlt, List.map_append]
                simp [hq]
              · rw [decide_eq_false hq, if_neg (by simp)]
                refine .inr ⟨_, rfl, rfl, fun h => hq ?_⟩
                have h1 : (R.fCells.map (plC a))[pre.length]? = (Q.fCells.map (plC a))[pre.length]? := by rw [h]
                rw [List.getElem?_map, List.getElem?_map, hx, hy] at h1
                exact Option.some.inj h1)
            (fun s hI => by
              refine ⟨Ex.brk (), ?_, ?_⟩
              · unfold slices_EqualFunc_cell_Cell_cell_Cell_cell_Cell_cell_Cell.l1
                rw [if_neg (by omega)]
              · dsimp only
                rw [hI, show R.fCells.length = Q.fCells.length by omega, List.take_length]) (s0 := ()) rfl
          rw [t1, bnd_some']
          cases t with
          | brk u => dsimp only at t2 ⊢; rw [decide_eq_true t2]
          | ret v => dsimp only at t2 ⊢; rw [t2.1, decide_eq_false t2.2]
        · rw [if_neg c3, decide_eq_false (fun h => c3 (by have := congrArg List.length h; simp at this; omega))]
      rw [key, bnd_some']
      congr 1
      unfold plR
      by_cases c3 : R.fCells.map (plC a) = Q.fCells.map (plC a)
      · rw [decide_eq_true c3, decide_eq_true (by rw [c1, c2, c3])]
      · rw [decide_eq_false c3, decide_eq_false (fun h => c3 (by injection h))]
    · rw [if_pos (by simpa using c2), decide_eq_false (fun h => c2 (by unfold plR at h; injection h))]
  · rw [if_neg c1, bnd_some', if_pos rfl, decide_eq_false (fun h => c1 (by unfold plR at h; injection h))]
theorem rowPrint_good {a : List UInt8} (ha : a.length ≤ 16384) {R : row_Row} (h : GR a R) (hl : R.fCells.length ≤ 1000) : row_Row_Print R a = some (joinP ((plR a R).fCells.map prP)) := by
  obtain ⟨L, e, hd⟩ := R
  refine rowPrint_of a L _ e hd hl (fun k c hk => ⟨prP (plC a c), (print_good ha (h c (List.mem_of_getElem? hk))).1, ?_⟩) (by simp [plR]) (fun m hm => ?_)
  · show ((L.map (plC a)).map prP)[k]? = _
    rw [List.getElem?_map, List.getElem?_map, hk]; rfl
  · simp only [plR, List.mem_map] at hm
    obtain ⟨p, ⟨c, hc, rfl⟩, rfl⟩ := hm
    have := (print_good ha (h c hc)).2.1
    omega
theorem refRowPrint_eq (w : ref08_Row) (hl : w.fCells.length ≤ 1000) (hc : ∀ p ∈ w.fCells, p.fS.length ≤ 1000000 ∧ (prP p).length ≤ 1000000) : ref08_Print w = some (joinP (w.fCells.map prP)) := by
  have hh := loop_fold (f := ref08_Print.l1 w) (fun k (s : List UInt8) => (s, k)) w.fCells (fun pre => joinP (pre.map prP)) (t := joinP (w.fCells.map prP))
    (fun pre x suf hs => by
      have hlen : w.fCells.length = pre.length + (suf.length + 1) := by rw [hs]; simp
      have hx : w.fCells[pre.length]? = some x := by rw [hs]; simp
      obtain ⟨p1, p2⟩ := hc x (List.mem_of_getElem? hx)
      have hjb := joinP_len (pre.map prP) 1000000 (fun y hy => by
        obtain ⟨p, hp, rfl⟩ := List.mem_map.1 hy
        exact (hc p (by rw [hs]; simp [hp])).2)
      rw [List.length_map] at hjb
      have hjb2 : (joinP (pre.map prP)).length ≤ 2000000000 := by
        have := Nat.mul_le_mul_right (1000000 + 1) (show pre.length ≤ 1000 by omega)
        omega
      unfold ref08_Print.l1
      simp only
      rw [if_pos (by omega), idx_of hx, bnd_some']
      have e3 : (if (pre.length : Int) > 0 then bnd (catS (joinP (pre.map prP)) [44]) fun x18 => some x18 else some (joinP (pre.map prP)) : Option (List UInt8)) = some (if pre = [] then [] else joinP (pre.map prP) ++ [44]) := by
        cases pre with
        | nil => rw [if_neg (by simp), if_pos rfl]; simp [joinP]
        | cons p pre => rw [if_pos (by simp), catS, if_pos (by simp only [List.length_cons, List.length_nil]; omega), bnd_some', if_neg (by simp)]
      have hb3 : ((if pre = [] then [] else joinP (pre.map prP) ++ [44]) : List UInt8).length ≤ 2000000001 := by
        split
        · simp
        · simp only [List.length_append, List.length_cons, List.length_nil]; omega
      rw [e3, bnd_some', refPrint_eq x p1, bnd_some', catS, if_pos (by omega), bnd_some', w64_id ⟨by omega, by omega⟩]
      cases pre with
      | nil => simp [joinP]
      | cons p pre =>
        rw [if_neg (by simp), List.map_append, List.map_singleton, joinP_snoc _ _ (by simp)]
        simp)
    (by
      unfold ref08_Print.l1
      simp only
      rw [if_neg (by omega)])
  unfold ref08_Print
  have h' : loop (ref08_Print.l1 w) ([], 0) = some (joinP (w.fCells.map prP)) := by simpa [joinP] using hh
  rw [h', bnd_some']
end Go.Proofs.Ytbcbggdgkdfciaa.S
