/- The law ColsCells. -/
import Derived.Test.YtpmhiiemklhbhaaG0
import Derived.Test.YtpmhiiemklhbhaaG1xb
import Derived.Test.YtpmhiiemklhbhaaG1xc
import Derived.Test.YtpmhiiemklhbhaaG1xd
import Derived.Test.YtpmhiiemklhbhaaG1xe
import Derived.Test.YtpmhiiemklhbhaaGrl
set_option linter.unusedVariables false
namespace Go.Proofs.Ytpmhiiemklhbhaa.S
open Go Go.Sm
theorem awake12_eq : law12_awake = some true := by decide +kernel
def atR (r : row_Row) (c : Int) : cell_Cell × Bool := if 0 ≤ c then match r.fCells[c.toNat]? with
  | some x => (x, true)
  | none => (zc, false) else (zc, false)
theorem rowAt_eq (r : row_Row) (c : Int) (hr : r.fCells.length ≤ 2000000) : row_Row_At r c = some (atR r c) := by
  unfold row_Row_At row_Row_has atR
  by_cases h : 0 ≤ c
  · rw [if_pos h, if_pos h, bnd_some', bnd_some']
    by_cases h2 : c < (r.fCells.length : Int)
    · have hx : r.fCells[c.toNat]? = some r.fCells[c.toNat] := List.getElem?_eq_getElem (by omega)
      rw [decide_eq_true h2, if_pos rfl, hx]
      have hi : idx r.fCells c = some r.fCells[c.toNat] := by
        have := idx_of hx
        rwa [Int.toNat_of_nonneg h] at this
      rw [hi, bnd_some']
    · rw [decide_eq_false h2, if_neg (by simp), List.getElem?_eq_none (by omega)]; rfl
  · rw [if_neg h, if_neg h, bnd_some', bnd_some', if_neg (by simp)]; rfl
theorem cells_r0 (i : Nat) (x : row_Row) (c : Int) (A : List cell_Cell) (B : List Bool) (hx : x.fCells.length ≤ 2000000) (ha : i < A.length) (hb : i < B.length) : cols_Cells_r0 (i : Int) x c A B = some (A.set i (atR x c).1, B.set i (atR x c).2) := by
  unfold cols_Cells_r0
  rw [rowAt_eq x c hx, bnd_some', idx_of (List.getElem?_eq_getElem ha), bnd_some', idx_of (List.getElem?_eq_getElem hb), bnd_some', Int.toNat_natCast]
theorem goCells (c : Int) : ∀ (l pre : List row_Row), (∀ r ∈ l, r.fCells.length ≤ 2000000) → goR (fun i x (s : List cell_Cell × List Bool) => bnd (cols_Cells_r0 i x c s.1 s.2) fun s' => some (.inl s' : (List cell_Cell × List Bool) ⊕ (List cell_Cell × List Bool))) id l (pre.length : Int) (pre.map (fun r => (atR r c).1) ++ List.replicate l.length zc, pre.map (fun r => (atR r c).2) ++ List.replicate l.length false) = some ((pre ++ l).map (fun r => (atR r c).1), (pre ++ l).map (fun r => (atR r c).2))
  | [], pre, _ => by simp [goR]
  | x :: l, pre, h => by
    unfold goR
    rw [cells_r0 pre.length x c _ _ (h x (by simp)) (by simp) (by simp), bnd_some', bnd_some']
    dsimp only
    have := goCells c l (pre ++ [x]) (fun r hr => h r (by simp [hr]))
    rw [List.length_append, List.length_singleton, show ((pre.length + 1 : Nat) : Int) = (pre.length : Int) + 1 by omega] at this
    rw [List.length_cons, List.replicate_succ, List.replicate_succ, set_at _ _ _ _ _ (by simp), set_at _ _ _ _ _ (by simp)]
    simp only [List.map_append, List.map_cons, List.map_nil, List.append_assoc, List.nil_append, List.cons_append] at this ⊢
    exact this
theorem Cells_eq (t : tree_Tree_damier_row_Row) (tl : Bool) (e : Int) (l : List row_Row) (ht : IsT t l) (hl : l.length ≤ 4000) (hr : ∀ r ∈ l, r.fCells.length ≤ 2000000) (c : Int) : cols_Cells ⟨t, tl, e⟩ c = some (l.map (fun r => (atR r c).1), l.map (fun r => (atR r c).2)) := by
  unfold cols_Cells grid_Grid_Len
  dsimp only
  rw [Len_eq t l ht, bnd_some', bnd_some', mkz_of ⟨by omega, by omega⟩, bnd_some', bnd_some', mkz_of ⟨by omega, by omega⟩, bnd_some', bnd_some', wRange_eq t l ht, bnd_some', Int.toNat_natCast]
  dsimp only
  rw [show stA l.length 0 = 0 by unfold stA; simp, show stB l.length 0 (l.length : Int) = l.length by unfold stB stA; omega]
  unfold walk_Range_row_Row_1_5
  rcases ht with ⟨rfl, rfl⟩ | ⟨h, z, rfl, hz⟩
  · rfl
  · have hpos : 0 < l.length := List.length_pos_iff.2 hz.2.2.2
    have hlow := hz.low (by omega)
    obtain ⟨stk, d1, d2, d3⟩ := down_eq (first := 0) (i := 0) hz.1 hz.2.1 hpos (by omega) (by omega)
    rw [if_neg (by omega)]
    dsimp only
    rw [root_eq hz, bnd_some']
    dsimp only
    have hg := goCells c l [] hr
    have hlp := range_loop (f := walk_Range_row_Row_1_5.l1 c (l.length : Int)) (fun i stk (s : List cell_Cell × List Bool) => (i, s.1, s.2, stk)) (fun i x (s : List cell_Cell × List Bool) => bnd (cols_Cells_r0 i x c s.1 s.2) fun s' => some (.inl s' : (List cell_Cell × List Bool) ⊕ (List cell_Cell × List Bool))) id l.length hz.2.1 (by omega) (show h ≤ 400 by omega) (Nat.le_refl _) (fun i stk s hi => by
      have e : walk_Range_row_Row_1_5.l1 c (l.length : Int) ((i : Int), s.1, s.2, stk) = if (i : Int) < (l.length : Int) then rstep stk (fun x st' => bnd (cols_Cells_r0 (i : Int) x c s.1 s.2) fun x39 => some (Lp.next (w64 ((i : Int) + 1), x39.1, x39.2, st'))) else some (Lp.done (s.1, s.2)) := rfl
      rw [e, if_pos (by omega)]
      congr 1
      funext x st'
      cases cols_Cells_r0 (i : Int) x c s.1 s.2 <;> rfl) (fun stk s => by
      have e : walk_Range_row_Row_1_5.l1 c (l.length : Int) ((l.length : Int), s.1, s.2, stk) = if (l.length : Int) < (l.length : Int) then rstep stk (fun x st' => bnd (cols_Cells_r0 (l.length : Int) x c s.1 s.2) fun x39 => some (Lp.next (w64 ((l.length : Int) + 1), x39.1, x39.2, st'))) else some (Lp.done (s.1, s.2)) := rfl
      rw [e, if_neg (by omega)]; rfl) l.length 0 stk (List.replicate l.length zc, List.replicate l.length false) _ (by omega) d2 (by rw [List.take_length, List.drop_zero]; simpa using hg)
    rw [show (((0 : Nat) + 0 : Nat) : Int) = ((0 : Nat) : Int) from rfl, show ((0 : Nat) : Int) = 0 from rfl] at d1
    rw [show ((0 : Nat) : Int) = 0 from rfl] at hlp ⊢
    rw [d1, bnd_some', show (⟨⟨[], 0⟩, ⟨0, 0⟩, false⟩ : cell_Cell) = zc from rfl, hlp, bnd_some', bnd_some']
theorem plain0 (w : List UInt8) : law07_Plain zc w = some ⟨[], [], false⟩ := by
  have e : piece_Text_Flat (⟨[], 0⟩ : piece_Text) w = some [] := by
    unfold piece_Text_Flat
    rw [loop_done (t := []) (by unfold piece_Text_Flat.l1; rfl), bnd_some']
  unfold law07_Plain cell_Cell_Bytes zc
  dsimp only
  rw [e, bnd_some', bnd_some', if_neg (by simp), bnd_some']
theorem ld_cells (w : List UInt8) (hb : w.length ≤ 4096) (j : Nat) (hj : j ≤ w.length) : ∃ L : List Nat, (∀ x ∈ L, x ≤ w.length) ∧ L.length ≤ 40 ∧ (ldR w j).1.fCells = L.map (kc w) ∧ (ldP w j).1.fCells = L.map (pc w) := by
  obtain ⟨st1, st2⟩ := starts_spec w (by omega) j hj
  unfold ldR ldP
  by_cases h40 : (fs w j).1.length > 40
  · rw [if_pos h40, if_pos h40]; exact ⟨[], by simp, by simp, rfl, rfl⟩
  · rw [if_neg h40, if_neg h40]
    by_cases hs : (fs w j).1.all (short w) = true
    · rw [if_pos hs, if_pos hs]; exact ⟨_, st1, by omega, rfl, rfl⟩
    · rw [if_neg hs, if_neg hs]; exact ⟨[], by simp, by simp, rfl, rfl⟩
theorem at_same (w : List UInt8) (hb : w.length ≤ 4096) (g : ref11_Grid) (hg : g.fRows = prowsW w) (k j : Nat) (hk : (rs w)[k]? = some j) (c : Int) : ∃ p, law07_Plain (atR (ldR w j).1 c).1 w = some p ∧ ref11_At g (k : Int) c = some (p, (atR (ldR w j).1 c).2) := by
  have hj := rs_le w (by omega) j (List.mem_of_getElem? hk)
  have hkl : k < (rs w).length := (List.getElem?_eq_some_iff.1 hk).1
  obtain ⟨L, L1, L2, L3, L4⟩ := ld_cells w hb j hj
  have hx : idx g.fRows (k : Int) = some (ldP w j).1 := by rw [hg]; unfold prowsW; rw [idx_map, idx_of hk]; rfl
  unfold ref11_At ref11_Has atR
  rw [if_pos (show (k : Int) ≥ 0 by omega), hg, show (prowsW w).length = (rs w).length by simp [prowsW], bnd_some', bnd_some', decide_eq_true (by omega), if_pos rfl, ← hg, hx, L3]
  by_cases c0 : c < 0
  · rw [if_pos c0, if_neg (by omega), bnd_some', if_pos rfl]
    exact ⟨_, plain0 w, rfl⟩
  · rw [if_neg c0, if_pos (by omega), bnd_some', bnd_some', L4, List.getElem?_map]
    cases hq : L[c.toNat]? with
    | none =>
      have := List.getElem?_eq_none_iff.1 hq
      rw [decide_eq_true (by rw [List.length_map]; omega), if_pos rfl]
      exact ⟨_, plain0 w, rfl⟩
    | some x =>
      have hlt := (List.getElem?_eq_some_iff.1 hq).1
      rw [decide_eq_false (by rw [List.length_map]; omega), if_neg (by simp), bnd_some', L4, idx_map, show idx L c = some x by have := idx_of hq; rwa [Int.toNat_of_nonneg (by omega)] at this]
      exact ⟨_, kc_plain w (by omega) x (L1 x (List.mem_of_getElem? hq)), rfl⟩
theorem ColsCells_holds (a0 : List UInt8) (a1 : Int) (w0 : a0.length ≤ maxLen) (w1 : (Lit.int .i64 a1).wf = true) : law12_ColsCells a0 a1 = some true := by
  unfold law12_ColsCells
  rw [show ((1500 : Int)) = ((1500 : Nat) : Int) from rfl, cut11_eq, bnd_some']
  generalize hw : a0.take 1500 = w
  have hb : w.length ≤ 4096 := by rw [← hw]; simp; omega
  cases hbad : isBad w with
  | true => rw [begun_bad w hb hbad, bnd_some']; dsimp only; rw [if_neg (by simp), awake12_eq, bnd_some']
  | false =>
    obtain ⟨t, t1, e1⟩ := begun_ok w hb hbad
    have hlen := isBad_len hbad
    rw [e1, bnd_some']
    dsimp only
    have hr : ∀ r ∈ rowsW w, r.fCells.length ≤ 2000000 := fun r hr => by
      obtain ⟨j, hj, rfl⟩ := List.mem_map.1 hr
      obtain ⟨L, L1, L2, L3, L4⟩ := ld_cells w hb j (rs_le w (by omega) j hj)
      rw [L3, List.length_map]; omega
    rw [if_pos rfl, Cells_eq t _ _ _ t1 (by rw [rowsW_len]; omega) hr a1, bnd_some']
    dsimp only
    rw [List.length_map, List.length_map, show (prowsW w).length = (rowsW w).length by simp [prowsW, rowsW], if_pos rfl, bnd_some', if_neg (by simp)]
    have key := loop_fold (f := law12_ColsCells.l1 a1 (⟨t, tailE w (rs w), firstE w (rs w)⟩, ⟨prowsW w, tailE w (rs w), firstE w (rs w)⟩, true, w) ((rowsW w).map (fun r => (atR r a1).1), (rowsW w).map (fun r => (atR r a1).2))) (fun k (s : Unit) => k) (rs w) (fun _ => ()) (t := Ex.brk ())
      (fun pre j suf hs => by
        have hk : (rs w)[pre.length]? = some j := by rw [hs]; simp
        have hlt : pre.length < (rs w).length := (List.getElem?_eq_some_iff.1 hk).1
        obtain ⟨p, p1, p2⟩ := at_same w hb ⟨prowsW w, tailE w (rs w), firstE w (rs w)⟩ rfl pre.length j hk a1
        unfold law12_ColsCells.l1
        dsimp only
        have i1 : idx ((rowsW w).map (fun r => (atR r a1).1)) (pre.length : Int) = some (atR (ldR w j).1 a1).1 := by unfold rowsW; rw [idx_map, idx_map, idx_of hk]; rfl
        have i2 : idx ((rowsW w).map (fun r => (atR r a1).2)) (pre.length : Int) = some (atR (ldR w j).1 a1).2 := by unfold rowsW; rw [idx_map, idx_map, idx_of hk]; rfl
        rw [if_pos (by rw [List.length_map, rowsW_len]; omega), p2, bnd_some', i2, bnd_some']
        dsimp only
        rw [if_pos (by simp), i1, bnd_some', p1, bnd_some', bnd_some']
        rw [if_neg (by simp), w64_id ⟨by omega, by omega⟩]) (by
        unfold law12_ColsCells.l1
        dsimp only
        rw [if_neg (by rw [List.length_map, rowsW_len]; omega)])
    rw [key, bnd_some']
    dsimp only
    rw [awake12_eq, bnd_some']
end Go.Proofs.Ytpmhiiemklhbhaa.S
