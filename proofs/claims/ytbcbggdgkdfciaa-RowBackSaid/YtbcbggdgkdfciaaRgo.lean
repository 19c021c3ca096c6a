/- Chapter 8's rows, told plainly: what is done to them. -/
import Derived.Test.YtbcbggdgkdfciaaG0
import Derived.Test.YtbcbggdgkdfciaaG11xa
import Derived.Test.YtbcbggdgkdfciaaG1xa
import Derived.Test.YtbcbggdgkdfciaaG6xa
import Derived.Test.YtbcbggdgkdfciaaRwa
set_option linter.unusedVariables false
namespace Go.Proofs.Ytbcbggdgkdfciaa.S
open Go Go.Sm
/-! ### rows of anything -/
def insL {α : Type} (l : List α) (i : Nat) (x : α) : List α := l.take i ++ x :: l.drop i
def delL {α : Type} (l : List α) (i : Nat) : List α := l.take i ++ l.drop (i + 1)
def padL {α : Type} (l : List α) (n : Int) (z : α) : List α := l ++ List.replicate ((if 40 < n then 40 else n).toNat - l.length) z
def setL {α : Type} (l : List α) (i : Nat) (x : α) : List α := l.set i x
def movL {α : Type} (l : List α) (i j : Nat) (x : α) : List α := insL (delL l i) j x
theorem insL_map {α β : Type} (f : α → β) (l : List α) (i : Nat) (x : α) : (insL l i x).map f = insL (l.map f) i (f x) := by simp [insL]
theorem delL_map {α β : Type} (f : α → β) (l : List α) (i : Nat) : (delL l i).map f = delL (l.map f) i := by simp [delL]
theorem padL_map {α β : Type} (f : α → β) (l : List α) (n : Int) (z : α) : (padL l n z).map f = padL (l.map f) n (f z) := by simp [padL]
theorem movL_map {α β : Type} (f : α → β) (l : List α) (i j : Nat) (x : α) : (movL l i j x).map f = movL (l.map f) i j (f x) := by rw [movL, insL_map, delL_map]; rfl
theorem insL_mem {α : Type} {l : List α} {i : Nat} {x y : α} (h : y ∈ insL l i x) : y = x ∨ y ∈ l := by
  unfold insL at h
  rcases List.mem_append.1 h with h | h
  · exact .inr (List.mem_of_mem_take h)
  · rcases List.mem_cons.1 h with h | h
    · exact .inl h
    · exact .inr (List.mem_of_mem_drop h)
theorem delL_mem {α : Type} {l : List α} {i : Nat} {y : α} (h : y ∈ delL l i) : y ∈ l := by
  unfold delL at h
  rcases List.mem_append.1 h with h | h
  · exact List.mem_of_mem_take h
  · exact List.mem_of_mem_drop h
theorem padL_mem {α : Type} {l : List α} {n : Int} {z y : α} (h : y ∈ padL l n z) : y = z ∨ y ∈ l := by
  unfold padL at h
  rcases List.mem_append.1 h with h | h
  · exact .inr h
  · exact .inl (List.mem_replicate.1 h).2
theorem setL_mem {α : Type} {l : List α} {i : Nat} {x y : α} (h : y ∈ l.set i x) : y = x ∨ y ∈ l := by
  rcases List.mem_or_eq_of_mem_set h with h | h
  · exact .inr h
  · exact .inl h
theorem insL_len {α : Type} (l : List α) {i : Nat} (x : α) (h : i ≤ l.length) : (insL l i x).length = l.length + 1 := by simp [insL]; omega
theorem delL_len {α : Type} (l : List α) {i : Nat} (h : i < l.length) : (delL l i).length = l.length - 1 := by simp [delL]; omega
theorem padL_len {α : Type} (l : List α) (n : Int) (z : α) (h : l.length ≤ 40) : (padL l n z).length ≤ 40 ∧ l.length ≤ (padL l n z).length ∧ (n ≤ 40 → n ≤ (padL l n z).length) := by
  unfold padL
  rw [List.length_append, List.length_replicate]
  split <;> omega
theorem ins_at {α : Type} {l : List α} {i : Nat} {x : α} (h : l[i]? = some x) : l = insL (delL l i) i x := by
  have hlt := (List.getElem?_eq_some_iff.1 h).1
  have e : l.drop i = x :: l.drop (i + 1) := by
    rw [List.getElem?_eq_getElem hlt] at h
    rw [List.drop_eq_getElem_cons hlt, Option.some.inj h]
  unfold insL delL
  rw [List.take_append_of_le_length (by rw [List.length_take]; omega), List.take_take, Nat.min_self, List.drop_append_of_le_length (by rw [List.length_take]; omega), List.drop_of_length_le (by rw [List.length_take]; omega), List.nil_append, ← e, List.take_append_drop]
theorem del_ins {α : Type} (l : List α) {i : Nat} (x : α) (h : i ≤ l.length) : delL (insL l i x) i = l := by
  unfold delL insL
  rw [List.take_append_of_le_length (by rw [List.length_take]; omega), List.take_take, Nat.min_self]
  have : (l.take i ++ x :: l.drop i).drop (i + 1) = l.drop i := by
    have hl : (l.take i).length = i := by rw [List.length_take]; omega
    rw [show i + 1 = (l.take i).length + 1 by rw [hl], List.drop_length_add_append]
    rfl
  rw [this, List.take_append_drop]
theorem ins_get {α : Type} (l : List α) {i : Nat} (x : α) (h : i ≤ l.length) : (insL l i x)[i]? = some x := by
  unfold insL
  rw [List.getElem?_append_right (by rw [List.length_take]; omega), List.length_take, Nat.min_eq_left h, Nat.sub_self]
  rfl
/-! ### the functions -/
theorem clone_eq (l : List cell_Cell) (h : l.length ≤ 1000000) : slices_Clone_cell_Cell_cell_Cell l = some l := by
  unfold slices_Clone_cell_Cell_cell_Cell
  rw [app_of (by simp; omega), bnd_some', List.nil_append]
theorem pad_eq (L : List cell_Cell) (e : Int) (h : Bool) (n : Int) (hL : L.length ≤ 40) : row_Row_Pad ⟨L, e, h⟩ n = some (e, h, padL L n zc) := by
  unfold row_Row_Pad
  rw [clone_eq _ (by show L.length ≤ _; omega), bnd_some']
  have key : ∀ k (l : List cell_Cell), (if 40 < n then 40 else n).toNat - l.length = k → l.length ≤ 40 → loop (row_Row_Pad.l1 n) l = some (l ++ List.replicate k zc) := by
    intro k
    induction k with
    | zero =>
      intro l hk hl
      rw [List.replicate_zero, List.append_nil]
      refine loop_done ?_
      unfold row_Row_Pad.l1
      rw [if_neg (by split at hk <;> omega)]
    | succ k ih =>
      intro l hk hl
      refine loop_next (s' := l ++ [zc]) ?_ ?_
      · unfold row_Row_Pad.l1
        rw [if_pos (by split at hk <;> split <;> omega), app_of (by simp; omega), bnd_some']
        rfl
      · rw [ih (l ++ [zc]) (by rw [List.length_append]; simp only [List.length_cons, List.length_nil]; omega) (by rw [List.length_append]; simp only [List.length_cons, List.length_nil]; split at hk <;> omega), List.replicate_succ]
        simp
  rw [key _ L rfl hL, bnd_some']
  rfl
theorem set_eq (L : List cell_Cell) (e : Int) (h : Bool) (i : Int) (c : cell_Cell) (hL : L.length ≤ 40) : row_Row_Set ⟨L, e, h⟩ i c = some (if i < 0 ∨ 40 ≤ i then (⟨[], 0, false⟩, 5) else (⟨(padL L (i + 1) zc).set i.toNat c, e, h⟩, 0)) := by
  unfold row_Row_Set
  by_cases c1 : i < 0
  · rw [if_pos c1, bnd_some', if_pos rfl, if_pos (.inl c1)]
  · rw [if_neg c1, bnd_some']
    by_cases c2 : 40 ≤ i
    · rw [if_pos (by simpa using c2), if_pos (.inr c2)]
    · rw [if_neg (by simpa using c2), if_neg (by omega), w64_id ⟨by omega, by omega⟩, pad_eq L e h _ hL, bnd_some']
      obtain ⟨_, _, p3⟩ := padL_len L (i + 1) zc hL
      dsimp only
      rw [idx_int (by omega) (List.getElem?_eq_getElem (show i.toNat < (padL L (i + 1) zc).length by have := p3 (by omega); omega)), bnd_some']
theorem insert_eq (L : List cell_Cell) (e : Int) (h : Bool) (i : Int) (c : cell_Cell) (hL : L.length ≤ 40) : row_Row_Insert ⟨L, e, h⟩ i c = some (if i < 0 ∨ (L.length : Int) < i then (⟨[], 0, false⟩, 5) else if 40 ≤ L.length then (⟨[], 0, false⟩, 6) else (⟨insL L i.toNat c, e, h⟩, 0)) := by
  unfold row_Row_Insert
  by_cases c1 : i < 0
  · rw [if_pos c1, bnd_some', if_pos rfl, if_pos (.inl c1)]
  · rw [if_neg c1, bnd_some']
    by_cases c2 : (L.length : Int) < i
    · rw [if_pos (by simpa using c2), if_pos (.inr c2)]
    · rw [if_neg (by simpa using c2), if_neg (show ¬ (i < 0 ∨ (L.length : Int) < i) by omega)]
      by_cases c3 : 40 ≤ L.length
      · rw [if_pos (by dsimp only; omega), if_pos c3]
      · rw [if_neg (by dsimp only; omega), if_neg c3]
        unfold row_Row_ahead row_Row_behind row_Row_with
        dsimp only
        rw [cut_of ⟨by omega, by omega, by omega⟩, bnd_some', bnd_some', app_of (by simp; omega), bnd_some', cut_of ⟨by omega, by omega, by omega⟩, bnd_some', bnd_some', app_of (by simp; omega), bnd_some', bnd_some', Int.toNat_natCast, List.take_length]
        simp [insL]
theorem concat_eq (A B : List cell_Cell) (ha : A.length ≤ 1000000) (hb : B.length ≤ 1000000) : slices_Concat_cell_Cell_cell_Cell [A, B] = some (A ++ B) := by
  unfold slices_Concat_cell_Cell_cell_Cell
  have l1 : loop (slices_Concat_cell_Cell_cell_Cell.l1 [A, B]) (0, 0) = some ((A.length : Int) + (B.length : Int)) := by
    refine loop_next (s' := ((A.length : Int), 1)) ?_ (loop_next (s' := ((A.length : Int) + (B.length : Int), 2)) ?_ (loop_done ?_))
    · unfold slices_Concat_cell_Cell_cell_Cell.l1
      dsimp only
      rw [if_pos (by simp), show idx [A, B] 0 = some A from rfl, bnd_some', w64_id ⟨by omega, by omega⟩, if_neg (by omega), Int.zero_add]
      rfl
    · unfold slices_Concat_cell_Cell_cell_Cell.l1
      dsimp only
      rw [if_pos (by simp), show idx [A, B] 1 = some B from rfl, bnd_some', w64_id ⟨by omega, by omega⟩, if_neg (by omega)]
      rfl
    · unfold slices_Concat_cell_Cell_cell_Cell.l1
      dsimp only
      rw [if_neg (by simp)]
  have hg : slices_Grow_cell_Cell_cell_Cell ((A.length : Int) + (B.length : Int)) = some [] := by
    unfold slices_Grow_cell_Cell_cell_Cell
    rw [if_neg (by omega), w64_id ⟨by omega, by omega⟩]
    by_cases h : (A.length : Int) + (B.length : Int) - 0 > 0
    · rw [if_pos h, mkg_of ⟨by omega, by omega⟩, bnd_some', bnd_some']
    · rw [if_neg h, bnd_some']
  have l2 : loop (slices_Concat_cell_Cell_cell_Cell.l2 [A, B]) (0, []) = some (A ++ B) := by
    refine loop_next (s' := (1, A)) ?_ (loop_next (s' := (2, A ++ B)) ?_ (loop_done ?_))
    · unfold slices_Concat_cell_Cell_cell_Cell.l2
      dsimp only
      rw [if_pos (by simp), show idx [A, B] 0 = some A from rfl, bnd_some', app_of (by simp; omega), bnd_some', List.nil_append]
      rfl
    · unfold slices_Concat_cell_Cell_cell_Cell.l2
      dsimp only
      rw [if_pos (by simp), show idx [A, B] 1 = some B from rfl, bnd_some', app_of (by omega), bnd_some']
      rfl
    · unfold slices_Concat_cell_Cell_cell_Cell.l2
      dsimp only
      rw [if_neg (by simp)]
  rw [l1, bnd_some', hg, bnd_some', l2, bnd_some']
theorem has_eq (R : row_Row) (i : Int) : row_Row_has R i = some (decide (0 ≤ i ∧ i < (R.fCells.length : Int))) := by
  unfold row_Row_has
  by_cases c : 0 ≤ i
  · rw [if_pos c, bnd_some']; simp [c]
  · rw [if_neg c, bnd_some', decide_eq_false (fun h => c h.1)]
theorem delete_eq (L : List cell_Cell) (e : Int) (h : Bool) (i : Int) (hL : L.length ≤ 1000) : row_Row_Delete ⟨L, e, h⟩ i = some (if ¬ (0 ≤ i ∧ i < (L.length : Int)) then (⟨[], 0, false⟩, 5) else if L.length = 1 then (⟨[], 0, false⟩, 9) else (⟨delL L i.toNat, e, h⟩, 0)) := by
  unfold row_Row_Delete
  rw [has_eq, bnd_some']
  dsimp only
  by_cases c : 0 ≤ i ∧ i < (L.length : Int)
  · rw [if_pos (decide_eq_true c), if_neg (show ¬ ¬ (0 ≤ i ∧ i < (L.length : Int)) from fun h => h c)]
    by_cases c2 : L.length = 1
    · rw [if_pos (by omega), if_pos c2]
    · unfold row_Row_ahead row_Row_behind row_Row_with_2
      dsimp only
      rw [if_neg (by omega), if_neg c2, cut_of ⟨by omega, by omega, by omega⟩, bnd_some', bnd_some', w64_id ⟨by omega, by omega⟩, cut_of ⟨by omega, by omega, by omega⟩, bnd_some', bnd_some', concat_eq _ _ (by simp; omega) (by simp; omega), bnd_some', bnd_some', Int.toNat_natCast, List.take_length, show (i + 1).toNat = i.toNat + 1 by omega]
      rfl
  · rw [if_neg (by simpa using c), if_pos c]
/-- Two neighbours change places. -/
theorem swap_up {α : Type} (W : List α) (s : Nat) (x : α) (h : s < W.length) : ∃ y, idx (insL W s x) ((s : Int) + 1) = some y ∧ idx (insL W s x) (s : Int) = some x ∧ ((insL W s x).set s y).set (s + 1) x = insL W (s + 1) x ∧ ∃ z, idx ((insL W s x).set s y) ((s : Int) + 1) = some z := by
  have hl : (W.take s).length = s := by rw [List.length_take]; omega
  have hd : W.drop s = W[s] :: W.drop (s + 1) := List.drop_eq_getElem_cons h
  have e0 : insL W s x = W.take s ++ x :: W[s] :: W.drop (s + 1) := by unfold insL; rw [hd]
  have e1 : W.take s ++ x :: W[s] :: W.drop (s + 1) = (W.take s ++ [x]) ++ W[s] :: W.drop (s + 1) := by rw [List.append_assoc]; rfl
  have e2 : insL W (s + 1) x = W.take s ++ W[s] :: x :: W.drop (s + 1) := by unfold insL; rw [List.take_succ_eq_append_getElem h, List.append_assoc]; rfl
  have s1 : (insL W s x).set s W[s] = W.take s ++ W[s] :: W[s] :: W.drop (s + 1) := by rw [e0]; exact set_at _ _ _ _ _ hl.symm
  refine ⟨W[s], ?_, ?_, ?_, W[s], ?_⟩
  · rw [e0, e1]; exact idx_int (by omega) (by rw [List.getElem?_append_right (by rw [List.length_append, hl]; simp), List.length_append, hl]; simp)
  · rw [e0]; exact idx_of (by rw [List.getElem?_append_right (by omega), hl]; simp)
  · rw [s1, e2, show W.take s ++ W[s] :: W[s] :: W.drop (s + 1) = (W.take s ++ [W[s]]) ++ W[s] :: W.drop (s + 1) by rw [List.append_assoc]; rfl, set_at _ _ _ _ _ (by rw [List.length_append, hl]; rfl), List.append_assoc]; rfl
  · rw [s1, show W.take s ++ W[s] :: W[s] :: W.drop (s + 1) = (W.take s ++ [W[s]]) ++ W[s] :: W.drop (s + 1) by rw [List.append_assoc]; rfl]
    exact idx_int (by omega) (by rw [List.getElem?_append_right (by rw [List.length_append, hl]; simp), List.length_append, hl]; simp)
theorem swap_down {α : Type} (W : List α) (s : Nat) (x : α) (h : s < W.length) : ∃ y, idx (insL W (s + 1) x) (s : Int) = some y ∧ idx (insL W (s + 1) x) ((s : Int) + 1) = some x ∧ ((insL W (s + 1) x).set (s + 1) y).set s x = insL W s x ∧ ∃ z, idx ((insL W (s + 1) x).set (s + 1) y) (s : Int) = some z := by
  have hl : (W.take s).length = s := by rw [List.length_take]; omega
  have hd : W.drop s = W[s] :: W.drop (s + 1) := List.drop_eq_getElem_cons h
  have e0 : insL W (s + 1) x = W.take s ++ W[s] :: x :: W.drop (s + 1) := by unfold insL; rw [List.take_succ_eq_append_getElem h, List.append_assoc]; rfl
  have e1 : W.take s ++ W[s] :: x :: W.drop (s + 1) = (W.take s ++ [W[s]]) ++ x :: W.drop (s + 1) := by rw [List.append_assoc]; rfl
  have e2 : insL W s x = W.take s ++ x :: W[s] :: W.drop (s + 1) := by unfold insL; rw [hd]
  have s1 : (insL W (s + 1) x).set (s + 1) W[s] = W.take s ++ W[s] :: W[s] :: W.drop (s + 1) := by rw [e0, e1, set_at _ _ _ _ _ (by rw [List.length_append, hl]; rfl), List.append_assoc]; rfl
  refine ⟨W[s], ?_, ?_, ?_, W[s], ?_⟩
  · rw [e0]; exact idx_of (by rw [List.getElem?_append_right (by omega), hl]; simp)
  · rw [e0, e1]; exact idx_int (by omega) (by rw [List.getElem?_append_right (by rw [List.length_append, hl]; simp), List.length_append, hl]; simp)
  · rw [s1, e2]; exact set_at _ _ _ _ _ hl.symm
  · rw [s1]; exact idx_of (by rw [List.getElem?_append_right (by omega), hl]; simp)
theorem move_eq (L : List cell_Cell) (e : Int) (h : Bool) (i j : Int) (hL : L.length ≤ 1000) : (¬ ((0 ≤ i ∧ i < (L.length : Int)) ∧ (0 ≤ j ∧ j < (L.length : Int))) ∧ row_Row_Move ⟨L, e, h⟩ i j = some (⟨[], 0, false⟩, 5)) ∨
    (((0 ≤ i ∧ i < (L.length : Int)) ∧ (0 ≤ j ∧ j < (L.length : Int))) ∧ ∃ x, L[i.toNat]? = some x ∧ row_Row_Move ⟨L, e, h⟩ i j = some (⟨movL L i.toNat j.toNat x, e, h⟩, 0)) := by
  unfold row_Row_Move
  rw [has_eq, bnd_some', has_eq]
  dsimp only
  by_cases c1 : 0 ≤ i ∧ i < (L.length : Int)
  · rw [if_pos (decide_eq_true c1), bnd_some', bnd_some']
    by_cases c2 : 0 ≤ j ∧ j < (L.length : Int)
    · rw [decide_eq_true c2, if_neg (by simp)]
      refine .inr ⟨⟨c1, c2⟩, L[i.toNat]'(by omega), List.getElem?_eq_getElem (by omega), ?_⟩
      have hx : L[i.toNat]? = some (L[i.toNat]'(by omega)) := List.getElem?_eq_getElem (by omega)
      generalize L[i.toNat]'(by omega) = x at hx
      rw [clone_eq _ (by omega), bnd_some']
      have hins := ins_at hx
      have hlen := delL_len L (show i.toNat < L.length by omega)
      generalize hW : delL L i.toNat = W at hins hlen
      have fin : ∀ t, row_Row_Move.l1 j t (j, insL W j.toNat x) = some (.done (insL W j.toNat x)) := fun t => by
        unfold row_Row_Move.l1
        rw [if_pos rfl]
      unfold row_Row_with movL
      rw [hW]
      by_cases c3 : j < i
      · rw [if_pos c3, bnd_some']
        have key : ∀ k (s : Nat), s = j.toNat + k → s ≤ W.length → loop (row_Row_Move.l1 j (-1)) ((s : Int), insL W s x) = some (insL W j.toNat x) := by
          intro k
          induction k with
          | zero => intro s hs hle; rw [hs, Nat.add_zero, show ((j.toNat : Nat) : Int) = j by omega]; exact loop_done (fin _)
          | succ k ih =>
            intro s hs hle
            obtain ⟨s, rfl⟩ : ∃ s', s = s' + 1 := ⟨s - 1, by omega⟩
            obtain ⟨y, y1, y2, y3, z, y4⟩ := swap_down W s x (by omega)
            refine loop_next (s' := ((s : Int), insL W s x)) ?_ (ih s (by omega) (by omega))
            unfold row_Row_Move.l1
            dsimp only
            rw [if_neg (by omega), w64_id ⟨by omega, by omega⟩, show ((s + 1 : Nat) : Int) + -1 = (s : Int) by omega, y1, bnd_some', show ((s + 1 : Nat) : Int) = (s : Int) + 1 by omega, y2, bnd_some', show ((s : Int) + 1).toNat = s + 1 by omega, y4, bnd_some', Int.toNat_natCast, y3]
        have := key (i.toNat - j.toNat) i.toNat (by omega) (by omega)
        rw [show ((i.toNat : Nat) : Int) = i by omega, ← hins] at this
        rw [this, bnd_some', bnd_some']
      · rw [if_neg c3, bnd_some']
        have key : ∀ k (s : Nat), j.toNat = s + k → loop (row_Row_Move.l1 j 1) ((s : Int), insL W s x) = some (insL W j.toNat x) := by
          intro k
          induction k with
          | zero => intro s hs; rw [← show j.toNat = s by omega, show ((j.toNat : Nat) : Int) = j by omega]; exact loop_done (fin _)
          | succ k ih =>
            intro s hs
            obtain ⟨y, y1, y2, y3, z, y4⟩ := swap_up W s x (by omega)
            refine loop_next (s' := (((s + 1 : Nat) : Int), insL W (s + 1) x)) ?_ (ih (s + 1) (by omega))
            unfold row_Row_Move.l1
            dsimp only
            rw [if_neg (by omega), w64_id ⟨by omega, by omega⟩, y1, bnd_some', y2, bnd_some', Int.toNat_natCast, y4, bnd_some', show ((s : Int) + 1).toNat = s + 1 by omega, y3]
            rfl
        have := key (j.toNat - i.toNat) i.toNat (by omega)
        rw [show ((i.toNat : Nat) : Int) = i by omega, ← hins] at this
        rw [this, bnd_some', bnd_some']
    · rw [decide_eq_false c2, if_pos (show (!false) = true from rfl)]
      exact .inl ⟨fun h => c2 h.2, rfl⟩
  · rw [if_neg (by simpa using c1), bnd_some', if_pos rfl]
    exact .inl ⟨fun h => c1 h.1, rfl⟩
theorem hide_eq (L : List cell_Cell) (e : Int) (h b : Bool) (hL : L.length ≤ 1000000) : row_Row_Hide ⟨L, e, h⟩ b = some ⟨L, e, b⟩ := by
  unfold row_Row_Hide
  rw [clone_eq _ hL, bnd_some']
theorem fresh_eq (n e : Int) : row_Fresh n e = some ⟨padL [] (if n < 1 then 1 else n) zc, e, false⟩ := by
  unfold row_Fresh
  rw [bnd_some', mkz_of ⟨by split <;> split <;> omega, by split <;> split <;> omega⟩, bnd_some']
  have _ : (if 40 < (if 1 > n then 1 else n) then 40 else (if 1 > n then 1 else n)) = (if 40 < (if n < 1 then 1 else n) then 40 else (if n < 1 then 1 else n)) := rfl
  unfold padL
  rw [List.nil_append, List.length_nil, Nat.sub_zero]
  rfl
end Go.Proofs.Ytbcbggdgkdfciaa.S
