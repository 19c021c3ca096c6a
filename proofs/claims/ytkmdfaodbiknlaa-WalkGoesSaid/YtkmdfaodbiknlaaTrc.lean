/- Chapter 9's trees, told plainly: trees as a whole. -/
import Derived.Test.YtkmdfaodbiknlaaG0
import Derived.Test.YtkmdfaodbiknlaaG2xa
import Derived.Test.YtkmdfaodbiknlaaG5xa
import Derived.Test.YtkmdfaodbiknlaaG6xa
import Derived.Test.YtkmdfaodbiknlaaTrb
set_option linter.unusedVariables false
namespace Go.Proofs.Ytkmdfaodbiknlaa.S
open Go Go.Sm
theorem fo_size {h : Nat} (ih : ∀ (z : Nd) (l : List El), T h z l → wd z * 3 ^ h ≤ l.length) : ∀ (xs : List NP) (l : List El), Fo 3 h xs l → xs.length * (3 * 3 ^ h) ≤ l.length := by
  intro xs
  induction xs with
  | nil => intro l _; simp
  | cons x xs ihx =>
    intro l hf
    obtain ⟨w, m, r, rfl, g1, g2, g3, rfl, g5⟩ := hf.cons_inv
    have h1 := ih w m g1
    have h2 := ihx r g5
    have h3 : 3 * 3 ^ h ≤ wd w * 3 ^ h := Nat.mul_le_mul_right _ g2
    rw [List.length_cons, List.length_append, Nat.add_mul]
    omega
theorem T_size : ∀ (h : Nat) (z : Nd) (l : List El), T h z l → wd z * 3 ^ h ≤ l.length := by
  intro h
  induction h with
  | zero =>
    intro z l ht
    rw [(leaf_wd ht).1]; simp
  | succ h ih =>
    intro z l ht
    obtain ⟨_, _, hf⟩ := T_succ.1 ht
    rw [kids_wd ht, Nat.pow_succ, Nat.mul_comm (3 ^ h) 3]
    exact fo_size ih _ _ hf
theorem Rt.kids {h : Nat} {z : Nd} {l : List El} (hr : Rt h z l) (h0 : 0 < h) : 2 ≤ z.fKids.length := by
  obtain ⟨h, rfl⟩ : ∃ n, h = n + 1 := ⟨h - 1, by omega⟩
  have := fo_ne (T_succ.1 hr.1).2.2 hr.2.2.2
  have := hr.2.2.1
  omega
theorem Rt.wd_pos {h : Nat} {z : Nd} {l : List El} (hr : Rt h z l) : 1 ≤ wd z ∧ (0 < h → 2 ≤ wd z) := by
  cases h with
  | zero =>
    have : l.length ≠ 0 := fun e => hr.2.2.2 (List.length_eq_zero_iff.1 e)
    rw [(leaf_wd hr.1).1]
    omega
  | succ h =>
    have := hr.kids (by omega)
    rw [kids_wd hr.1]
    omega
theorem Rt.size {h : Nat} {z : Nd} {l : List El} (hr : Rt h z l) (h0 : 0 < h) : 2 * 3 ^ h ≤ l.length :=
  Nat.le_trans (Nat.mul_le_mul_right _ (hr.wd_pos.2 h0)) (T_size h z l hr.1)
theorem pow_low : ∀ h : Nat, h < 3 ^ h := by
  intro h
  induction h with
  | zero => decide
  | succ h ih => rw [Nat.pow_succ]; omega
theorem Rt.low {h : Nat} {z : Nd} {l : List El} (hr : Rt h z l) (hl : l.length ≤ 2000000) : h < 30 := by
  by_cases c : h < 30
  · exact c
  · have h1 := hr.size (by omega)
    have h2 : 3 ^ 30 ≤ 3 ^ h := Nat.pow_le_pow_right (by decide) (by omega)
    have h3 : (3 : Nat) ^ 30 = 205891132094649 := by decide
    omega
theorem first_kid {h : Nat} {ks : List NP} {l : List El} (hf : Fo 3 h ks l) (hne : 0 < ks.length) : ∃ w m r, ks[0]? = some (c_tree_Node_int w) ∧ T h w m ∧ 3 ≤ wd w ∧ wd w ≤ 6 ∧ l = m ++ r ∧ Fo 3 h (ks.drop 1) r := by
  cases ks with
  | nil => simp at hne
  | cons x xs =>
    obtain ⟨w, m, r, rfl, g1, g2, g3, g4, g5⟩ := hf.cons_inv
    exact ⟨w, m, r, rfl, g1, g2, g3, g4, by simpa using g5⟩
theorem heightLoop : ∀ (h : Nat) (z : Nd) (l : List El) (c : Int), T h z l → (0 < h → 0 < z.fKids.length) → 0 ≤ c → c + h ≤ 1000 → loop tree_height_int.l1 (z.fKids, z.fItems, z.fN, c) = some (c + h + 1) := by
  intro h
  induction h with
  | zero =>
    intro z l c ht _ hc hb
    refine loop_done ?_
    unfold tree_height_int.l1
    dsimp only
    rw [flat_eq, bnd_some', (leaf_wd ht).2.1, if_pos (by simp), w64_id ⟨by omega, by omega⟩]
    congr 2; omega
  | succ h ih =>
    intro z l c ht hk hc hb
    obtain ⟨_, _, hf⟩ := T_succ.1 ht
    have hne := hk (by omega)
    obtain ⟨w, m, r, g1, g2, g3, g4, g5, g6⟩ := first_kid hf hne
    have := ih w m (c + 1) g2 (fun h0 => by
      obtain ⟨h, rfl⟩ : ∃ n, h = n + 1 := ⟨h - 1, by omega⟩
      have := kids_wd g2; omega) (by omega) (by omega)
    rw [show c + ((h + 1 : Nat) : Int) + 1 = c + 1 + (h : Int) + 1 by omega]
    refine loop_next ?_ this
    unfold tree_height_int.l1
    dsimp only
    rw [flat_eq, bnd_some', if_neg (by simp; intro e; rw [e] at hne; simp at hne), show idx z.fKids 0 = some (c_tree_Node_int w) from idx_of g1, bnd_some', oN, bnd_some', w64_id ⟨by omega, by omega⟩]
/-! ### trees as a whole -/
def rootOf (t : tree_Tree_int) : Option NP := t.fRoot
theorem Len_eq (t : tree_Tree_int) (l : List El) (ht : IsT t l) : tree_Tree_int_Len t = some (l.length : Int) := by
  unfold tree_Tree_int_Len
  rcases ht with ⟨rfl, rfl⟩ | ⟨h, z, rfl, hr⟩
  · rfl
  · rw [bnd_some']
    dsimp only
    rw [oN, bnd_some', T_N hr.1]
theorem has_eq (t : tree_Tree_int) (l : List El) (ht : IsT t l) (i : Int) : tree_Tree_int_has t i = some (decide (0 ≤ i ∧ i < (l.length : Int))) := by
  unfold tree_Tree_int_has
  by_cases c : i ≥ 0
  · rw [if_pos c, Len_eq t l ht, bnd_some', bnd_some']; simp [c]
  · rw [if_neg c, bnd_some', decide_eq_false (fun h => c h.1)]
/-- How many nodes from the root down. -/
theorem Height_eq {h : Nat} {z : Nd} {l : List El} (hr : Rt h z l) (hl : l.length ≤ 2000000) : tree_Tree_int_Height ⟨some (c_tree_Node_int z)⟩ = some ((h : Int) + 1) := by
  unfold tree_Tree_int_Height tree_height_int
  have hlow := hr.low hl
  rw [bnd_some']
  dsimp only
  rw [oN, bnd_some', heightLoop h z l 0 hr.1 (fun h0 => by have := hr.kids h0; omega) (by omega) (by omega), bnd_some', bnd_some', Int.zero_add]
theorem atLoop : ∀ (h : Nat) (z : Nd) (l : List El) (i : Nat), T h z l → wd z ≤ 6 → (hi : i < l.length) → l.length ≤ 800000 → ∃ j ks is n, loop tree_Tree_int_At.l2 ((i : Int), z.fKids, z.fItems, z.fN) = some (j, ks, is, n) ∧ idx is j = some l[i] := by
  intro h
  induction h with
  | zero =>
    intro z l i ht hw hi hl
    obtain ⟨q1, q2, q3⟩ := leaf_wd ht
    refine ⟨(i : Int), z.fKids, z.fItems, z.fN, loop_done ?_, ?_⟩
    · unfold tree_Tree_int_At.l2
      dsimp only
      rw [flat_eq, bnd_some', q2, if_pos (by simp)]
    · rw [q3]; exact idx_of (List.getElem?_eq_getElem hi)
  | succ h ih =>
    intro z l i ht hw hi hl
    obtain ⟨t1, t2, t3⟩ := T_succ.1 ht
    have hkw := kids_wd ht
    have hne : 0 < z.fKids.length := fo_ne t3 (fun e => by subst e; simp at hi)
    obtain ⟨k, w, la, m, lb, k1, k2, k3, k4, k5, k6, k7, k8, k9, k10, k11, k12⟩ := kid_eq t3 (by omega) (by omega) hne i (by omega) z.fItems z.fN
    have hm : l.length = la.length + m.length + lb.length := by rw [k7]; simp only [List.length_append]
    have k12' := k12 hi
    obtain ⟨j, ks, is, n, j1, j2⟩ := ih w m (i - la.length) k4 k6 (by omega) (by omega)
    refine ⟨j, ks, is, n, loop_next ?_ j1, ?_⟩
    · unfold tree_Tree_int_At.l2
      dsimp only
      rw [flat_eq, bnd_some', if_neg (by simp; intro e; rw [e] at hne; simp at hne), k1, bnd_some']
      dsimp only
      rw [idx_of k3, bnd_some', oN, bnd_some']
    · rw [j2]
      congr 1
      have : l[i]? = m[i - la.length]? := by
        rw [k7, List.append_assoc, List.getElem?_append_right k10, List.getElem?_append_left (by omega)]
      rw [List.getElem?_eq_getElem hi, List.getElem?_eq_getElem (show i - la.length < m.length by omega)] at this
      exact (Option.some.inj this).symm
theorem At_eq (t : tree_Tree_int) (l : List El) (ht : IsT t l) (hl : l.length ≤ 800000) (i : Int) : (¬ (0 ≤ i ∧ i < (l.length : Int)) → tree_Tree_int_At t i = some (default, false)) ∧ ((hi : 0 ≤ i ∧ i < (l.length : Int)) → tree_Tree_int_At t i = some (l[i.toNat]'(by omega), true)) := by
  unfold tree_Tree_int_At
  rw [has_eq t l ht, bnd_some']
  constructor
  · intro c
    rw [decide_eq_false c, if_neg (by simp)]
    rfl
  · intro c
    rw [decide_eq_true c, if_pos rfl]
    rcases ht with ⟨rfl, rfl⟩ | ⟨h, z, rfl, hr⟩
    · simp at c; omega
    · obtain ⟨j, ks, is, n, j1, j2⟩ := atLoop h z l i.toNat hr.1 hr.2.1 (by omega) hl
      rw [show ((i.toNat : Nat) : Int) = i by omega] at j1
      rw [bnd_some']
      dsimp only
      rw [oN, bnd_some', j1, bnd_some']
      dsimp only
      rw [j2, bnd_some']
theorem Set_eq (t : tree_Tree_int) (l : List El) (ht : IsT t l) (hl : l.length ≤ 800000) (i : Int) (x : El) : (¬ (0 ≤ i ∧ i < (l.length : Int)) → tree_Tree_int_Set t i x = some (t, false)) ∧
    ((0 ≤ i ∧ i < (l.length : Int)) → ∃ u, tree_Tree_int_Set t i x = some (u, true) ∧ IsT u (repL l i.toNat (i.toNat + 1) [x])) := by
  unfold tree_Tree_int_Set
  rw [has_eq t l ht, bnd_some']
  constructor
  · intro c
    rw [decide_eq_false c, if_neg (by simp)]
  · intro c
    rw [decide_eq_true c, if_pos rfl]
    rcases ht with ⟨rfl, rfl⟩ | ⟨h, z, rfl, hr⟩
    · simp at c; omega
    · have hlow := hr.low (by omega)
      obtain ⟨z', z1, z2, z3, z4⟩ := set_eq h 64 z l i.toNat x (by omega) hr.1 hr.2.1 (by omega) hl
      rw [show ((i.toNat : Nat) : Int) = i by omega] at z1
      have hlen := repL_len l (i := i.toNat) (j := i.toNat + 1) [x] (by omega) (by omega)
      simp only [List.length_cons, List.length_nil] at hlen
      rw [bnd_some']
      dsimp only
      rw [oN, bnd_some', z1, bnd_some']
      exact ⟨_, rfl, .inr ⟨h, z', rfl, z2, by rw [z3]; exact hr.2.1, by rw [z4]; exact hr.2.2.1, fun e => by rw [e] at hlen; simp at hlen; omega⟩⟩
theorem Insert_eq (t : tree_Tree_int) (l : List El) (ht : IsT t l) (hl : l.length ≤ 800000) (i : Int) (x : El) : ((i < 0 ∨ (l.length : Int) < i) → tree_Tree_int_Insert t i x = some (t, false)) ∧
    (¬ (i < 0 ∨ (l.length : Int) < i) → ∃ u, tree_Tree_int_Insert t i x = some (u, true) ∧ IsT u (repL l i.toNat i.toNat [x])) := by
  have hg : (if i < 0 then some true else bnd (tree_Tree_int_Len t) fun x4 => some (decide (i > x4)) : Option Bool) = some (decide (i < 0 ∨ (l.length : Int) < i)) := by
    by_cases c : i < 0
    · rw [if_pos c, decide_eq_true (.inl c)]
    · rw [if_neg c, Len_eq t l ht, bnd_some']; congr 1; rw [Bool.eq_iff_iff]; simp [c]
  unfold tree_Tree_int_Insert
  rw [hg, bnd_some']
  constructor
  · intro c
    rw [decide_eq_true c, if_pos rfl]
  · intro c
    have hlen := repL_len l (i := i.toNat) (j := i.toNat) [x] (by omega) (by omega)
    simp only [List.length_cons, List.length_nil] at hlen
    rw [decide_eq_false c, if_neg (by simp)]
    rcases ht with ⟨rfl, rfl⟩ | ⟨h, z, rfl, hr⟩
    · obtain ⟨u, u1, u2⟩ := Of_eq [x] (by simp)
      rw [bnd_some']
      dsimp only
      rw [u1, bnd_some']
      exact ⟨u, rfl, by simpa [repL] using u2⟩
    · have hlow := hr.low (by omega)
      obtain ⟨xs, x1, x2, x3, x4, x5, x6⟩ := put_eq h 64 z l i.toNat x (by omega) hr.1 hr.2.1 (by omega) hl (fun h0 => by have := hr.kids h0; omega)
      rw [show ((i.toNat : Nat) : Int) = i by omega] at x1
      obtain ⟨u, u1, u2⟩ := above_eq (h := h) (xs := xs) ⟨x2, by
        by_cases c2 : xs.length = 2
        · exact .inr (x5 c2)
        · exact .inl (by omega)⟩ (by omega) (by omega)
      rw [bnd_some']
      dsimp only
      rw [oN, bnd_some', x1, bnd_some', u1, bnd_some']
      exact ⟨u, rfl, u2⟩
theorem Delete_eq (t : tree_Tree_int) (l : List El) (ht : IsT t l) (hl : l.length ≤ 800000) (i : Int) : (¬ (0 ≤ i ∧ i < (l.length : Int)) → tree_Tree_int_Delete t i = some (t, false)) ∧
    ((0 ≤ i ∧ i < (l.length : Int)) → ∃ u, tree_Tree_int_Delete t i = some (u, true) ∧ IsT u (repL l i.toNat (i.toNat + 1) [])) := by
  unfold tree_Tree_int_Delete
  rw [has_eq t l ht, bnd_some']
  constructor
  · intro c
    rw [decide_eq_false c, if_neg (by simp)]
  · intro c
    rw [decide_eq_true c, if_pos rfl]
    rcases ht with ⟨rfl, rfl⟩ | ⟨h, z, rfl, hr⟩
    · simp at c; omega
    · have hlow := hr.low (by omega)
      obtain ⟨z', z1, z2, z3, z4⟩ := take_eq h 64 z l i.toNat (by omega) hr.1 hr.2.1 (by omega) hl hr.kids
      rw [show ((i.toNat : Nat) : Int) = i by omega] at z1
      have hlen := repL_len l (i := i.toNat) (j := i.toNat + 1) [] (by omega) (by omega)
      simp only [List.length_nil] at hlen
      have hw := hr.2.1
      obtain ⟨u, u1, u2⟩ := above_eq (h := h) (xs := [c_tree_Node_int z']) ⟨Fo.one z2 (Nat.zero_le _) (by omega), .inl (by simp)⟩ (by simp) (by omega)
      rw [bnd_some']
      dsimp only
      rw [oN, bnd_some', z1, bnd_some']
      dsimp only
      rw [u1, bnd_some']
      exact ⟨u, rfl, u2⟩
end Go.Proofs.Ytkmdfaodbiknlaa.S
