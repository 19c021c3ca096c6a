/- Chapter 9's trees, told plainly: the shape, all things, the document's rows. -/
import Derived.Test.YtkmdfaodbiknlaaG0
import Derived.Test.YtkmdfaodbiknlaaG1xa
import Derived.Test.YtkmdfaodbiknlaaG2xa
import Derived.Test.YtkmdfaodbiknlaaG3xa
import Derived.Test.YtkmdfaodbiknlaaG4xa
import Derived.Test.YtkmdfaodbiknlaaG5xa
import Derived.Test.YtkmdfaodbiknlaaG6xa
import Derived.Test.YtkmdfaodbiknlaaTrc
set_option linter.unusedVariables false
namespace Go.Proofs.Ytkmdfaodbiknlaa.S
open Go Go.Sm
theorem few9_eq (l : List El) : law09_few l = some (l.take 300) := by
  unfold law09_few
  by_cases h : (l.length : Int) > 300
  · rw [if_pos h, cut_of ⟨by omega, by omega, by omega⟩, bnd_some']; simp
  · rw [if_neg h, List.take_of_length_le (by omega)]
theorem same9_eq (a b : List El) (ha : a.length ≤ 2000000) : ref09_Same a b = some (decide (a = b)) := by
  unfold ref09_Same
  by_cases c : (a.length : Int) = (b.length : Int)
  · rw [if_pos c]
    obtain ⟨t, h1, h2⟩ := loop_same (f := ref09_Same.l1 a b) () a b (by omega) (by omega) (fun i => rfl)
    rw [h1, bnd_some']
    cases t with
    | brk u => simp only at h2 ⊢; rw [decide_eq_true h2]
    | ret v => simp only at h2 ⊢; rw [h2.1, decide_eq_false h2.2]
  · rw [if_neg c, decide_eq_false (fun h => c (by rw [h]))]
/-- A node has the shape, and its things. -/
theorem fits_eq : ∀ (h fu : Nat) (z : Nd) (l : List El) (root : Bool), h < fu → h ≤ 1000 → T h z l → wd z ≤ 6 → (root = false → 3 ≤ wd z) → (h = 0 → 1 ≤ wd z) → (0 < h → 2 ≤ wd z) → l.length ≤ 800000 →
    law09_fits fu z.fKids z.fItems z.fN ((h : Int) + 1) root = some (l, true) := by
  intro h
  induction h with
  | zero =>
    intro fu z l root hfu _ ht hw h3 h1 _ hl
    obtain ⟨fu, rfl⟩ : ∃ n, fu = n + 1 := ⟨fu - 1, by omega⟩
    obtain ⟨q1, q2, q3⟩ := leaf_wd ht
    have hN := T_N ht
    have hp := h1 rfl
    have e6 : (if root = true then some 1 else some 3 : Option Int) = some (if root = true then 1 else 3) := by cases root <;> rfl
    have hge : (l.length : Int) ≥ (if root = true then 1 else 3) := by
      cases root with
      | true => simp; omega
      | false => have := h3 rfl; simp; omega
    show law09_fits.body (law09_fits fu) z.fKids z.fItems z.fN (((0 : Nat) : Int) + 1) root = _
    unfold law09_fits.body
    rw [q2, q3, hN, if_neg (by simp), if_neg (by simp), decide_eq_false (by omega), bnd_some', if_neg (by simp), if_pos (by simp), e6, bnd_some', if_pos (by simp), if_pos hge, bnd_some']
    simp
  | succ h ih =>
    intro fu z l root hfu hh ht hw h3 _ h2 hl
    obtain ⟨fu, rfl⟩ : ∃ n, fu = n + 1 := ⟨fu - 1, by omega⟩
    obtain ⟨t1, t2, zs, t3, t4, t5⟩ := ht
    have hkw : wd z = z.fKids.length := by unfold wd; rw [t1]; rfl
    have hp := h2 (by omega)
    have hzs : z.fKids.length = zs.length := by rw [t3, List.length_map]
    have e6 : (if root = true then some 2 else some 3 : Option Int) = some (if root = true then 2 else 3) := by cases root <;> rfl
    have hge : (z.fKids.length : Int) ≥ (if root = true then 2 else 3) := by
      cases root with
      | true => simp; omega
      | false => have := h3 rfl; simp; omega
    have hlp : loop (law09_fits.l2 z.fKids (((h + 1 : Nat) : Int) + 1) (law09_fits fu)) (true, 0, []) = some (true, l) := by
      have hh2 := loop_fold (f := law09_fits.l2 z.fKids (((h + 1 : Nat) : Int) + 1) (law09_fits fu)) (fun k (s : List El) => (true, k, s)) zs (fun pre => pre.flatMap (fun p => p.2)) (t := (true, l))
        (fun pre x suf hs => by
          have hlen : zs.length = pre.length + (suf.length + 1) := by rw [hs]; simp
          obtain ⟨x1, x2, x3⟩ := t5 x (by rw [hs]; simp)
          have hxl : (pre.flatMap (fun p => p.2)).length + x.2.length ≤ 800000 := by
            rw [t4, hs] at hl
            simp only [List.flatMap_append, List.flatMap_cons, List.length_append] at hl
            omega
          have hi := ih fu x.1 x.2 false (by omega) (by omega) x1 x3 (fun _ => x2) (fun _ => by omega) (fun _ => by omega) (by omega)
          have happ : loop (law09_fits.l1 (x.2, true)) (0, pre.flatMap (fun p => p.2)) = some (pre.flatMap (fun p => p.2) ++ x.2) := by
            have hh3 := loop_fold (f := law09_fits.l1 (x.2, true)) (fun k (s : List El) => (k, s)) x.2 (fun q => pre.flatMap (fun p => p.2) ++ q) (t := pre.flatMap (fun p => p.2) ++ x.2)
              (fun q y r hs3 => by
                have hl3 : x.2.length = q.length + (r.length + 1) := by rw [hs3]; simp
                unfold law09_fits.l1
                dsimp only
                rw [if_pos (by omega), show idx x.2 (q.length : Int) = some y by rw [hs3]; exact idx_at q y r, bnd_some', app_of (by simp only [List.length_append, List.length_cons, List.length_nil]; omega), bnd_some', w64_id ⟨by omega, by omega⟩, List.append_assoc])
              (by
                unfold law09_fits.l1
                dsimp only
                rw [if_neg (by omega)])
            simpa using hh3
          unfold law09_fits.l2
          dsimp only
          rw [if_pos (by omega), idx_of (show z.fKids[pre.length]? = some (c_tree_Node_int x.1) by rw [t3, hs]; simp), bnd_some', oN, bnd_some', w64_id ⟨by omega, by omega⟩, show ((h + 1 : Nat) : Int) + 1 - 1 = (h : Int) + 1 by omega, hi, bnd_some', if_pos rfl, bnd_some', happ, bnd_some', w64_id ⟨by omega, by omega⟩, List.flatMap_append]
          simp)
        (by
          unfold law09_fits.l2
          dsimp only
          rw [if_neg (by omega), t4])
      simpa using hh2
    show law09_fits.body (law09_fits fu) z.fKids z.fItems z.fN (((h + 1 : Nat) : Int) + 1) root = _
    unfold law09_fits.body
    rw [if_neg (by omega), if_neg (by omega), t1, show decide ((([] : List El).length : Int) > 6) = false from by decide, bnd_some', if_neg (by simp), if_neg (by omega), e6, bnd_some', if_pos (by simp), bnd_some', decide_eq_true hge, hlp, bnd_some']
    dsimp only
    rw [if_pos rfl, t2, beq_self_eq_true, bnd_some']
theorem leastLoop (t : tree_Tree_int) (h : Nat) (hh : tree_Tree_int_Height t = some ((h : Int) + 1)) (hb : h < 30) : loop (law09_Fits.l2 t) (2, 1) = some ((2 * 3 ^ h : Nat) : Int) := by
  have key : ∀ k i : Nat, i + k = h → loop (law09_Fits.l2 t) (((2 * 3 ^ i : Nat) : Int), (i : Int) + 1) = some ((2 * 3 ^ h : Nat) : Int) := by
    intro k
    induction k with
    | zero =>
      intro i hi
      have : i = h := by omega
      subst this
      refine loop_done ?_
      unfold law09_Fits.l2
      rw [hh, bnd_some', if_neg (by simp)]
    | succ k ih =>
      intro i hi
      have h1 : 3 ^ i ≤ 3 ^ 30 := Nat.pow_le_pow_right (by decide) (by omega)
      have h3 : (3 : Nat) ^ 30 = 205891132094649 := by decide
      refine loop_next (s' := (((2 * 3 ^ (i + 1) : Nat) : Int), ((i + 1 : Nat) : Int) + 1)) ?_ (ih (i + 1) (by omega))
      have e : 2 * 3 ^ (i + 1) = 2 * 3 ^ i * 3 := by rw [Nat.pow_succ, Nat.mul_assoc]
      unfold law09_Fits.l2
      rw [hh, bnd_some']
      dsimp only
      rw [if_pos (by omega), e]
      generalize 3 ^ i = q at h1 ⊢
      rw [w64_id ⟨by omega, by omega⟩, w64_id ⟨by omega, by omega⟩]
      congr 3
  have := key h 0 (by omega)
  simpa using this
theorem Fits_eq (t : tree_Tree_int) (l : List El) (ht : IsT t l) (hl : l.length ≤ 800000) : law09_Fits t l = some true := by
  unfold law09_Fits
  rw [Len_eq t l ht, bnd_some', if_pos rfl]
  rcases ht with ⟨rfl, rfl⟩ | ⟨h, z, rfl, hr⟩
  · have hl0 : loop tree_height_int_nil.l1 () = some () := loop_done rfl
    have hh0 : tree_Tree_int_Height ⟨none⟩ = some 0 := by
      unfold tree_Tree_int_Height tree_height_int_nil
      rw [bnd_some']
      dsimp only
      rw [hl0, bnd_some', bnd_some']
    rw [if_pos (show (([] : List El).length : Int) = 0 from rfl), show tree_Tree_int_Root ⟨none⟩ = some (.inl ()) from rfl, bnd_some']
    dsimp only
    rw [hh0, bnd_some', bnd_some']
    rfl
  · have hlow := hr.low (by omega)
    have hH := Height_eq hr (by omega)
    have hp : l.length ≠ 0 := fun e => hr.2.2.2 (List.length_eq_zero_iff.1 e)
    have hroot : tree_Tree_int_Root ⟨some (c_tree_Node_int z)⟩ = some (.inr (z.fKids, z.fItems, z.fN)) := by
      unfold tree_Tree_int_Root
      rw [bnd_some']
      dsimp only
      rw [oN, bnd_some']
    have hf := fits_eq h 64 z l true (by omega) (by omega) hr.1 hr.2.1 (fun e => by cases e) (fun _ => hr.wd_pos.1) hr.wd_pos.2 hl
    rw [if_neg (by omega), hroot, bnd_some']
    dsimp only
    rw [hH, bnd_some', hf, bnd_some', leastLoop _ h hH hlow, bnd_some']
    dsimp only
    rw [if_pos rfl, same9_eq l l (by omega), bnd_some', decide_eq_true rfl, if_pos rfl, bnd_some']
    by_cases c : h = 0
    · subst c
      rw [if_pos (by simp), bnd_some']
    · have := hr.size (by omega)
      rw [if_neg (by omega), decide_eq_true (by omega), bnd_some']
theorem All_eq (t : tree_Tree_int) (l : List El) (ht : IsT t l) (hl : l.length ≤ 1999) : law09_All t = some l := by
  unfold law09_All
  have hh := loop_nat (f := law09_All.l1 t) (fun k (s : List El) => (k, s)) l.length (fun i => l.take i) (t := Ex.brk l)
    (fun i hi => by
      have hA := (At_eq t l ht (by omega) (i : Int)).2 ⟨by omega, by omega⟩
      unfold law09_All.l1
      rw [Len_eq t l ht, bnd_some']
      dsimp only
      rw [if_pos (by omega), bnd_some', if_pos (by simp; omega), hA, bnd_some']
      dsimp only
      rw [if_pos rfl, app_of (by simp; omega), bnd_some', w64_id ⟨by omega, by omega⟩, List.take_succ_eq_append_getElem hi]
      simp)
    (by
      unfold law09_All.l1
      rw [Len_eq t l ht, bnd_some']
      dsimp only
      rw [if_neg (by omega), bnd_some', if_neg (by simp), List.take_length])
  have h' : loop (law09_All.l1 t) (0, []) = some (Ex.brk l) := by simpa using hh
  rw [h', bnd_some']
/-! ### the document's rows -/
theorem rIns (l : List El) (i : Int) (x : El) (hl : l.length ≤ 800000) : ref09_Insert l i x = some (if i < 0 ∨ (l.length : Int) < i then (l, false) else (repL l i.toNat i.toNat [x], true)) := by
  unfold ref09_Insert
  by_cases c1 : i < 0
  · rw [if_pos c1, bnd_some', if_pos rfl, if_pos (.inl c1)]
  · rw [if_neg c1, bnd_some']
    by_cases c2 : (l.length : Int) < i
    · rw [if_pos (by simpa using c2), if_pos (.inr c2)]
    · rw [if_neg (by simpa using c2), if_neg (show ¬ (i < 0 ∨ (l.length : Int) < i) by omega)]
      obtain ⟨j, rfl⟩ : ∃ j : Nat, i = j := ⟨i.toNat, by omega⟩
      have hj : j ≤ l.length := by omega
      have hh := loop_nat (f := ref09_Insert.l1 l (j : Int) x) (fun k (s : List El) => (k, s)) (l.length + 1) (fun k => if k ≤ j then l.take k else repL (l.take k) j j [x]) (t := repL l j j [x])
        (fun k hk => by
          have hlen : ((if k ≤ j then l.take k else repL (l.take k) j j [x]) : List El).length ≤ 900000 := by
            split
            · simp; omega
            · rw [repL_len _ _ (by omega) (by rw [List.length_take]; omega), List.length_take]; simp; omega
          have e1 : (if (k : Int) = (j : Int) then bnd (app 8 (if k ≤ j then l.take k else repL (l.take k) j j [x]) [x]) fun x22 => some x22 else some (if k ≤ j then l.take k else repL (l.take k) j j [x]) : Option (List El)) = some (if k < j then l.take k else repL (l.take k) j j [x]) := by
            by_cases q : k = j
            · subst q
              rw [if_pos rfl, app_of (by simp only [List.length_cons, List.length_nil]; omega), bnd_some', if_pos (Nat.le_refl _), if_neg (Nat.lt_irrefl _)]
              unfold repL
              rw [List.take_take, Nat.min_self, List.drop_of_length_le (by rw [List.length_take]; omega), List.append_nil]
            · rw [if_neg (by omega)]
              by_cases q2 : k < j
              · rw [if_pos (by omega), if_pos q2]
              · rw [if_neg (by omega), if_neg q2]
          have hlen2 : ((if k < j then l.take k else repL (l.take k) j j [x]) : List El).length ≤ 900000 := by
            split
            · simp; omega
            · rw [repL_len _ _ (by omega) (by rw [List.length_take]; omega), List.length_take]; simp; omega
          unfold ref09_Insert.l1
          dsimp only
          rw [if_pos (by omega), e1, bnd_some']
          by_cases q : k < l.length
          · rw [if_pos (by omega), idx_of (List.getElem?_eq_getElem q), bnd_some', app_of (by simp only [List.length_cons, List.length_nil]; omega), bnd_some', bnd_some', w64_id ⟨by omega, by omega⟩]
            congr 3
            by_cases q2 : k < j
            · rw [if_pos q2, if_pos (by omega), List.take_succ_eq_append_getElem q]
            · rw [if_neg q2, if_neg (by omega), List.take_succ_eq_append_getElem q]
              unfold repL
              rw [List.take_append_of_le_length (by rw [List.length_take]; omega), List.drop_append_of_le_length (by rw [List.length_take]; omega), ← List.append_assoc]
          · rw [if_neg (by omega), bnd_some', w64_id ⟨by omega, by omega⟩, if_neg (by omega), if_neg (by omega), List.take_of_length_le (by omega), List.take_of_length_le (by omega)])
        (by
          unfold ref09_Insert.l1
          dsimp only
          rw [if_neg (by omega), if_neg (by omega), List.take_of_length_le (by omega)])
      have h' : loop (ref09_Insert.l1 l (j : Int) x) (0, []) = some (repL l j j [x]) := by simpa using hh
      rw [h', bnd_some', Int.toNat_natCast]
theorem rDel (l : List El) (i : Int) (hl : l.length ≤ 800000) : ref09_Delete l i = some (if ¬ (0 ≤ i ∧ i < (l.length : Int)) then (l, false) else (repL l i.toNat (i.toNat + 1) [], true)) := by
  unfold ref09_Delete
  by_cases c1 : i < 0
  · rw [if_pos c1, bnd_some', if_pos rfl, if_pos (by omega)]
  · rw [if_neg c1, bnd_some']
    by_cases c2 : (l.length : Int) ≤ i
    · rw [if_pos (by simpa using c2), if_pos (by omega)]
    · rw [if_neg (by simpa using c2), if_neg (show ¬ ¬ (0 ≤ i ∧ i < (l.length : Int)) by omega)]
      obtain ⟨j, rfl⟩ : ∃ j : Nat, i = j := ⟨i.toNat, by omega⟩
      have hj : j < l.length := by omega
      have hh := loop_nat (f := ref09_Delete.l1 l (j : Int)) (fun k (s : List El) => (k, s)) l.length (fun k => if k ≤ j then l.take k else repL (l.take k) j (j + 1) []) (t := repL l j (j + 1) [])
        (fun k hk => by
          have hlen : ((if k ≤ j then l.take k else repL (l.take k) j (j + 1) []) : List El).length ≤ 900000 := by
            split
            · simp; omega
            · rw [repL_len _ _ (by omega) (by rw [List.length_take]; omega), List.length_take]; simp; omega
          unfold ref09_Delete.l1
          dsimp only
          rw [if_pos (by omega), idx_of (List.getElem?_eq_getElem hk), bnd_some']
          by_cases q : k = j
          · subst q
            rw [if_pos rfl, bnd_some', w64_id ⟨by omega, by omega⟩, if_pos (Nat.le_refl _), if_neg (by omega)]
            congr 3
            unfold repL
            rw [List.take_take, Nat.min_eq_left (by omega), List.drop_of_length_le (by rw [List.length_take]; omega), List.append_nil, List.append_nil]
          · rw [if_neg (by omega), app_of (by simp only [List.length_cons, List.length_nil]; omega), bnd_some', bnd_some', w64_id ⟨by omega, by omega⟩]
            congr 3
            by_cases q2 : k < j
            · rw [if_pos (by omega), if_pos (by omega), List.take_succ_eq_append_getElem hk]
            · rw [if_neg (by omega), if_neg (by omega), List.take_succ_eq_append_getElem hk]
              unfold repL
              rw [List.take_append_of_le_length (by rw [List.length_take]; omega), List.drop_append_of_le_length (by rw [List.length_take]; omega), ← List.append_assoc])
        (by
          unfold ref09_Delete.l1
          dsimp only
          rw [if_neg (by omega), if_neg (by omega), List.take_length])
      have h' : loop (ref09_Delete.l1 l (j : Int)) (0, []) = some (repL l j (j + 1) []) := by simpa using hh
      rw [h', bnd_some', Int.toNat_natCast]
theorem rSet (l : List El) (i : Int) (x : El) (hl : l.length ≤ 800000) : ref09_Set l i x = some (if ¬ (0 ≤ i ∧ i < (l.length : Int)) then (l, false) else (repL l i.toNat (i.toNat + 1) [x], true)) := by
  unfold ref09_Set
  by_cases c1 : i < 0
  · rw [if_pos c1, bnd_some', if_pos rfl, if_pos (by omega)]
  · rw [if_neg c1, bnd_some']
    by_cases c2 : (l.length : Int) ≤ i
    · rw [if_pos (by simpa using c2), if_pos (by omega)]
    · rw [if_neg (by simpa using c2), if_neg (show ¬ ¬ (0 ≤ i ∧ i < (l.length : Int)) by omega)]
      obtain ⟨j, rfl⟩ : ∃ j : Nat, i = j := ⟨i.toNat, by omega⟩
      have hj : j < l.length := by omega
      have hh := loop_nat (f := ref09_Set.l1 l (j : Int) x) (fun k (s : List El) => (k, s)) l.length (fun k => if k ≤ j then l.take k else repL (l.take k) j (j + 1) [x]) (t := repL l j (j + 1) [x])
        (fun k hk => by
          have hlen : ((if k ≤ j then l.take k else repL (l.take k) j (j + 1) [x]) : List El).length ≤ 900000 := by
            split
            · simp; omega
            · rw [repL_len _ _ (by omega) (by rw [List.length_take]; omega), List.length_take]; simp; omega
          unfold ref09_Set.l1
          dsimp only
          rw [if_pos (by omega), idx_of (List.getElem?_eq_getElem hk), bnd_some']
          by_cases q : k = j
          · subst q
            rw [if_pos rfl, bnd_some', app_of (by simp only [List.length_cons, List.length_nil]; omega), bnd_some', w64_id ⟨by omega, by omega⟩, if_pos (Nat.le_refl _), if_neg (by omega)]
            congr 3
            unfold repL
            rw [List.take_take, Nat.min_eq_left (by omega), List.drop_of_length_le (by rw [List.length_take]; omega), List.append_nil]
          · rw [if_neg (by omega), bnd_some', app_of (by simp only [List.length_cons, List.length_nil]; omega), bnd_some', w64_id ⟨by omega, by omega⟩]
            congr 3
            by_cases q2 : k < j
            · rw [if_pos (by omega), if_pos (by omega), List.take_succ_eq_append_getElem hk]
            · rw [if_neg (by omega), if_neg (by omega), List.take_succ_eq_append_getElem hk]
              unfold repL
              rw [List.take_append_of_le_length (by rw [List.length_take]; omega), List.drop_append_of_le_length (by rw [List.length_take]; omega), ← List.append_assoc])
        (by
          unfold ref09_Set.l1
          dsimp only
          rw [if_neg (by omega), if_neg (by omega), List.take_length])
      have h' : loop (ref09_Set.l1 l (j : Int) x) (0, []) = some (repL l j (j + 1) [x]) := by simpa using hh
      rw [h', bnd_some', Int.toNat_natCast]
theorem awake9_eq : law09_awake = some true := by
  obtain ⟨t, t1, t2⟩ := Of_eq [1, 2, 3, 4, 5, 6, 7] (by simp)
  obtain ⟨u, u1, u2⟩ := (Insert_eq t _ t2 (by simp) 7 8).2 (by simp)
  have ur : repL ([1, 2, 3, 4, 5, 6, 7] : List El) (7 : Int).toNat (7 : Int).toNat [8] = [1, 2, 3, 4, 5, 6, 7, 8] := by decide
  rw [ur] at u2
  have hAt := (At_eq u _ u2 (by simp) 7).2 (by simp)
  have hLu := Len_eq u _ u2
  have hLt := Len_eq t _ t2
  unfold law09_awake
  rw [t1, bnd_some', u1, bnd_some']
  rcases t2 with ⟨h0, _⟩ | ⟨h, z, rfl, hr⟩
  · cases h0
  · have hH := Height_eq hr (by simp)
    have hsz := T_size h z _ hr.1
    have hw := hr.2.1
    have h1 : h = 1 := by
      rcases Nat.lt_or_ge h 1 with q | q
      · have : h = 0 := by omega
        subst this
        rw [(leaf_wd hr.1).1] at hw
        simp at hw
      · have := hr.size (by omega)
        rcases Nat.lt_or_ge h 2 with q2 | q2
        · omega
        · have h2 : 3 ^ 2 ≤ 3 ^ h := Nat.pow_le_pow_right (by decide) q2
          simp at this
          omega
    subst h1
    have hk := hr.kids (by omega)
    have hkk := kids_wd (h := 0) hr.1
    have hk2 : z.fKids.length = 2 := by
      have := fo_size (h := 0) (T_size 0) _ _ (T_succ.1 hr.1).2.2
      simp at this
      omega
    have hroot : tree_Tree_int_Root ⟨some (c_tree_Node_int z)⟩ = some (.inr (z.fKids, z.fItems, z.fN)) := by
      unfold tree_Tree_int_Root
      rw [bnd_some']
      dsimp only
      rw [oN, bnd_some']
    rw [hroot, bnd_some']
    dsimp only
    rw [hAt, bnd_some', if_pos (by omega), hH, bnd_some', if_pos (by decide), if_pos rfl, hLu, bnd_some', if_pos (by decide), if_pos rfl, if_pos (by decide), hLt, bnd_some', bnd_some']
    rfl
end Go.Proofs.Ytkmdfaodbiknlaa.S
