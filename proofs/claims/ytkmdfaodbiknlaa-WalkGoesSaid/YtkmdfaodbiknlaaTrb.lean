/- Chapter 9's trees, told plainly: what is done to nodes and trees. -/
import Derived.Test.YtkmdfaodbiknlaaG0
import Derived.Test.YtkmdfaodbiknlaaG2xa
import Derived.Test.YtkmdfaodbiknlaaG4xa
import Derived.Test.YtkmdfaodbiknlaaG5xa
import Derived.Test.YtkmdfaodbiknlaaG6xa
import Derived.Test.YtkmdfaodbiknlaaTra
set_option linter.unusedVariables false
namespace Go.Proofs.Ytkmdfaodbiknlaa.S
open Go Go.Sm
/-- Others in the place of some. -/
def repL {α : Type} (l : List α) (i j : Nat) (w : List α) : List α := l.take i ++ w ++ l.drop j
theorem rep3 {α : Type} (la m lb : List α) {i j : Nat} (w : List α) (h1 : la.length ≤ i) (h2 : i ≤ j) (h3 : j ≤ la.length + m.length) : repL (la ++ m ++ lb) i j w = la ++ repL m (i - la.length) (j - la.length) w ++ lb := by
  have e1 : (la ++ m ++ lb).take i = la ++ m.take (i - la.length) := by
    rw [List.append_assoc, List.take_append, List.take_of_length_le h1, List.take_append_of_le_length (by omega)]
  have e2 : (la ++ m ++ lb).drop j = m.drop (j - la.length) ++ lb := by
    rw [List.append_assoc, List.drop_append, List.drop_of_length_le (by omega), List.nil_append, List.drop_append_of_le_length (by omega)]
  unfold repL
  rw [e1, e2]
  simp
theorem repL_len {α : Type} (l : List α) {i j : Nat} (w : List α) (h1 : i ≤ j) (h2 : j ≤ l.length) : (repL l i j w).length = l.length + w.length - (j - i) := by
  unfold repL
  simp only [List.length_append, List.length_take, List.length_drop]
  omega
theorem growEl (n : Nat) (h : n ≤ 2000000) : slices_Grow_int_int (n : Int) = some [] := by
  unfold slices_Grow_int_int
  rw [if_neg (by omega), w64_id ⟨by omega, by omega⟩]
  by_cases c : (n : Int) - 0 > 0
  · rw [if_pos c, mkg_of ⟨by omega, by omega⟩, bnd_some', bnd_some']
  · rw [if_neg c, bnd_some']
theorem growNP (n : Nat) (h : n ≤ 2000000) : slices_Grow_tree_Node_int_tree_Node_int (n : Int) = some [] := by
  unfold slices_Grow_tree_Node_int_tree_Node_int
  rw [if_neg (by omega), w64_id ⟨by omega, by omega⟩]
  by_cases c : (n : Int) - 0 > 0
  · rw [if_pos c, mkg_of ⟨by omega, by omega⟩, bnd_some', bnd_some']
  · rw [if_neg c, bnd_some']
theorem concatEl (L : List (List El)) (hb : L.flatten.length ≤ 2000000) (hl : L.length ≤ 1000) : slices_Concat_int_int L = some L.flatten :=
  concat_gen L (fun s => rfl) (by decide) (fun s => rfl) growEl hb hl
theorem concatNP (L : List (List NP)) (hb : L.flatten.length ≤ 2000000) (hl : L.length ≤ 1000) : slices_Concat_tree_Node_int_tree_Node_int L = some L.flatten :=
  concat_gen L (fun s => rfl) (by decide) (fun s => rfl) growNP hb hl
theorem spliceEl (l : List El) (i j : Nat) (w : List El) (h1 : i ≤ l.length) (h2 : j ≤ l.length) (h3 : l.length + w.length ≤ 900000) : tree_splice_int l (i : Int) (j : Int) w = some (repL l i j w) := by
  unfold tree_splice_int
  rw [cut_of ⟨by omega, by omega, by omega⟩, bnd_some', cut_of ⟨by omega, by omega, by omega⟩, bnd_some', concatEl _ (by simp; omega) (by simp), bnd_some', Int.toNat_natCast, Int.toNat_natCast, Int.toNat_natCast, List.take_length]
  simp [repL]
theorem spliceNP (l : List NP) (i j : Nat) (w : List NP) (h1 : i ≤ l.length) (h2 : j ≤ l.length) (h3 : l.length + w.length ≤ 900000) : tree_splice_tree_Node_int l (i : Int) (j : Int) w = some (repL l i j w) := by
  unfold tree_splice_tree_Node_int
  rw [cut_of ⟨by omega, by omega, by omega⟩, bnd_some', cut_of ⟨by omega, by omega, by omega⟩, bnd_some', concatNP _ (by simp; omega) (by simp), bnd_some', Int.toNat_natCast, Int.toNat_natCast, Int.toNat_natCast, List.take_length]
  simp [repL]
theorem Fo.rep {lo h : Nat} {xs ys : List NP} {i j : Nat} {la lb m : List El} (ha : Fo lo h (xs.take i) la) (hm : Fo lo h ys m) (hb : Fo lo h (xs.drop j) lb) : Fo lo h (repL xs i j ys) (la ++ m ++ lb) := (ha.app hm).app hb
theorem kids_wd {h : Nat} {z : Nd} {l : List El} (ht : T (h + 1) z l) : wd z = z.fKids.length := by
  unfold wd; rw [ht.1]; rfl
theorem leaf_wd {z : Nd} {l : List El} (ht : T 0 z l) : wd z = l.length ∧ z.fKids = [] ∧ z.fItems = l := by
  rw [show z = ⟨[], l, (l.length : Int)⟩ from ht]; simp [wd]
theorem fo_ne {lo h : Nat} {xs : List NP} {l : List El} (hf : Fo lo h xs l) (hl : l ≠ []) : 0 < xs.length := by
  cases xs with
  | nil => exact absurd hf.nil_inv hl
  | cons => simp
/-- Which kid has a thing. -/
theorem kid_eq {h : Nat} {ks : List NP} {l : List El} (hf : Fo 3 h ks l) (hk : ks.length ≤ 900000) (hl : l.length ≤ 900000) (hne : 0 < ks.length) (i : Nat) (hi : i ≤ l.length) (is : List El) (n : Int) :
    ∃ k z la m lb, tree_Node_int_kid ks is n (i : Int) = some (((k : Nat) : Int), ((i - la.length : Nat) : Int)) ∧ k < ks.length ∧ ks[k]? = some (c_tree_Node_int z) ∧ T h z m ∧ 3 ≤ wd z ∧ wd z ≤ 6 ∧ l = la ++ m ++ lb ∧ Fo 3 h (ks.take k) la ∧ Fo 3 h (ks.drop (k + 1)) lb ∧
      la.length ≤ i ∧ i ≤ la.length + m.length ∧ (i < l.length → i < la.length + m.length) := by
  have key : ∀ (suf pre : List NP) (lp ls : List El), ks = pre ++ suf → 0 < suf.length → l = lp ++ ls → Fo 3 h pre lp → Fo 3 h suf ls → lp.length ≤ i →
      ∃ k z la m lb, loop (tree_Node_int_kid.l1 ks) (((i - lp.length : Nat) : Int), (pre.length : Int)) = some (((i - la.length : Nat) : Int), ((k : Nat) : Int)) ∧ k < ks.length ∧ ks[k]? = some (c_tree_Node_int z) ∧ T h z m ∧ 3 ≤ wd z ∧ wd z ≤ 6 ∧ l = la ++ m ++ lb ∧ Fo 3 h (ks.take k) la ∧ Fo 3 h (ks.drop (k + 1)) lb ∧
        la.length ≤ i ∧ i ≤ la.length + m.length ∧ (i < l.length → i < la.length + m.length) := by
    intro suf
    induction suf with
    | nil => intro pre lp ls _ h0; simp at h0
    | cons x rest ih =>
      intro pre lp ls hks _ hls hp hs hlp
      obtain ⟨z, m, r, rfl, g1, g2, g3, rfl, g5⟩ := hs.cons_inv
      have hlen : ks.length = pre.length + (rest.length + 1) := by rw [hks]; simp
      have hx : ks[pre.length]? = some (c_tree_Node_int z) := by rw [hks]; simp
      have hll : l.length = lp.length + (m.length + r.length) := by rw [hls]; simp
      have hN := T_N g1
      have htake : ks.take pre.length = pre := by rw [hks]; simp
      have hdrop : ks.drop (pre.length + 1) = rest := by rw [hks]; simp
      have fin : i ≤ lp.length + m.length → (i < l.length → i < lp.length + m.length) → tree_Node_int_kid.l1 ks (((i - lp.length : Nat) : Int), (pre.length : Int)) = some (.done (((i - lp.length : Nat) : Int), (pre.length : Int))) →
          ∃ k z la m lb, loop (tree_Node_int_kid.l1 ks) (((i - lp.length : Nat) : Int), (pre.length : Int)) = some (((i - la.length : Nat) : Int), ((k : Nat) : Int)) ∧ k < ks.length ∧ ks[k]? = some (c_tree_Node_int z) ∧ T h z m ∧ 3 ≤ wd z ∧ wd z ≤ 6 ∧ l = la ++ m ++ lb ∧ Fo 3 h (ks.take k) la ∧ Fo 3 h (ks.drop (k + 1)) lb ∧
            la.length ≤ i ∧ i ≤ la.length + m.length ∧ (i < l.length → i < la.length + m.length) := fun f1 f2 f3 =>
        ⟨pre.length, z, lp, m, r, loop_done f3, by omega, hx, g1, g2, g3, by rw [hls]; simp, by rw [htake]; exact hp, by rw [hdrop]; exact g5, hlp, f1, f2⟩
      by_cases c0 : rest.length = 0
      · obtain rfl := List.length_eq_zero_iff.1 c0
        have := g5.nil_inv
        subst this
        simp only [List.length_nil] at hll hlen
        refine fin (by omega) (by omega) ?_
        unfold tree_Node_int_kid.l1
        dsimp only
        rw [w64_id ⟨by omega, by omega⟩, if_neg (by omega), bnd_some', if_neg (by simp)]
      · by_cases c1 : m.length ≤ i - lp.length
        · have hlpm : (lp ++ m).length = lp.length + m.length := List.length_append
          obtain ⟨k, z', la, m', lb, e1, e2⟩ := ih (pre ++ [c_tree_Node_int z]) (lp ++ m) r (by rw [hks]; simp) (by omega) (by rw [hls]; simp) (hp.app (Fo.one g1 g2 g3)) g5 (by omega)
          refine ⟨k, z', la, m', lb, loop_next (s' := (((i - (lp ++ m).length : Nat) : Int), ((pre ++ [c_tree_Node_int z]).length : Int))) ?_ e1, e2⟩
          unfold tree_Node_int_kid.l1
          dsimp only
          rw [w64_id (x := (ks.length : Int) - 1) ⟨by omega, by omega⟩, if_pos (by omega), idx_of hx, bnd_some', oN, bnd_some', bnd_some', hN, if_pos (by simp; omega), bnd_some', oN, bnd_some', hN, w64_id ⟨by omega, by omega⟩, w64_id ⟨by omega, by omega⟩]
          congr 3
          · omega
          · simp
        · refine fin (by omega) (by omega) ?_
          unfold tree_Node_int_kid.l1
          dsimp only
          rw [w64_id ⟨by omega, by omega⟩, if_pos (by omega), idx_of hx, bnd_some', oN, bnd_some', bnd_some', hN, if_neg (by simp; omega)]
  obtain ⟨k, z, la, m, lb, e1, e2⟩ := key ks [] [] l rfl hne rfl Fo.nil hf (by simp)
  refine ⟨k, z, la, m, lb, ?_, e2⟩
  unfold tree_Node_int_kid
  rw [show ((([] : List El).length)) = 0 from rfl, Nat.sub_zero, show ((([] : List NP).length : Nat) : Int) = 0 from rfl] at e1
  rw [e1, bnd_some']
theorem flat_eq (ks : List NP) (is : List El) (n : Int) : tree_Node_int_flat ks is n = some (decide (ks.length = 0)) := by
  unfold tree_Node_int_flat
  congr 1
  rw [Bool.eq_iff_iff]; simp
theorem set_eq : ∀ (h fu : Nat) (z : Nd) (l : List El) (i : Nat) (x : El), h < fu → T h z l → wd z ≤ 6 → i < l.length → l.length ≤ 800000 →
    ∃ z', tree_Node_int_set fu z.fKids z.fItems z.fN (i : Int) x = some (z'.fKids, z'.fItems, z'.fN) ∧ T h z' (repL l i (i + 1) [x]) ∧ wd z' = wd z ∧ z'.fKids.length = z.fKids.length := by
  intro h
  induction h with
  | zero =>
    intro fu z l i x hfu ht hw hi hl
    obtain ⟨fu, rfl⟩ : ∃ n, fu = n + 1 := ⟨fu - 1, by omega⟩
    obtain ⟨q1, q2, q3⟩ := leaf_wd ht
    have hr := repL_len l (i := i) (j := i + 1) [x] (by omega) (by omega)
    refine ⟨⟨[], repL l i (i + 1) [x], ((repL l i (i + 1) [x]).length : Int)⟩, ?_, rfl, ?_, by rw [q2]⟩
    · show tree_Node_int_set.body (tree_Node_int_set fu) z.fKids z.fItems z.fN (i : Int) x = _
      unfold tree_Node_int_set.body tree_leaf_int
      rw [flat_eq, bnd_some', q2, if_pos (by simp), q3, w64_id ⟨by omega, by omega⟩, show (i : Int) + 1 = ((i + 1 : Nat) : Int) by omega, spliceEl _ _ _ _ (by omega) (by omega) (by simp; omega), bnd_some', bnd_some']
    · rw [q1]; simp only [wd, List.length_nil]; simp at hr; omega
  | succ h ih =>
    intro fu z l i x hfu ht hw hi hl
    obtain ⟨fu, rfl⟩ : ∃ n, fu = n + 1 := ⟨fu - 1, by omega⟩
    have hkw := kids_wd ht
    obtain ⟨t1, t2, t3⟩ := T_succ.1 ht
    have hne : 0 < z.fKids.length := fo_ne t3 (fun e => by rw [e] at hi; simp at hi)
    obtain ⟨k, w, la, m, lb, k1, k2, k3, k4, k5, k6, k7, k8, k9, k10, k11, k12⟩ := kid_eq t3 (by omega) (by omega) hne i (by omega) z.fItems z.fN
    have hm : la.length + m.length ≤ l.length := by rw [k7]; simp
    have k12' := k12 hi
    obtain ⟨w', w1, w2, w3, w4⟩ := ih fu w m (i - la.length) x (by omega) k4 k6 (by omega) (by omega)
    have hrep : repL l i (i + 1) [x] = la ++ repL m (i - la.length) (i - la.length + 1) [x] ++ lb := by
      rw [k7, rep3 la m lb [x] k10 (by omega) (by omega), show i + 1 - la.length = i - la.length + 1 by omega]
    have hfo : Fo 3 h (repL z.fKids k (k + 1) [c_tree_Node_int w']) (repL l i (i + 1) [x]) := by
      rw [hrep]; exact Fo.rep k8 (Fo.one w2 (by omega) (by omega)) k9
    have hrl := repL_len l (i := i) (j := i + 1) [x] (by omega) (by omega)
    have hkl := repL_len z.fKids (i := k) (j := k + 1) [c_tree_Node_int w'] (by omega) (by omega)
    simp only [List.length_cons, List.length_nil] at hrl hkl
    refine ⟨⟨repL z.fKids k (k + 1) [c_tree_Node_int w'], [], ((repL l i (i + 1) [x]).length : Int)⟩, ?_, T_succ.2 ⟨rfl, rfl, hfo⟩, ?_, by dsimp only; omega⟩
    · show tree_Node_int_set.body (tree_Node_int_set fu) z.fKids z.fItems z.fN (i : Int) x = _
      unfold tree_Node_int_set.body
      rw [flat_eq, bnd_some', if_neg (by simp; intro e; rw [e] at hne; simp at hne), k1, bnd_some']
      dsimp only
      rw [idx_of k3, bnd_some', oN, bnd_some', w1, bnd_some', w64_id ⟨by omega, by omega⟩, show (k : Int) + 1 = ((k + 1 : Nat) : Int) by omega, spliceNP _ _ _ _ (by omega) (by omega) (by simp; omega), bnd_some', inner_eq hfo (by omega) (by omega), bnd_some']
    · rw [hkw]; simp only [wd, List.length_nil]; omega
theorem put_eq : ∀ (h fu : Nat) (z : Nd) (l : List El) (i : Nat) (x : El), h < fu → T h z l → wd z ≤ 6 → i ≤ l.length → l.length ≤ 800000 → (0 < h → 0 < z.fKids.length) →
    ∃ xs, tree_Node_int_put fu z.fKids z.fItems z.fN (i : Int) x = some xs ∧ Fo 0 h xs (repL l i i [x]) ∧ 1 ≤ xs.length ∧ xs.length ≤ 2 ∧ (xs.length = 2 → Fo 3 h xs (repL l i i [x])) ∧ (3 ≤ wd z → Fo 3 h xs (repL l i i [x])) := by
  intro h
  induction h with
  | zero =>
    intro fu z l i x hfu ht hw hi hl _
    obtain ⟨fu, rfl⟩ : ∃ n, fu = n + 1 := ⟨fu - 1, by omega⟩
    obtain ⟨q1, q2, q3⟩ := leaf_wd ht
    have hr := repL_len l (i := i) (j := i) [x] (by omega) (by omega)
    simp only [List.length_cons, List.length_nil] at hr
    obtain ⟨xs, x1, x2, x3⟩ := leaves_eq (repL l i i [x]) (by omega)
    refine ⟨xs, ?_, x3 0 (by omega), by omega, by omega, fun _ => x3 3 (by omega), fun _ => x3 3 (by omega)⟩
    show tree_Node_int_put.body (tree_Node_int_put fu) z.fKids z.fItems z.fN (i : Int) x = _
    unfold tree_Node_int_put.body
    rw [flat_eq, bnd_some', q2, if_pos (by simp), q3, spliceEl _ _ _ _ (by omega) (by omega) (by simp; omega), bnd_some', x1, bnd_some']
  | succ h ih =>
    intro fu z l i x hfu ht hw hi hl hkn
    obtain ⟨fu, rfl⟩ : ∃ n, fu = n + 1 := ⟨fu - 1, by omega⟩
    have hkw := kids_wd ht
    obtain ⟨t1, t2, t3⟩ := T_succ.1 ht
    have hne : 0 < z.fKids.length := hkn (by omega)
    obtain ⟨k, w, la, m, lb, k1, k2, k3, k4, k5, k6, k7, k8, k9, k10, k11, k12⟩ := kid_eq t3 (by omega) (by omega) hne i hi z.fItems z.fN
    have hm : la.length + m.length ≤ l.length := by rw [k7]; simp
    obtain ⟨xs, x1, x2, x3, x4, x5, x6⟩ := ih fu w m (i - la.length) x (by omega) k4 k6 (by omega) (by omega) (fun h0 => by
      obtain ⟨h, rfl⟩ : ∃ n, h = n + 1 := ⟨h - 1, by omega⟩
      have := kids_wd k4; omega)
    have hrep : repL l i i [x] = la ++ repL m (i - la.length) (i - la.length) [x] ++ lb := by
      rw [k7, rep3 la m lb [x] k10 (by omega) (by omega)]
    have hfo : Fo 3 h (repL z.fKids k (k + 1) xs) (repL l i i [x]) := by
      rw [hrep]; exact Fo.rep k8 (x6 k5) k9
    have hrl := repL_len l (i := i) (j := i) [x] (by omega) (by omega)
    have hkl := repL_len z.fKids (i := k) (j := k + 1) xs (by omega) (by omega)
    simp only [List.length_cons, List.length_nil] at hrl
    obtain ⟨ys, y1, y2, y3⟩ := inners_eq hfo (by omega) (by omega)
    refine ⟨ys, ?_, y3 0 (by omega), by omega, by omega, fun _ => y3 3 (by omega), fun _ => y3 3 (by omega)⟩
    show tree_Node_int_put.body (tree_Node_int_put fu) z.fKids z.fItems z.fN (i : Int) x = _
    unfold tree_Node_int_put.body
    rw [flat_eq, bnd_some', if_neg (by simp; intro e; rw [e] at hne; simp at hne), k1, bnd_some']
    dsimp only
    rw [idx_of k3, bnd_some', oN, bnd_some', x1, bnd_some', w64_id ⟨by omega, by omega⟩, show (k : Int) + 1 = ((k + 1 : Nat) : Int) by omega, spliceNP _ _ _ _ (by omega) (by omega) (by omega), bnd_some', y1, bnd_some']
theorem glue_eq {h : Nat} {z1 z2 : Nd} {l1 l2 : List El} (h1 : T h z1 l1) (h2 : T h z2 l2) (w1 : wd z1 ≤ 6) (w2 : wd z2 ≤ 6) (w3 : 1 ≤ wd z1 + wd z2) (hl : l1.length + l2.length ≤ 800000) :
    ∃ xs, tree_glue_int z1.fKids z1.fItems z1.fN z2.fKids z2.fItems z2.fN = some xs ∧ xs.length = (wd z1 + wd z2 + 5) / 6 ∧ ∀ c, c * ((wd z1 + wd z2 + 5) / 6) ≤ wd z1 + wd z2 → Fo c h xs (l1 ++ l2) := by
  unfold tree_glue_int
  rw [flat_eq, flat_eq]
  cases h with
  | zero =>
    obtain ⟨a1, a2, a3⟩ := leaf_wd h1
    obtain ⟨b1, b2, b3⟩ := leaf_wd h2
    obtain ⟨xs, x1, x2, x3⟩ := leaves_eq (l1 ++ l2) (by rw [List.length_append]; omega)
    rw [List.length_append] at x2 x3
    refine ⟨xs, ?_, by rw [x2, a1, b1], fun c hc => x3 c (by rw [← a1, ← b1]; exact hc)⟩
    rw [a2, b2, a3, b3, bnd_some', if_pos (by simp), bnd_some', bnd_some', if_pos (by simp), concatEl _ (by simp; omega) (by simp), bnd_some', show ([l1, l2] : List (List El)).flatten = l1 ++ l2 by simp, x1, bnd_some']
  | succ h =>
    have a1 := kids_wd h1
    have b1 := kids_wd h2
    obtain ⟨_, _, a3⟩ := T_succ.1 h1
    obtain ⟨_, _, b3⟩ := T_succ.1 h2
    obtain ⟨xs, x1, x2, x3⟩ := inners_eq (a3.app b3) (by rw [List.length_append]; omega) (by rw [List.length_append]; omega)
    rw [List.length_append] at x2 x3
    refine ⟨xs, ?_, by rw [x2, a1, b1], fun c hc => x3 c (by rw [← a1, ← b1]; exact hc)⟩
    have ht : (bnd (some (decide (z1.fKids.length = 0))) fun x2 => if x2 = true then bnd (some (decide (z2.fKids.length = 0))) fun x4 => some x4 else some false : Option Bool) = some false := by
      rw [bnd_some']
      by_cases c : z1.fKids.length = 0
      · rw [if_pos (by simpa using c), bnd_some', decide_eq_false (by omega)]
      · rw [if_neg (by simpa using c)]
    rw [ht, bnd_some', if_neg (by simp), concatNP _ (by simp; omega) (by simp), bnd_some', show ([z1.fKids, z2.fKids] : List (List NP)).flatten = z1.fKids ++ z2.fKids by simp, x1, bnd_some']
theorem width_eq {z : Nd} (h : wd z ≤ 1000) : tree_Node_int_width z.fKids z.fItems z.fN = some (wd z : Int) := by
  unfold tree_Node_int_width
  unfold wd at h ⊢
  rw [w64_id ⟨by omega, by omega⟩]
  simp
theorem take_eq : ∀ (h fu : Nat) (z : Nd) (l : List El) (i : Nat), h < fu → T h z l → wd z ≤ 6 → i < l.length → l.length ≤ 800000 → (0 < h → 2 ≤ z.fKids.length) →
    ∃ z', tree_Node_int_take fu z.fKids z.fItems z.fN (i : Int) = some (z'.fKids, z'.fItems, z'.fN) ∧ T h z' (repL l i (i + 1) []) ∧ wd z ≤ wd z' + 1 ∧ wd z' ≤ wd z := by
  intro h
  induction h with
  | zero =>
    intro fu z l i hfu ht hw hi hl _
    obtain ⟨fu, rfl⟩ : ∃ n, fu = n + 1 := ⟨fu - 1, by omega⟩
    obtain ⟨q1, q2, q3⟩ := leaf_wd ht
    have hr := repL_len l (i := i) (j := i + 1) [] (by omega) (by omega)
    simp only [List.length_nil] at hr
    refine ⟨⟨[], repL l i (i + 1) [], ((repL l i (i + 1) []).length : Int)⟩, ?_, rfl, ?_, ?_⟩
    · show tree_Node_int_take.body (tree_Node_int_take fu) z.fKids z.fItems z.fN (i : Int) = _
      unfold tree_Node_int_take.body tree_leaf_int
      rw [flat_eq, bnd_some', q2, if_pos (by simp), q3, w64_id ⟨by omega, by omega⟩, show (i : Int) + 1 = ((i + 1 : Nat) : Int) by omega, spliceEl _ _ _ _ (by omega) (by omega) (by simp; omega), bnd_some', bnd_some']
    · rw [q1]; simp only [wd, List.length_nil]; omega
    · rw [q1]; simp only [wd, List.length_nil]; omega
  | succ h ih =>
    intro fu z l i hfu ht hw hi hl hkn
    obtain ⟨fu, rfl⟩ : ∃ n, fu = n + 1 := ⟨fu - 1, by omega⟩
    have hkw := kids_wd ht
    obtain ⟨t1, t2, t3⟩ := T_succ.1 ht
    have hne := hkn (by omega)
    obtain ⟨k, w, la, m, lb, k1, k2, k3, k4, k5, k6, k7, k8, k9, k10, k11, k12⟩ := kid_eq t3 (by omega) (by omega) (by omega) i (by omega) z.fItems z.fN
    have hm : l.length = la.length + m.length + lb.length := by rw [k7]; simp only [List.length_append]
    have k12' := k12 hi
    obtain ⟨w', w1, w2, w3, w4⟩ := ih fu w m (i - la.length) (by omega) k4 k6 (by omega) (by omega) (fun h0 => by
      obtain ⟨h, rfl⟩ : ∃ n, h = n + 1 := ⟨h - 1, by omega⟩
      have := kids_wd k4; omega)
    have hrep : repL l i (i + 1) [] = la ++ repL m (i - la.length) (i - la.length + 1) [] ++ lb := by
      rw [k7, rep3 la m lb [] k10 (by omega) (by omega), show i + 1 - la.length = i - la.length + 1 by omega]
    have hrl := repL_len l (i := i) (j := i + 1) [] (by omega) (by omega)
    have hrm := repL_len m (i := i - la.length) (j := i - la.length + 1) [] (by omega) (by omega)
    simp only [List.length_nil] at hrl hrm
    have fin : ∀ (ks : List NP), Fo 3 h ks (repL l i (i + 1) []) → ks.length ≤ 1000 → z.fKids.length ≤ ks.length + 1 → ks.length ≤ z.fKids.length →
        ∃ z', (bnd (tree_inner_int ks) fun x12 => some (x12.1, x12.2.1, x12.2.2)) = some (z'.fKids, z'.fItems, z'.fN) ∧ T (h + 1) z' (repL l i (i + 1) []) ∧ wd z ≤ wd z' + 1 ∧ wd z' ≤ wd z := fun ks hfo f1 f2 f3 => by
      refine ⟨⟨ks, [], ((repL l i (i + 1) []).length : Int)⟩, ?_, T_succ.2 ⟨rfl, rfl, hfo⟩, ?_, ?_⟩
      · rw [inner_eq hfo (by omega) (by omega), bnd_some']
      · rw [hkw]; simp only [wd, List.length_nil]; omega
      · rw [hkw]; simp only [wd, List.length_nil]; omega
    show ∃ z', tree_Node_int_take.body (tree_Node_int_take fu) z.fKids z.fItems z.fN (i : Int) = _ ∧ _
    unfold tree_Node_int_take.body
    rw [flat_eq, bnd_some', if_neg (by simp; intro e; rw [e] at hne; simp at hne), k1, bnd_some']
    dsimp only
    rw [idx_of k3, bnd_some', oN, bnd_some', w1, bnd_some']
    dsimp only
    rw [width_eq (by omega), bnd_some']
    by_cases c3 : 3 ≤ wd w'
    · have hkl := repL_len z.fKids (i := k) (j := k + 1) [c_tree_Node_int w'] (by omega) (by omega)
      simp only [List.length_cons, List.length_nil] at hkl
      rw [if_pos (by omega), w64_id ⟨by omega, by omega⟩, show (k : Int) + 1 = ((k + 1 : Nat) : Int) by omega, spliceNP _ _ _ _ (by omega) (by omega) (by simp; omega), bnd_some']
      refine fin (repL z.fKids k (k + 1) [c_tree_Node_int w']) ?_ (by omega) (by omega) (by omega)
      rw [hrep]; exact Fo.rep k8 (Fo.one w2 c3 (by omega)) k9
    · rw [if_neg (by omega)]
      by_cases ck : 0 < k
      · obtain ⟨k, rfl⟩ : ∃ n, k = n + 1 := ⟨k - 1, by omega⟩
        rw [List.take_succ_eq_append_getElem (show k < z.fKids.length by omega)] at k8
        obtain ⟨la1, la2, rfl, u1, u2⟩ := k8.split
        obtain ⟨u, m2, r2, u3, u4, u5, u6, u7, u8⟩ := u2.cons_inv
        have := u8.nil_inv
        subst this
        rw [List.append_nil] at u7
        subst u7
        have hku : z.fKids[k]? = some (c_tree_Node_int u) := by rw [List.getElem?_eq_getElem (show k < z.fKids.length by omega), u3]
        simp only [List.length_append] at hm
        obtain ⟨xs, x1, x2, x3⟩ := glue_eq u4 w2 u6 (by omega) (by omega) (by rw [hrm]; omega)
        have hkl := repL_len z.fKids (i := k) (j := k + 1 + 1) xs (by omega) (by omega)
        rw [if_pos (by omega), w64_id (x := ((k + 1 : Nat) : Int) - 1) ⟨by omega, by omega⟩, show ((k + 1 : Nat) : Int) - 1 = (k : Int) by omega, idx_of hku, bnd_some', oN, bnd_some', x1, bnd_some', w64_id ⟨by omega, by omega⟩, show ((k + 1 : Nat) : Int) + 1 = ((k + 1 + 1 : Nat) : Int) by omega, spliceNP _ _ _ _ (by omega) (by omega) (by omega), bnd_some']
        refine fin _ ?_ (by omega) (by omega) (by omega)
        rw [hrep]
        have := Fo.rep u1 (x3 3 (by omega)) k9
        simpa using this
      · have : k = 0 := by omega
        subst this
        have hd1 : z.fKids.drop 1 = z.fKids[1] :: z.fKids.drop 2 := List.drop_eq_getElem_cons (show 1 < z.fKids.length by omega)
        rw [show (0 : Nat) + 1 = 1 from rfl, hd1] at k9
        obtain ⟨u, m2, r2, u3, u4, u5, u6, u7, u8⟩ := k9.cons_inv
        subst u7
        have hla := k8.nil_inv
        subst hla
        have hku : z.fKids[1]? = some (c_tree_Node_int u) := by rw [List.getElem?_eq_getElem (show 1 < z.fKids.length by omega), u3]
        simp only [List.length_append, List.length_nil] at hm
        obtain ⟨xs, x1, x2, x3⟩ := glue_eq w2 u4 (by omega) u6 (by omega) (by rw [hrm]; omega)
        have hkl := repL_len z.fKids (i := 0) (j := 2) xs (by omega) (by omega)
        rw [if_neg (by omega), show idx z.fKids 1 = some (c_tree_Node_int u) from idx_of hku, bnd_some', oN, bnd_some', x1, bnd_some', show tree_splice_tree_Node_int z.fKids 0 2 xs = some (repL z.fKids 0 2 xs) from spliceNP _ 0 2 _ (by omega) (by omega) (by omega), bnd_some']
        refine fin _ ?_ (by omega) (by omega) (by omega)
        rw [hrep]
        have := Fo.rep (i := 0) (xs := z.fKids) Fo.nil (x3 3 (by omega)) u8
        simpa using this
end Go.Proofs.Ytkmdfaodbiknlaa.S
