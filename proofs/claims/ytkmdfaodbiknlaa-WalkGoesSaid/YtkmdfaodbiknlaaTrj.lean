/- The law TreeJoins. -/
import Derived.Test.YtkmdfaodbiknlaaG0
import Derived.Test.YtkmdfaodbiknlaaG10xa
import Derived.Test.YtkmdfaodbiknlaaG11xa
import Derived.Test.YtkmdfaodbiknlaaG13xa
import Derived.Test.YtkmdfaodbiknlaaG2xa
import Derived.Test.YtkmdfaodbiknlaaTrd
set_option linter.unusedVariables false
namespace Go.Proofs.Ytkmdfaodbiknlaa.S
open Go Go.Sm
theorem last_kid {h : Nat} {ks : List NP} {l : List El} (hf : Fo 3 h ks l) (hne : 0 < ks.length) : ∃ w m r, ks[ks.length - 1]? = some (c_tree_Node_int w) ∧ T h w m ∧ 3 ≤ wd w ∧ wd w ≤ 6 ∧ l = r ++ m ∧ Fo 3 h (ks.take (ks.length - 1)) r := by
  obtain ⟨z, la, m, lb, g1, g2, g3, g4, g5, g6, g7⟩ := hf.at_ (k := ks.length - 1) (by omega)
  have : ks.drop (ks.length - 1 + 1) = [] := List.drop_of_length_le (by omega)
  rw [this] at g7
  have := g7.nil_inv
  subst this
  rw [List.append_nil] at g5
  exact ⟨z, m, la, g1, g2, g3, g4, g5, g6⟩
theorem joined_eq : ∀ (fu h g : Nat) (z1 z2 : Nd) (l1 l2 : List El), h + g < fu → h + g ≤ 1000 → T h z1 l1 → T g z2 l2 → wd z1 ≤ 6 → wd z2 ≤ 6 → 1 ≤ wd z1 → 1 ≤ wd z2 → l1.length + l2.length ≤ 800000 →
    ∃ xs, tree_joined_int fu z1.fKids z1.fItems z1.fN z2.fKids z2.fItems z2.fN ((h : Int) + 1) ((g : Int) + 1) = some xs ∧ Fo 0 (max h g) xs (l1 ++ l2) ∧ xs.length ≤ 2 ∧ 1 ≤ xs.length ∧ (xs.length = 2 → Fo 3 (max h g) xs (l1 ++ l2)) ∧
      ((g < h ∧ 3 ≤ wd z1) ∨ (h < g ∧ 3 ≤ wd z2) ∨ (h = g ∧ 3 ≤ wd z1 + wd z2) → Fo 3 (max h g) xs (l1 ++ l2)) := by
  intro fu
  induction fu with
  | zero => intro h g z1 z2 l1 l2 hfu; omega
  | succ fu ih =>
    intro h g z1 z2 l1 l2 hfu hb h1 h2 w1 w2 p1 p2 hl
    show ∃ xs, tree_joined_int.body (tree_joined_int fu) z1.fKids z1.fItems z1.fN z2.fKids z2.fItems z2.fN ((h : Int) + 1) ((g : Int) + 1) = some xs ∧ _
    unfold tree_joined_int.body
    rcases Nat.lt_trichotomy g h with c | c | c
    · obtain ⟨h, rfl⟩ : ∃ n, h = n + 1 := ⟨h - 1, by omega⟩
      have hkw := kids_wd h1
      obtain ⟨_, _, t3⟩ := T_succ.1 h1
      obtain ⟨w, m, r, k1, k2, k3, k4, rfl, k6⟩ := last_kid t3 (by omega)
      rw [List.length_append] at hl
      obtain ⟨xs, x1, x2, x3, x4, x5, x6⟩ := ih h g w z2 m l2 (by omega) (by omega) k2 h2 k4 w2 (by omega) p2 (by omega)
      have hmax : max h g = h := by omega
      rw [hmax] at x6
      have hx := x6 (by omega)
      have hrl := repL_len z1.fKids (i := z1.fKids.length - 1) (j := z1.fKids.length) xs (by omega) (by omega)
      have hfo : Fo 3 h (repL z1.fKids (z1.fKids.length - 1) z1.fKids.length xs) (r ++ m ++ l2) := by
        have := Fo.rep (i := z1.fKids.length - 1) (j := z1.fKids.length) (xs := z1.fKids) k6 hx (lb := []) (by rw [List.drop_length]; exact Fo.nil)
        simpa using this
      obtain ⟨ys, y1, y2, y3⟩ := inners_eq hfo (by omega) (by simp only [List.length_append]; omega)
      refine ⟨ys, ?_, by rw [show max (h + 1) g = h + 1 by omega]; exact y3 0 (by omega), by omega, by omega, fun e => by rw [show max (h + 1) g = h + 1 by omega]; exact y3 3 (by omega), fun e => by rw [show max (h + 1) g = h + 1 by omega]; exact y3 3 (by omega)⟩
      rw [if_pos (by omega), w64_id (x := (z1.fKids.length : Int) - 1) ⟨by omega, by omega⟩, w64_id (x := ((h + 1 : Nat) : Int) + 1 - 1) ⟨by omega, by omega⟩, show (z1.fKids.length : Int) - 1 = ((z1.fKids.length - 1 : Nat) : Int) by omega, idx_of k1, bnd_some', oN, bnd_some', show ((h + 1 : Nat) : Int) + 1 - 1 = (h : Int) + 1 by omega, x1, bnd_some', w64_id ⟨by omega, by omega⟩, show ((z1.fKids.length - 1 : Nat) : Int) + 1 = ((z1.fKids.length : Nat) : Int) by omega, spliceNP _ _ _ _ (by omega) (by omega) (by omega), bnd_some', y1, bnd_some']
    · subst c
      obtain ⟨xs, x1, x2, x3⟩ := glue_eq h1 h2 w1 w2 (by omega) hl
      refine ⟨xs, ?_, by rw [Nat.max_self]; exact x3 0 (by omega), by omega, by omega, fun e => by rw [Nat.max_self]; exact x3 3 (by omega), fun e => by rw [Nat.max_self]; exact x3 3 (by omega)⟩
      rw [if_neg (by omega), if_neg (by omega), x1, bnd_some']
    · obtain ⟨g, rfl⟩ : ∃ n, g = n + 1 := ⟨g - 1, by omega⟩
      have hkw := kids_wd h2
      obtain ⟨_, _, t3⟩ := T_succ.1 h2
      obtain ⟨w, m, r, k1, k2, k3, k4, rfl, k6⟩ := first_kid t3 (by omega)
      rw [List.length_append] at hl
      obtain ⟨xs, x1, x2, x3, x4, x5, x6⟩ := ih h g z1 w l1 m (by omega) (by omega) h1 k2 w1 k4 p1 (by omega) (by omega)
      have hmax : max h g = g := by omega
      rw [hmax] at x6
      have hx := x6 (by omega)
      have hrl := repL_len z2.fKids (i := 0) (j := 1) xs (by omega) (by omega)
      have hfo : Fo 3 g (repL z2.fKids 0 1 xs) (l1 ++ (m ++ r)) := by
        have := Fo.rep (i := 0) (j := 1) (xs := z2.fKids) Fo.nil hx k6
        simpa using this
      obtain ⟨ys, y1, y2, y3⟩ := inners_eq hfo (by omega) (by simp only [List.length_append]; omega)
      refine ⟨ys, ?_, by rw [show max h (g + 1) = g + 1 by omega]; exact y3 0 (by omega), by omega, by omega, fun e => by rw [show max h (g + 1) = g + 1 by omega]; exact y3 3 (by omega), fun e => by rw [show max h (g + 1) = g + 1 by omega]; exact y3 3 (by omega)⟩
      rw [if_neg (by omega), if_pos (by omega), show idx z2.fKids 0 = some (c_tree_Node_int w) from idx_of k1, bnd_some', oN, bnd_some', w64_id (x := ((g + 1 : Nat) : Int) + 1 - 1) ⟨by omega, by omega⟩, show ((g + 1 : Nat) : Int) + 1 - 1 = (g : Int) + 1 by omega, x1, bnd_some', show tree_splice_tree_Node_int z2.fKids 0 1 xs = some (repL z2.fKids 0 1 xs) from spliceNP _ 0 1 _ (by omega) (by omega) (by omega), bnd_some', y1, bnd_some']
theorem Join_eq (t u : tree_Tree_int) (l m : List El) (ht : IsT t l) (hu : IsT u m) (hl : l.length + m.length ≤ 800000) : ∃ r, tree_Join_int t u = some r ∧ IsT r (l ++ m) := by
  unfold tree_Join_int
  rcases ht with ⟨rfl, rfl⟩ | ⟨h, z, rfl, hr⟩
  · exact ⟨u, rfl, by simpa using hu⟩
  · rw [bnd_some']
    dsimp only
    rw [oN, bnd_some', bnd_some']
    rcases hu with ⟨rfl, rfl⟩ | ⟨g, y, rfl, hq⟩
    · exact ⟨_, rfl, .inr ⟨h, z, rfl, by simpa using hr⟩⟩
    · have l1 := hr.low (by omega)
      have l2 := hq.low (by omega)
      obtain ⟨xs, x1, x2, x3, x4, x5, x6⟩ := joined_eq 64 h g z y l m (by omega) (by omega) hr.1 hq.1 hr.2.1 hq.2.1 hr.wd_pos.1 hq.wd_pos.1 hl
      obtain ⟨r, r1, r2⟩ := above_eq (h := max h g) (xs := xs) ⟨x2, by
        by_cases c : xs.length = 2
        · exact .inr (x5 c)
        · exact .inl (by omega)⟩ (by omega) (by rw [List.length_append]; omega)
      dsimp only
      rw [oN, bnd_some', Height_eq hr (by omega), bnd_some', Height_eq hq (by omega), bnd_some', x1, bnd_some', r1, bnd_some']
      exact ⟨r, rfl, r2⟩
theorem split_eq : ∀ (h fu : Nat) (z : Nd) (l : List El) (i : Nat), h < fu → T h z l → wd z ≤ 6 → i ≤ l.length → l.length ≤ 800000 → (0 < h → 0 < z.fKids.length) →
    ∃ a b, tree_split_int fu z.fKids z.fItems z.fN (i : Int) = some (a, b) ∧ IsT a (l.take i) ∧ IsT b (l.drop i) := by
  intro h
  induction h with
  | zero =>
    intro fu z l i hfu ht hw hi hl _
    obtain ⟨fu, rfl⟩ : ∃ n, fu = n + 1 := ⟨fu - 1, by omega⟩
    obtain ⟨q1, q2, q3⟩ := leaf_wd ht
    obtain ⟨a, a1, a2⟩ := Of_eq (l.take i) (by simp; omega)
    obtain ⟨b, b1, b2⟩ := Of_eq (l.drop i) (by simp; omega)
    refine ⟨a, b, ?_, a2, b2⟩
    show tree_split_int.body (tree_split_int fu) z.fKids z.fItems z.fN (i : Int) = _
    unfold tree_split_int.body
    rw [flat_eq, bnd_some', q2, if_pos (by simp), q3, cut_of ⟨by omega, by omega, by omega⟩, bnd_some', Int.toNat_natCast, show ((0 : Int)).toNat = 0 from rfl, List.drop_zero, a1, bnd_some', cut_of ⟨by omega, by omega, by omega⟩, bnd_some', Int.toNat_natCast, Int.toNat_natCast, List.take_length, b1, bnd_some']
  | succ h ih =>
    intro fu z l i hfu ht hw hi hl hkn
    obtain ⟨fu, rfl⟩ : ∃ n, fu = n + 1 := ⟨fu - 1, by omega⟩
    have hkw := kids_wd ht
    obtain ⟨t1, t2, t3⟩ := T_succ.1 ht
    have hne := hkn (by omega)
    obtain ⟨k, w, la, m, lb, k1, k2, k3, k4, k5, k6, k7, k8, k9, k10, k11, k12⟩ := kid_eq t3 (by omega) (by omega) hne i hi z.fItems z.fN
    have hm : l.length = la.length + m.length + lb.length := by rw [k7]; simp only [List.length_append]
    obtain ⟨a, b, s1, s2, s3⟩ := ih fu w m (i - la.length) (by omega) k4 k6 (by omega) (by omega) (fun h0 => by
      obtain ⟨h, rfl⟩ : ∃ n, h = n + 1 := ⟨h - 1, by omega⟩
      have := kids_wd k4; omega)
    obtain ⟨ta, ta1, ta2⟩ := above_eq (h := h) (xs := z.fKids.take k) ⟨k8.mono (by omega), .inr k8⟩ (by simp; omega) (by omega)
    obtain ⟨tb, tb1, tb2⟩ := above_eq (h := h) (xs := z.fKids.drop (k + 1)) ⟨k9.mono (by omega), .inr k9⟩ (by simp; omega) (by omega)
    obtain ⟨ja, ja1, ja2⟩ := Join_eq ta a la (m.take (i - la.length)) ta2 s2 (by simp; omega)
    obtain ⟨jb, jb1, jb2⟩ := Join_eq b tb (m.drop (i - la.length)) lb s3 tb2 (by simp; omega)
    have e1 : l.take i = la ++ m.take (i - la.length) := by
      rw [k7, List.append_assoc, List.take_append, List.take_of_length_le k10, List.take_append_of_le_length (by omega)]
    have e2 : l.drop i = m.drop (i - la.length) ++ lb := by
      rw [k7, List.append_assoc, List.drop_append, List.drop_of_length_le (by omega), List.nil_append, List.drop_append_of_le_length (by omega)]
    refine ⟨ja, jb, ?_, by rw [e1]; exact ja2, by rw [e2]; exact jb2⟩
    show tree_split_int.body (tree_split_int fu) z.fKids z.fItems z.fN (i : Int) = _
    unfold tree_split_int.body
    rw [flat_eq, bnd_some', if_neg (by simp; intro e; rw [e] at hne; simp at hne), k1, bnd_some']
    dsimp only
    rw [idx_of k3, bnd_some', oN, bnd_some', s1, bnd_some', cut_of ⟨by omega, by omega, by omega⟩, bnd_some', Int.toNat_natCast, show ((0 : Int)).toNat = 0 from rfl, List.drop_zero, ta1, bnd_some']
    dsimp only
    rw [ja1, bnd_some', w64_id ⟨by omega, by omega⟩, cut_of ⟨by omega, by omega, by omega⟩, bnd_some', Int.toNat_natCast, List.take_length, show ((k : Int) + 1).toNat = k + 1 by omega, tb1, bnd_some', jb1, bnd_some']
theorem Split_eq (t : tree_Tree_int) (l : List El) (ht : IsT t l) (hl : l.length ≤ 800000) (i : Int) : ∃ a b, tree_Tree_int_Split t i = some (a, b) ∧ IsT a (l.take i.toNat) ∧ IsT b (l.drop i.toNat) := by
  unfold tree_Tree_int_Split
  rcases ht with ⟨rfl, rfl⟩ | ⟨h, z, rfl, hr⟩
  · dsimp only
    by_cases c : i ≤ 0
    · rw [if_pos c, bnd_some', if_pos rfl]
      exact ⟨_, _, rfl, .inl ⟨by simp, rfl⟩, .inl ⟨by simp, rfl⟩⟩
    · rw [if_neg c, bnd_some']
      dsimp only
      rw [bnd_some', if_pos rfl]
      exact ⟨_, _, rfl, .inl ⟨by simp, rfl⟩, .inl ⟨by simp, rfl⟩⟩
  · have ht : IsT ⟨some (c_tree_Node_int z)⟩ l := .inr ⟨h, z, rfl, hr⟩
    dsimp only
    by_cases c : i ≤ 0
    · rw [if_pos c, bnd_some', if_pos rfl, show i.toNat = 0 by omega]
      exact ⟨_, _, rfl, .inl ⟨rfl, rfl⟩, ht⟩
    · rw [if_neg c, bnd_some']
      dsimp only
      rw [oN, bnd_some', bnd_some', if_neg (by simp), Len_eq _ l ht, bnd_some']
      by_cases c2 : i ≥ (l.length : Int)
      · rw [if_pos c2]
        exact ⟨_, _, rfl, by rw [List.take_of_length_le (by omega)]; exact ht, .inl ⟨List.drop_of_length_le (by omega), rfl⟩⟩
      · have hlow := hr.low (by omega)
        obtain ⟨a, b, s1, s2, s3⟩ := split_eq h 64 z l i.toNat (by omega) hr.1 hr.2.1 (by omega) hl (fun h0 => by have := hr.kids h0; omega)
        rw [show ((i.toNat : Nat) : Int) = i by omega] at s1
        rw [if_neg c2, bnd_some']
        dsimp only
        rw [oN, bnd_some', s1, bnd_some']
        exact ⟨a, b, rfl, s2, s3⟩
theorem held_eq (l : List El) (i : Int) : ref09_Held l i = some ((min i.toNat l.length : Nat) : Int) := by
  unfold ref09_Held
  by_cases c : i < 0
  · rw [if_pos c]; congr 1; omega
  · rw [if_neg c]
    by_cases c2 : i > (l.length : Int)
    · rw [if_pos c2]; congr 1; omega
    · rw [if_neg c2]; congr 1; omega
theorem copyLoop {f : Int × List El → Option (Lp (Int × List El) (List El))} (x : List El) (acc : List El) (hf : ∀ s, f s = if s.1 < (x.length : Int) then bnd (idx x s.1) fun a => bnd (app 8 s.2 [a]) fun b => some (.next (w64 (s.1 + 1), b)) else some (.done s.2)) (hx : x.length + acc.length ≤ 800000) : loop f (0, acc) = some (acc ++ x) := by
  have hh := loop_fold (f := f) (fun k (s : List El) => (k, s)) x (fun pre => acc ++ pre) (t := acc ++ x) (fun pre y suf hs => by
    have hlen : x.length = pre.length + (suf.length + 1) := by rw [hs]; simp
    rw [hf]
    dsimp only
    rw [if_pos (by omega), show idx x (pre.length : Int) = some y by rw [hs]; exact idx_at pre y suf, bnd_some', app_of (by simp only [List.length_append, List.length_cons, List.length_nil]; omega), bnd_some', w64_id ⟨by omega, by omega⟩, List.append_assoc]) (by
    rw [hf]
    dsimp only
    rw [if_neg (by omega)])
  simpa using hh
theorem TreeJoins_holds (a0 a1 : List Int) (a2 : Int) (w0 : a0.length ≤ maxLen ∧ ∀ a ∈ a0, (Lit.int .i64 a).wf = true) (w1 : a1.length ≤ maxLen ∧ ∀ a ∈ a1, (Lit.int .i64 a).wf = true) (w2 : (Lit.int .i64 a2).wf = true) : law09_TreeJoins a0 a1 a2 = some true := by
  unfold law09_TreeJoins
  rw [few9_eq, bnd_some', few9_eq, bnd_some']
  have hl : (a0.take 300).length ≤ 300 := by simp; omega
  have hm : (a1.take 300).length ≤ 300 := by simp; omega
  generalize a0.take 300 = l at hl
  generalize a1.take 300 = m at hm
  obtain ⟨t, t1, t2⟩ := Of_eq l (by omega)
  obtain ⟨u, u1, u2⟩ := Of_eq m (by omega)
  obtain ⟨a, b, s1, s2, s3⟩ := Split_eq t l t2 (by omega) a2
  obtain ⟨j, j1, j2⟩ := Join_eq t u l m t2 u2 (by omega)
  obtain ⟨k, k1, k2⟩ := Join_eq a b _ _ s2 s3 (by simp; omega)
  rw [List.take_append_drop] at k2
  have ea : l.take (min a2.toNat l.length) = l.take a2.toNat := by
    rcases Nat.le_total a2.toNat l.length with c | c
    · rw [Nat.min_eq_left c]
    · rw [Nat.min_eq_right c, List.take_length, List.take_of_length_le c]
  have eb : l.drop (min a2.toNat l.length) = l.drop a2.toNat := by
    rcases Nat.le_total a2.toNat l.length with c | c
    · rw [Nat.min_eq_left c]
    · rw [Nat.min_eq_right c, List.drop_length, List.drop_of_length_le c]
  have hmn : min a2.toNat l.length ≤ l.length := Nat.min_le_right _ _
  rw [t1, bnd_some', u1, bnd_some', s1, bnd_some', held_eq, bnd_some', copyLoop (f := law09_TreeJoins.l1 l) l [] (fun s => rfl) (by simp; omega), bnd_some', List.nil_append, copyLoop (f := law09_TreeJoins.l2 m) m l (fun s => rfl) (by omega), bnd_some', cut_of ⟨by omega, by omega, by omega⟩, bnd_some', Int.toNat_natCast, show ((0 : Int)).toNat = 0 from rfl, List.drop_zero, ea]
  dsimp only
  rw [Fits_eq a _ s2 (by simp; omega), bnd_some', if_pos rfl, cut_of ⟨by omega, by omega, by omega⟩, bnd_some', Int.toNat_natCast, Int.toNat_natCast, List.take_length, eb, Fits_eq b _ s3 (by simp; omega), bnd_some', if_pos rfl, j1, bnd_some', Fits_eq j _ j2 (by simp; omega), bnd_some', if_pos rfl, k1, bnd_some', Fits_eq k _ k2 (by omega), bnd_some', if_pos rfl, Fits_eq t _ t2 (by omega), bnd_some', if_pos rfl, awake9_eq, bnd_some', bnd_some']
end Go.Proofs.Ytkmdfaodbiknlaa.S
