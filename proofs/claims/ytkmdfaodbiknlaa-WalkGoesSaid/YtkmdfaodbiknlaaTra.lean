/- Chapter 9's trees, told plainly: nodes, rows of nodes, trees of things. -/
import Derived.Test.YtkmdfaodbiknlaaG0
import Derived.Test.YtkmdfaodbiknlaaG2xa
import Derived.Test.YtkmdfaodbiknlaaSD
set_option linter.unusedVariables false
namespace Go.Proofs.Ytkmdfaodbiknlaa.S
open Go Go.Sm
/-! ### lists -/
theorem map_inj {α β : Type} {f : α → β} (hf : ∀ a b, f a = f b → a = b) : ∀ {l m : List α}, l.map f = m.map f → l = m
  | [], [], _ => rfl
  | [], _ :: _, h => by simp at h
  | _ :: _, [], h => by simp at h
  | a :: l, b :: m, h => by
    simp only [List.map_cons, List.cons.injEq] at h
    rw [hf _ _ h.1, map_inj hf h.2]
theorem eNP_inj (a b : NP) (h : eNP a = eNP b) : a = b := by
  cases a; cases b
  simpa [eNP] using h
/-- A row cut into parts of nearly the same length. -/
theorem cuts_loop {α : Type} {f : List α × Int × List (List α) → Option (Lp (List α × Int × List (List α)) (List (List α)))} {cl : List α → Option (List α)} (hcl : ∀ l, l.length ≤ 2000000 → cl l = some l)
    (hf : ∀ l m out, f (l, m, out) = if m > 0 then bnd (dvd (l.length : Int) m) fun x15 => bnd (cut l 0 x15) fun x16 => bnd (cl x16) fun x17 => bnd (app 24 out [x17]) fun x19 => bnd (cut l x15 (l.length : Int)) fun x21 => some (.next (x21, w64 (m - 1), x19)) else some (.done out)) :
    ∀ (m : Nat) (l : List α) (out : List (List α)), l.length ≤ 6 * m → l.length ≤ 2000000 → out.length + m ≤ 2000000 →
      ∃ ps, loop f (l, (m : Int), out) = some (out ++ ps) ∧ ps.flatten = l ∧ ps.length = m ∧ (∀ p ∈ ps, p.length ≤ 6) ∧ ∀ c, c * m ≤ l.length → ∀ p ∈ ps, c ≤ p.length := by
  intro m
  induction m with
  | zero =>
    intro l out h1 _ _
    obtain rfl := List.length_eq_zero_iff.1 (show l.length = 0 by omega)
    refine ⟨[], ?_, rfl, rfl, (fun p hp => by cases hp), (fun c _ p hp => by cases hp)⟩
    rw [List.append_nil]
    refine loop_done ?_
    rw [hf, if_neg (by simp)]
  | succ m ih =>
    intro l out h1 h2 h3
    have hd : (m + 1) * (l.length / (m + 1)) + l.length % (m + 1) = l.length := Nat.div_add_mod _ _
    have hr : l.length % (m + 1) < m + 1 := Nat.mod_lt _ (by omega)
    have h6 : l.length / (m + 1) ≤ 6 := Nat.div_le_of_le_mul (by omega)
    have hlow : ∀ c, c * (m + 1) ≤ l.length → c ≤ l.length / (m + 1) := fun c hc => (Nat.le_div_iff_mul_le (by omega)).2 hc
    have hdv : dvd (l.length : Int) ((m + 1 : Nat) : Int) = some (((l.length / (m + 1) : Nat)) : Int) := by
      rw [dvd_of (by omega)]
      show some (w64 (((l.length / (m + 1) : Nat)) : Int)) = _
      have h6' := h6
      generalize l.length / (m + 1) = n at h6' ⊢
      rw [w64_id ⟨by omega, by omega⟩]
    generalize l.length / (m + 1) = n at *
    generalize l.length % (m + 1) = r at *
    have e1 : (m + 1) * n = m * n + n := Nat.succ_mul m n
    have hle : n ≤ l.length := by omega
    have hs6 : (l.drop n).length ≤ 6 * m := by
      rw [List.length_drop]
      rcases Nat.lt_or_ge n 6 with hn | hn
      · have : m * n ≤ m * 5 := Nat.mul_le_mul_left m (by omega)
        omega
      · have : n = 6 := by omega
        omega
    obtain ⟨ps, p1, p2, p3, p4, p5⟩ := ih (l.drop n) (out ++ [l.take n]) hs6 (by rw [List.length_drop]; omega) (by rw [List.length_append]; simp only [List.length_cons, List.length_nil]; omega)
    refine ⟨l.take n :: ps, loop_next (s' := (l.drop n, (m : Int), out ++ [l.take n])) ?_ ?_, ?_, by simp [p3], fun p hp => ?_, fun c hc p hp => ?_⟩
    · rw [hf, if_pos (by omega), hdv, bnd_some', cut_of ⟨by omega, by omega, by omega⟩, bnd_some', hcl _ (by simp; omega), bnd_some', app_of (by simp; omega), bnd_some', cut_of ⟨by omega, by omega, by omega⟩, bnd_some', w64_id ⟨by omega, by omega⟩]
      simp
    · rw [p1]; simp
    · rw [List.flatten_cons, p2, List.take_append_drop]
    · rcases List.mem_cons.1 hp with rfl | hp
      · rw [List.length_take]; omega
      · exact p4 p hp
    · have hcn := hlow c hc
      rcases List.mem_cons.1 hp with rfl | hp
      · rw [List.length_take]; omega
      · refine p5 c ?_ p hp
        rw [List.length_drop]
        have : m * c ≤ m * n := Nat.mul_le_mul_left m hcn
        have e2 : c * m = m * c := Nat.mul_comm _ _
        omega
theorem many_eq (n : Nat) (h : n ≤ 2000000) : w64 (quo (w64 ((w64 ((n : Int) + 6)) - 1)) 5) = (((n + 5) / 6 : Nat) : Int) := by
  rw [w64_id (x := (n : Int) + 6) ⟨by omega, by omega⟩, w64_id (x := (n : Int) + 6 - 1) ⟨by omega, by omega⟩, show (n : Int) + 6 - 1 = ((n + 5 : Nat) : Int) by omega]
  have : quo ((n + 5 : Nat) : Int) 5 = (((n + 5) / 6 : Nat) : Int) := rfl
  rw [this, w64_id ⟨by omega, by omega⟩]
/-- slices.Concat. -/
theorem concat_gen {α : Type} {f1 : Int × Int → Option (Lp (Int × Int) Int)} {f2 : Int × List α → Option (Lp (Int × List α) (List α))} {gr : Int → Option (List α)} (L : List (List α))
    (h1 : ∀ s, f1 s = if s.2 < (L.length : Int) then bnd (idx L s.2) fun x11 => if (w64 (s.1 + (x11.length : Int))) < 0 then none else some (.next (w64 (s.1 + (x11.length : Int)), w64 (s.2 + 1))) else some (.done s.1)) {by_ : Nat} (hby : by_ ≤ 100)
    (h2 : ∀ s, f2 s = if s.1 < (L.length : Int) then bnd (idx L s.1) fun x27 => bnd (app by_ s.2 x27) fun x28 => some (.next (w64 (s.1 + 1), x28)) else some (.done s.2))
    (hg : ∀ n : Nat, n ≤ 2000000 → gr (n : Int) = some []) (hb : L.flatten.length ≤ 2000000) (hl : L.length ≤ 1000) :
    (bnd (loop f1 (0, 0)) fun t1 => bnd (gr t1) fun x13 => bnd (loop f2 (0, x13)) fun t15 => some t15) = some L.flatten := by
  have hpre : ∀ pre x suf, L = pre ++ x :: suf → pre.flatten.length + x.length ≤ 2000000 ∧ pre.length + 1 ≤ 1000 := fun pre x suf hs => by
    rw [hs] at hb hl
    simp only [List.flatten_append, List.flatten_cons, List.length_append, List.length_cons] at hb hl
    omega
  have l1 := loop_fold (f := f1) (fun k (s : Int) => (s, k)) L (fun pre => (pre.flatten.length : Int)) (t := (L.flatten.length : Int)) (fun pre x suf hs => by
    obtain ⟨b1, b2⟩ := hpre pre x suf hs
    have hlen : L.length = pre.length + (suf.length + 1) := by rw [hs]; simp
    rw [h1]
    dsimp only
    rw [if_pos (by omega), show idx L (pre.length : Int) = some x by rw [hs]; exact idx_at pre x suf, bnd_some', w64_id ⟨by omega, by omega⟩, if_neg (by omega), w64_id ⟨by omega, by omega⟩]
    simp) (by rw [h1]; dsimp only; rw [if_neg (by omega)])
  have l2 := loop_fold (f := f2) (fun k (s : List α) => (k, s)) L (fun pre => pre.flatten) (t := L.flatten) (fun pre x suf hs => by
    obtain ⟨b1, b2⟩ := hpre pre x suf hs
    have hlen : L.length = pre.length + (suf.length + 1) := by rw [hs]; simp
    rw [h2]
    dsimp only
    rw [if_pos (by omega), show idx L (pre.length : Int) = some x by rw [hs]; exact idx_at pre x suf, bnd_some', app_of (Nat.le_trans (Nat.mul_le_mul b1 (show by_ + 1 ≤ 101 by omega)) (by decide)), bnd_some', w64_id ⟨by omega, by omega⟩]
    simp) (by rw [h2]; dsimp only; rw [if_neg (by omega)])
  have l1' : loop f1 (0, 0) = some (L.flatten.length : Int) := by simpa using l1
  have l2' : loop f2 (0, []) = some L.flatten := by simpa using l2
  rw [l1', bnd_some', hg _ hb, bnd_some', l2', bnd_some']
/-! ### nodes -/
abbrev El := Int
abbrev Nd := tree_Node_int
theorem eEl_inj (a b : El) (h : (eI .i64) a = (eI .i64) b) : a = b := by
  unfold eI at h
  injection h with h
  injection h
theorem cN_inj (a b : Nd) (h : c_tree_Node_int a = c_tree_Node_int b) : a = b := by
  obtain ⟨k, i, n⟩ := a
  obtain ⟨k', i', n'⟩ := b
  simp only [c_tree_Node_int, NP.mk.injEq, List.cons.injEq, Dat.sl.injEq, Dat.val.injEq, Value.int.injEq, true_and, and_true] at h
  obtain ⟨h1, h2, h3⟩ := h
  rw [map_inj eNP_inj h1, map_inj eEl_inj h2, h3]
theorem oN (z : Nd) : o_tree_Node_int (c_tree_Node_int z) = some z := npOpen_of cN_inj z
def wd (z : Nd) : Nat := z.fKids.length + z.fItems.length
/-- A node, so many nodes above a leaf, and its things. -/
def T : Nat → Nd → List El → Prop
  | 0, z, l => z = ⟨[], l, (l.length : Int)⟩
  | h + 1, z, l => z.fItems = [] ∧ z.fN = (l.length : Int) ∧ ∃ zs : List (Nd × List El), z.fKids = zs.map (fun p => c_tree_Node_int p.1) ∧ l = zs.flatMap (fun p => p.2) ∧ ∀ p ∈ zs, T h p.1 p.2 ∧ 3 ≤ wd p.1 ∧ wd p.1 ≤ 6
/-- Nodes as high as each other, none with fewer things than so many. -/
def Fo (lo h : Nat) (xs : List NP) (l : List El) : Prop := ∃ zs : List (Nd × List El), xs = zs.map (fun p => c_tree_Node_int p.1) ∧ l = zs.flatMap (fun p => p.2) ∧ ∀ p ∈ zs, T h p.1 p.2 ∧ lo ≤ wd p.1 ∧ wd p.1 ≤ 6
theorem T_succ {h : Nat} {z : Nd} {l : List El} : T (h + 1) z l ↔ z.fItems = [] ∧ z.fN = (l.length : Int) ∧ Fo 3 h z.fKids l := Iff.rfl
theorem T_N {h : Nat} {z : Nd} {l : List El} (ht : T h z l) : z.fN = (l.length : Int) := by
  cases h with
  | zero => rw [show z = ⟨[], l, (l.length : Int)⟩ from ht]
  | succ h => exact ht.2.1
theorem Fo.nil {lo h : Nat} : Fo lo h [] [] := ⟨[], rfl, rfl, fun p hp => by cases hp⟩
theorem Fo.nil_inv {lo h : Nat} {l : List El} (hf : Fo lo h [] l) : l = [] := by
  obtain ⟨zs, h1, h2, _⟩ := hf
  cases zs with
  | nil => exact h2
  | cons a b => simp at h1
theorem Fo.one {lo h : Nat} {z : Nd} {l : List El} (ht : T h z l) (h1 : lo ≤ wd z) (h2 : wd z ≤ 6) : Fo lo h [c_tree_Node_int z] l := ⟨[(z, l)], rfl, by simp, fun p hp => by simp at hp; subst hp; exact ⟨ht, h1, h2⟩⟩
theorem Fo.app {lo h : Nat} {a b : List NP} {l m : List El} (ha : Fo lo h a l) (hb : Fo lo h b m) : Fo lo h (a ++ b) (l ++ m) := by
  obtain ⟨zs, rfl, rfl, h1⟩ := ha
  obtain ⟨ws, rfl, rfl, h2⟩ := hb
  exact ⟨zs ++ ws, by simp, by simp, fun p hp => (List.mem_append.1 hp).elim (h1 p) (h2 p)⟩
theorem Fo.split {lo h : Nat} {a b : List NP} {l : List El} (hf : Fo lo h (a ++ b) l) : ∃ la lb, l = la ++ lb ∧ Fo lo h a la ∧ Fo lo h b lb := by
  obtain ⟨zs, h1, rfl, h2⟩ := hf
  obtain ⟨xs, ys, rfl, rfl, rfl⟩ := List.map_eq_append_iff.1 h1.symm
  exact ⟨_, _, by rw [List.flatMap_append], ⟨xs, rfl, rfl, fun p hp => h2 p (List.mem_append.2 (.inl hp))⟩, ⟨ys, rfl, rfl, fun p hp => h2 p (List.mem_append.2 (.inr hp))⟩⟩
theorem Fo.cons_inv {lo h : Nat} {x : NP} {xs : List NP} {l : List El} (hf : Fo lo h (x :: xs) l) : ∃ z m r, x = c_tree_Node_int z ∧ T h z m ∧ lo ≤ wd z ∧ wd z ≤ 6 ∧ l = m ++ r ∧ Fo lo h xs r := by
  obtain ⟨zs, h1, rfl, h2⟩ := hf
  cases zs with
  | nil => simp at h1
  | cons p zs =>
    simp only [List.map_cons, List.cons.injEq] at h1
    obtain ⟨g1, g2, g3⟩ := h2 p (by simp)
    exact ⟨p.1, p.2, _, h1.1, g1, g2, g3, by simp, ⟨zs, h1.2, rfl, fun q hq => h2 q (by simp [hq])⟩⟩
theorem Fo.mono {lo lo' h : Nat} {xs : List NP} {l : List El} (hf : Fo lo h xs l) (hl : lo' ≤ lo) : Fo lo' h xs l := by
  obtain ⟨zs, h1, h2, h3⟩ := hf
  exact ⟨zs, h1, h2, fun p hp => ⟨(h3 p hp).1, Nat.le_trans hl (h3 p hp).2.1, (h3 p hp).2.2⟩⟩
/-- A node in the midst. -/
theorem Fo.at_ {lo h : Nat} {xs : List NP} {l : List El} (hf : Fo lo h xs l) {k : Nat} (hk : k < xs.length) : ∃ z la m lb, xs[k]? = some (c_tree_Node_int z) ∧ T h z m ∧ lo ≤ wd z ∧ wd z ≤ 6 ∧ l = la ++ m ++ lb ∧ Fo lo h (xs.take k) la ∧ Fo lo h (xs.drop (k + 1)) lb := by
  have e : xs = xs.take k ++ xs[k] :: xs.drop (k + 1) := by rw [← List.drop_eq_getElem_cons hk, List.take_append_drop]
  rw [e] at hf
  obtain ⟨la, lb, rfl, h1, h2⟩ := hf.split
  obtain ⟨z, m, r, g1, g2, g3, g4, rfl, g6⟩ := h2.cons_inv
  exact ⟨z, la, m, r, by rw [List.getElem?_eq_getElem hk, g1], g2, g3, g4, by simp, h1, g6⟩
/-! ### leaves, inners -/
theorem cloneEl (l : List El) (h : l.length ≤ 2000000) : slices_Clone_int_int l = some l := by
  unfold slices_Clone_int_int
  rw [app_of (by simp; omega), bnd_some', List.nil_append]
theorem cloneNP (l : List NP) (h : l.length ≤ 2000000) : slices_Clone_tree_Node_int_tree_Node_int l = some l := by
  unfold slices_Clone_tree_Node_int_tree_Node_int
  rw [app_of (by simp; omega), bnd_some', List.nil_append]
theorem cutsEl (l : List El) (h : l.length ≤ 2000000) : ∃ ps, tree_cuts_int l = some ps ∧ ps.flatten = l ∧ ps.length = (l.length + 5) / 6 ∧ (∀ p ∈ ps, p.length ≤ 6) ∧ ∀ c, c * ((l.length + 5) / 6) ≤ l.length → ∀ p ∈ ps, c ≤ p.length := by
  obtain ⟨ps, p1, p2⟩ := cuts_loop (f := tree_cuts_int.l1) (cl := slices_Clone_int_int) cloneEl (fun l m out => rfl) ((l.length + 5) / 6) l [] (by omega) h (by simp; omega)
  refine ⟨ps, ?_, p2⟩
  unfold tree_cuts_int
  rw [many_eq _ h, mkc_of ⟨by omega, by omega⟩, bnd_some', p1, bnd_some', List.nil_append]
theorem cutsNP (l : List NP) (h : l.length ≤ 2000000) : ∃ ps, tree_cuts_tree_Node_int l = some ps ∧ ps.flatten = l ∧ ps.length = (l.length + 5) / 6 ∧ (∀ p ∈ ps, p.length ≤ 6) ∧ ∀ c, c * ((l.length + 5) / 6) ≤ l.length → ∀ p ∈ ps, c ≤ p.length := by
  obtain ⟨ps, p1, p2⟩ := cuts_loop (f := tree_cuts_tree_Node_int.l1) (cl := slices_Clone_tree_Node_int_tree_Node_int) cloneNP (fun l m out => rfl) ((l.length + 5) / 6) l [] (by omega) h (by simp; omega)
  refine ⟨ps, ?_, p2⟩
  unfold tree_cuts_tree_Node_int
  rw [many_eq _ h, mkc_of ⟨by omega, by omega⟩, bnd_some', p1, bnd_some', List.nil_append]
theorem leaf_fo (p : List El) {lo : Nat} (h1 : lo ≤ p.length) (h2 : p.length ≤ 6) : Fo lo 0 [c_tree_Node_int ⟨[], p, (p.length : Int)⟩] p := Fo.one rfl (by simpa [wd] using h1) (by simpa [wd] using h2)
theorem leaves_fo {lo : Nat} : ∀ (ps : List (List El)), (∀ p ∈ ps, lo ≤ p.length ∧ p.length ≤ 6) → Fo lo 0 (ps.map fun p => c_tree_Node_int ⟨[], p, (p.length : Int)⟩) ps.flatten
  | [], _ => Fo.nil
  | p :: ps, h => by
    have := (leaf_fo p (h p (by simp)).1 (h p (by simp)).2).app (leaves_fo ps (fun q hq => h q (by simp [hq])))
    simpa using this
theorem leaves_eq (l : List El) (h : l.length ≤ 2000000) : ∃ xs, tree_leaves_int l = some xs ∧ xs.length = (l.length + 5) / 6 ∧ ∀ c, c * ((l.length + 5) / 6) ≤ l.length → Fo c 0 xs l := by
  obtain ⟨ps, p1, p2, p3, p4, p5⟩ := cutsEl l h
  refine ⟨ps.map fun p => c_tree_Node_int ⟨[], p, (p.length : Int)⟩, ?_, by rw [List.length_map, p3], fun c hc => ?_⟩
  · unfold tree_leaves_int
    rw [p1, bnd_some']
    have hh := loop_fold (f := tree_leaves_int.l1 ps) (fun k (s : List NP) => (k, s)) ps (fun pre => pre.map fun p => c_tree_Node_int ⟨[], p, (p.length : Int)⟩) (t := ps.map fun p => c_tree_Node_int ⟨[], p, (p.length : Int)⟩)
      (fun pre x suf hs => by
        have hlen : ps.length = pre.length + (suf.length + 1) := by rw [hs]; simp
        unfold tree_leaves_int.l1 tree_leaf_int
        dsimp only
        rw [if_pos (by omega), show idx ps (pre.length : Int) = some x by rw [hs]; exact idx_at pre x suf, bnd_some', bnd_some', app_of (by simp; omega), bnd_some', w64_id ⟨by omega, by omega⟩, List.map_append]
        rfl)
      (by
        unfold tree_leaves_int.l1
        dsimp only
        rw [if_neg (by omega)])
    have h' : loop (tree_leaves_int.l1 ps) (0, []) = some (ps.map fun p => c_tree_Node_int ⟨[], p, (p.length : Int)⟩) := by simpa using hh
    rw [h', bnd_some']
  · have := leaves_fo (lo := c) ps (fun p hp => ⟨p5 c hc p hp, p4 p hp⟩)
    rwa [p2] at this
theorem inner_eq {h : Nat} {ks : List NP} {l : List El} (hf : Fo 3 h ks l) (hk : ks.length ≤ 2000000) (hl : l.length ≤ 2000000) : tree_inner_int ks = some (ks, [], (l.length : Int)) := by
  obtain ⟨zs, rfl, rfl, h3⟩ := hf
  have hh := loop_fold (f := tree_inner_int.l1 (zs.map fun p => c_tree_Node_int p.1)) (fun k (s : Int) => (k, s)) zs (fun pre => ((pre.flatMap (fun p => p.2)).length : Int)) (t := ((zs.flatMap (fun p => p.2)).length : Int))
    (fun pre x suf hs => by
      have hlen : zs.length = pre.length + (suf.length + 1) := by rw [hs]; simp
      have hxl : (pre.flatMap (fun p => p.2)).length + x.2.length ≤ 2000000 := by
        rw [hs] at hl
        simp only [List.flatMap_append, List.flatMap_cons, List.length_append] at hl
        omega
      have hN := T_N (h3 x (by rw [hs]; simp)).1
      rw [List.length_map] at hk
      unfold tree_inner_int.l1
      dsimp only
      rw [if_pos (by rw [List.length_map]; omega), idx_of (show (zs.map fun p => c_tree_Node_int p.1)[pre.length]? = some (c_tree_Node_int x.1) by rw [hs]; simp), bnd_some', oN, bnd_some', hN, w64_id ⟨by omega, by omega⟩, w64_id ⟨by omega, by omega⟩]
      simp)
    (by
      unfold tree_inner_int.l1
      dsimp only
      rw [if_neg (by rw [List.length_map]; omega)])
  unfold tree_inner_int
  have h' : loop (tree_inner_int.l1 (zs.map fun p => c_tree_Node_int p.1)) (0, 0) = some ((zs.flatMap (fun p => p.2)).length : Int) := by simpa using hh
  rw [h', bnd_some']
theorem inner_T {h : Nat} {ks : List NP} {l : List El} (hf : Fo 3 h ks l) : T (h + 1) ⟨ks, [], (l.length : Int)⟩ l ∧ wd ⟨ks, [], (l.length : Int)⟩ = ks.length := ⟨T_succ.2 ⟨rfl, rfl, hf⟩, by simp [wd]⟩
theorem inners_eq {h : Nat} {ks : List NP} {l : List El} (hf : Fo 3 h ks l) (hk : ks.length ≤ 2000000) (hl : l.length ≤ 2000000) : ∃ xs, tree_inners_int ks = some xs ∧ xs.length = (ks.length + 5) / 6 ∧ ∀ c, c * ((ks.length + 5) / 6) ≤ ks.length → Fo c (h + 1) xs l := by
  obtain ⟨ps, p1, p2, p3, p4, p5⟩ := cutsNP ks hk
  have key : ∀ (suf pre : List (List NP)) (out : List NP) (l1 l2 : List El), ps = pre ++ suf → out.length = pre.length → l = l1 ++ l2 → Fo 3 h suf.flatten l2 → (∀ c, (∀ p ∈ ps, c ≤ p.length) → Fo c (h + 1) out l1) →
      ∃ xs, loop (tree_inners_int.l1 ps) ((pre.length : Int), out) = some xs ∧ xs.length = ps.length ∧ ∀ c, (∀ p ∈ ps, c ≤ p.length) → Fo c (h + 1) xs l := by
    intro suf
    induction suf with
    | nil =>
      intro pre out l1 l2 hp ho hl12 hf2 hc
      have := hf2.nil_inv
      subst this
      rw [List.append_nil] at hl12 hp
      subst hl12 hp
      refine ⟨out, loop_done ?_, ho, hc⟩
      unfold tree_inners_int.l1
      dsimp only
      rw [if_neg (by omega)]
    | cons p suf ih =>
      intro pre out l1 l2 hp ho hl12 hf2 hc
      have hlen : ps.length = pre.length + (suf.length + 1) := by rw [hp]; simp
      rw [List.flatten_cons] at hf2
      obtain ⟨la, lb, rfl, g1, g2⟩ := hf2.split
      have hla : la.length ≤ 2000000 := by rw [hl12] at hl; simp only [List.length_append] at hl; omega
      have hp6 := p4 p (by rw [hp]; simp)
      obtain ⟨t1, t2⟩ := inner_T g1
      obtain ⟨xs, x1, x2, x3⟩ := ih (pre ++ [p]) (out ++ [c_tree_Node_int ⟨p, [], (la.length : Int)⟩]) (l1 ++ la) lb (by rw [hp]; simp) (by simp [ho]) (by rw [hl12]; simp) g2 (fun c hcp => (hc c hcp).app (Fo.one t1 (by rw [t2]; exact hcp p (by rw [hp]; simp)) (by rw [t2]; exact hp6)))
      refine ⟨xs, loop_next (s' := ((pre.length : Int) + 1, out ++ [c_tree_Node_int ⟨p, [], (la.length : Int)⟩])) ?_ ?_, x2, x3⟩
      · unfold tree_inners_int.l1
        dsimp only
        rw [if_pos (by omega), show idx ps (pre.length : Int) = some p by rw [hp]; exact idx_at pre p suf, bnd_some', inner_eq g1 (by omega) hla, bnd_some', app_of (by simp; omega), bnd_some', w64_id ⟨by omega, by omega⟩]
      · rw [← x1]; simp
  obtain ⟨xs, x1, x2, x3⟩ := key ps [] [] [] l rfl rfl rfl (by rw [p2]; exact hf) (fun c _ => Fo.nil)
  refine ⟨xs, ?_, by rw [x2, p3], fun c hc => x3 c (p5 c hc)⟩
  unfold tree_inners_int
  rw [p1, bnd_some']
  rw [show ((([] : List (List NP)).length : Nat) : Int) = 0 from rfl] at x1
  rw [x1, bnd_some']
/-! ### trees -/
/-- A root: neither empty, nor with one kid alone. -/
def Rt (h : Nat) (z : Nd) (l : List El) : Prop := T h z l ∧ wd z ≤ 6 ∧ z.fKids.length ≠ 1 ∧ l ≠ []
def IsT (t : tree_Tree_int) (l : List El) : Prop := (l = [] ∧ t = ⟨none⟩) ∨ ∃ h z, t = ⟨some (c_tree_Node_int z)⟩ ∧ Rt h z l
/-- Nodes that may be put together: one, or none with too few. -/
def Up (h : Nat) (xs : List NP) (l : List El) : Prop := Fo 0 h xs l ∧ (xs.length ≤ 1 ∨ Fo 3 h xs l)
theorem aboveLoop : ∀ (n h : Nat) (xs : List NP) (l : List El), xs.length ≤ n → xs.length ≤ 2000000 → l.length ≤ 2000000 → Up h xs l → ∃ h' ys, loop tree_above_int.l1 xs = some ys ∧ Fo 0 h' ys l ∧ ys.length ≤ 1 := by
  intro n
  induction n with
  | zero =>
    intro h xs l hn hk hl hu
    refine ⟨h, xs, loop_done ?_, hu.1, by omega⟩
    unfold tree_above_int.l1
    rw [if_neg (by omega)]
  | succ n ih =>
    intro h xs l hn hk hl hu
    by_cases c : xs.length ≤ 1
    · refine ⟨h, xs, loop_done ?_, hu.1, c⟩
      unfold tree_above_int.l1
      rw [if_neg (by omega)]
    · have h3 : Fo 3 h xs l := hu.2.resolve_left c
      obtain ⟨ys, y1, y2, y3⟩ := inners_eq h3 hk hl
      obtain ⟨h', zs, z1, z2⟩ := ih (h + 1) ys l (by omega) (by omega) hl ⟨y3 0 (by omega), by
        by_cases c2 : ys.length ≤ 1
        · exact .inl c2
        · exact .inr (y3 3 (by omega))⟩
      refine ⟨h', zs, loop_next (s' := ys) ?_ z1, z2⟩
      unfold tree_above_int.l1
      rw [if_pos (by omega), y1, bnd_some']
theorem kids_ge {h : Nat} {z : Nd} {l : List El} (ht : T h z l) (hw : 3 ≤ wd z) : z.fKids.length ≠ 1 := by
  cases h with
  | zero => rw [show z = ⟨[], l, (l.length : Int)⟩ from ht]; simp
  | succ h =>
    have := ht.1
    unfold wd at hw
    rw [this] at hw
    simp at hw
    omega
theorem above_eq {h : Nat} {xs : List NP} {l : List El} (hu : Up h xs l) (hk : xs.length ≤ 2000000) (hl : l.length ≤ 2000000) : ∃ t, tree_above_int xs = some t ∧ IsT t l := by
  obtain ⟨h', ys, y1, y2, y3⟩ := aboveLoop xs.length h xs l (Nat.le_refl _) hk hl hu
  unfold tree_above_int
  rw [y1, bnd_some']
  match ys, y2, y3 with
  | [], y2, _ =>
    rw [if_pos (by rfl), bnd_some', if_pos rfl]
    exact ⟨_, rfl, .inl ⟨y2.nil_inv, rfl⟩⟩
  | [x], y2, _ =>
    obtain ⟨z, m, r, rfl, g1, g2, g3, g4, g5⟩ := y2.cons_inv
    have := g5.nil_inv
    subst this
    rw [List.append_nil] at g4
    subst g4
    have hN := T_N g1
    rw [if_neg (by simp), show idx [c_tree_Node_int z] 0 = some (c_tree_Node_int z) from rfl, bnd_some', oN, bnd_some', bnd_some', hN]
    by_cases c : l = []
    · subst c
      rw [if_pos (by simp)]
      exact ⟨_, rfl, .inl ⟨rfl, rfl⟩⟩
    · have hm : l.length ≠ 0 := fun e => c (List.length_eq_zero_iff.1 e)
      rw [if_neg (by simp; exact c), bnd_some', oN, bnd_some']
      by_cases c1 : z.fKids.length = 1
      · cases h' with
        | zero => rw [show z = ⟨[], l, (l.length : Int)⟩ from g1] at c1; simp at c1
        | succ h' =>
          obtain ⟨k1, k2, k3⟩ := T_succ.1 g1
          obtain ⟨x, hx⟩ := List.length_eq_one_iff.1 c1
          rw [hx] at k3
          obtain ⟨w, m', r', rfl, w1, w2, w3, w4, w5⟩ := k3.cons_inv
          have := w5.nil_inv
          subst this
          rw [List.append_nil] at w4
          subst w4
          have hne := kids_ge w1 w2
          have hlp : loop tree_above_int.l2 (z.fKids, z.fItems, z.fN) = some (w.fKids, w.fItems, w.fN) := by
            refine loop_next (s' := (w.fKids, w.fItems, w.fN)) ?_ (loop_done ?_)
            · unfold tree_above_int.l2
              dsimp only
              rw [if_pos (by omega), hx, show idx [c_tree_Node_int w] 0 = some (c_tree_Node_int w) from rfl, bnd_some', oN, bnd_some']
            · unfold tree_above_int.l2
              dsimp only
              rw [if_neg (by omega)]
          rw [hlp, bnd_some']
          exact ⟨_, rfl, .inr ⟨h', w, rfl, w1, w3, hne, c⟩⟩
      · have hlp : loop tree_above_int.l2 (z.fKids, z.fItems, z.fN) = some (z.fKids, z.fItems, z.fN) := by
          refine loop_done ?_
          unfold tree_above_int.l2
          dsimp only
          rw [if_neg (by omega)]
        rw [hlp, bnd_some']
        exact ⟨_, rfl, .inr ⟨h', z, rfl, g1, g3, c1, c⟩⟩
theorem Of_eq (l : List El) (hl : l.length ≤ 2000000) : ∃ t, tree_Of_int l = some t ∧ IsT t l := by
  obtain ⟨xs, x1, x2, x3⟩ := leaves_eq l hl
  obtain ⟨t, t1, t2⟩ := above_eq (h := 0) (xs := xs) (l := l) ⟨x3 0 (by omega), by
    by_cases c : xs.length ≤ 1
    · exact .inl c
    · exact .inr (x3 3 (by omega))⟩ (by omega) hl
  unfold tree_Of_int
  rw [x1, bnd_some', t1, bnd_some']
  exact ⟨t, rfl, t2⟩
end Go.Proofs.Ytkmdfaodbiknlaa.S
