/- Plain facts for one law: printed by prune.py out of Tva Tvb Tvc Tvk Tvl. -/
import Derived.Test.YtpmhiiemklhbhaaG0
import Derived.Test.YtpmhiiemklhbhaaG1xa
import Derived.Test.YtpmhiiemklhbhaaG1xb
import Derived.Test.YtpmhiiemklhbhaaG1xc
import Derived.Test.YtpmhiiemklhbhaaBas
set_option linter.unusedVariables false
namespace Go.Proofs.Ytpmhiiemklhbhaa.S
open Go Go.Sm
/-- A row cut into parts of nearly the same length. -/
theorem cuts_loop {α : Type} {f : List α × Int × List (List α) → Option (Lp (List α × Int × List (List α)) (List (List α)))} {cl : List α → Option (List α)} (hcl : ∀ l, l.length ≤ 2000000 → cl l = some l)
    (hf : ∀ l m out, f (l, m, out) = if m > 0 then bnd (dvd (l.length : Int) m) fun x15 => bnd (cut l 0 x15) fun x16 => bnd (cl x16) fun x17 => bnd (app 24 out [x17]) fun x19 => bnd (cut l x15 (l.length : Int)) fun x21 => some (.next (x21, w64 (m - 1), x19)) else some (.done out)) :
    ∀ (m : Nat) (l : List α) (out : List (List α)), l.length ≤ 6 * m → l.length ≤ 2000000 → out.length + m ≤ 2000000 →
      ∃ ps, loop f (l, (m : Int), out) = some (out ++ ps) ∧ ps.flatten = l ∧ ps.length = m ∧ (∀ p ∈ ps, p.length ≤ 6) ∧ ∀ c, c * m ≤ l.length → ∀ p ∈ ps, c ≤ p.length := by
  intro m
  induction m with
  | zero =>
    intro l out h1 _ _
    obtain rfl := List.length_eq_zero_iff.1 (show l.length = 0 by omega)
    refine ⟨[], ?_, rfl, rfl, (fun p hp => by cases hp), (fun c _ p hp => by cases hp)⟩
    rw [List.append_nil]
    refine loop_done ?_
    rw [hf, if_neg (by simp)]
  | succ m ih =>
    intro l out h1 h2 h3
    have hd : (m + 1) * (l.length / (m + 1)) + l.length % (m + 1) = l.length := Nat.div_add_mod _ _
    have hr : l.length % (m + 1) < m + 1 := Nat.mod_lt _ (by omega)
    have h6 : l.length / (m + 1) ≤ 6 := Nat.div_le_of_le_mul (by omega)
    have hlow : ∀ c, c * (m + 1) ≤ l.length → c ≤ l.length / (m + 1) := fun c hc => (Nat.le_div_iff_mul_le (by omega)).2 hc
    have hdv : dvd (l.length : Int) ((m + 1 : Nat) : Int) = some (((l.length / (m + 1) : Nat)) : Int) := by
      rw [dvd_of (by omega)]
      show some (w64 (((l.length / (m + 1) : Nat)) : Int)) = _
      have h6' := h6
      generalize l.length / (m + 1) = n at h6' ⊢
      rw [w64_id ⟨by omega, by omega⟩]
    generalize l.length / (m + 1) = n at *
    generalize l.length % (m + 1) = r at *
    have e1 : (m + 1) * n = m * n + n := Nat.succ_mul m n
    have hle : n ≤ l.length := by omega
    have hs6 : (l.drop n).length ≤ 6 * m := by
      rw [List.length_drop]
      rcases Nat.lt_or_ge n 6 with hn | hn
      · have : m * n ≤ m * 5 := Nat.mul_le_mul_left m (by omega)
        omega
      · have : n = 6 := by omega
        omega
    obtain ⟨ps, p1, p2, p3, p4, p5⟩ := ih (l.drop n) (out ++ [l.take n]) hs6 (by rw [List.length_drop]; omega) (by rw [List.length_append]; simp only [List.length_cons, List.length_nil]; omega)
    refine ⟨l.take n :: ps, loop_next (s' := (l.drop n, (m : Int), out ++ [l.take n])) ?_ ?_, ?_, by simp [p3], fun p hp => ?_, fun c hc p hp => ?_⟩
    · rw [hf, if_pos (by omega), hdv, bnd_some', cut_of ⟨by omega, by omega, by omega⟩, bnd_some', hcl _ (by simp; omega), bnd_some', app_of (by simp; omega), bnd_some', cut_of ⟨by omega, by omega, by omega⟩, bnd_some', w64_id ⟨by omega, by omega⟩]
      simp
    · rw [p1]; simp
    · rw [List.flatten_cons, p2, List.take_append_drop]
    · rcases List.mem_cons.1 hp with rfl | hp
      · rw [List.length_take]; omega
      · exact p4 p hp
    · have hcn := hlow c hc
      rcases List.mem_cons.1 hp with rfl | hp
      · rw [List.length_take]; omega
      · refine p5 c ?_ p hp
        rw [List.length_drop]
        have : m * c ≤ m * n := Nat.mul_le_mul_left m hcn
        have e2 : c * m = m * c := Nat.mul_comm _ _
        omega
theorem many_eq (n : Nat) (h : n ≤ 2000000) : w64 (quo (w64 ((w64 ((n : Int) + 6)) - 1)) 5) = (((n + 5) / 6 : Nat) : Int) := by
  rw [w64_id (x := (n : Int) + 6) ⟨by omega, by omega⟩, w64_id (x := (n : Int) + 6 - 1) ⟨by omega, by omega⟩, show (n : Int) + 6 - 1 = ((n + 5 : Nat) : Int) by omega]
  have : quo ((n + 5 : Nat) : Int) 5 = (((n + 5) / 6 : Nat) : Int) := rfl
  rw [this, w64_id ⟨by omega, by omega⟩]
abbrev El := row_Row
abbrev Nd := tree_Node_damier_row_Row
theorem oN (z : Nd) : o_tree_Node_damier_row_Row (c_tree_Node_damier_row_Row z) = some z := o_tree_Node_damier_row_Row_c z
theorem cN_inj (a b : Nd) (h : c_tree_Node_damier_row_Row a = c_tree_Node_damier_row_Row b) : a = b := Option.some.inj ((oN a).symm.trans ((congrArg o_tree_Node_damier_row_Row h).trans (oN b)))
def wd (z : Nd) : Nat := z.fKids.length + z.fItems.length
/-- A node, so many nodes above a leaf, and its things. -/
def T : Nat → Nd → List El → Prop
  | 0, z, l => z = ⟨[], l, (l.length : Int)⟩
  | h + 1, z, l => z.fItems = [] ∧ z.fN = (l.length : Int) ∧ ∃ zs : List (Nd × List El), z.fKids = zs.map (fun p => c_tree_Node_damier_row_Row p.1) ∧ l = zs.flatMap (fun p => p.2) ∧ ∀ p ∈ zs, T h p.1 p.2 ∧ 3 ≤ wd p.1 ∧ wd p.1 ≤ 6
/-- Nodes as high as each other, none with fewer things than so many. -/
def Fo (lo h : Nat) (xs : List NP) (l : List El) : Prop := ∃ zs : List (Nd × List El), xs = zs.map (fun p => c_tree_Node_damier_row_Row p.1) ∧ l = zs.flatMap (fun p => p.2) ∧ ∀ p ∈ zs, T h p.1 p.2 ∧ lo ≤ wd p.1 ∧ wd p.1 ≤ 6
theorem T_succ {h : Nat} {z : Nd} {l : List El} : T (h + 1) z l ↔ z.fItems = [] ∧ z.fN = (l.length : Int) ∧ Fo 3 h z.fKids l := Iff.rfl
theorem T_N {h : Nat} {z : Nd} {l : List El} (ht : T h z l) : z.fN = (l.length : Int) := by
  cases h with
  | zero => rw [show z = ⟨[], l, (l.length : Int)⟩ from ht]
  | succ h => exact ht.2.1
theorem Fo.nil {lo h : Nat} : Fo lo h [] [] := ⟨[], rfl, rfl, fun p hp => by cases hp⟩
theorem Fo.nil_inv {lo h : Nat} {l : List El} (hf : Fo lo h [] l) : l = [] := by
  obtain ⟨zs, h1, h2, _⟩ := hf
  cases zs with
  | nil => exact h2
  | cons a b => simp at h1
theorem Fo.one {lo h : Nat} {z : Nd} {l : List El} (ht : T h z l) (h1 : lo ≤ wd z) (h2 : wd z ≤ 6) : Fo lo h [c_tree_Node_damier_row_Row z] l := ⟨[(z, l)], rfl, by simp, fun p hp => by simp at hp; subst hp; exact ⟨ht, h1, h2⟩⟩
theorem Fo.app {lo h : Nat} {a b : List NP} {l m : List El} (ha : Fo lo h a l) (hb : Fo lo h b m) : Fo lo h (a ++ b) (l ++ m) := by
  obtain ⟨zs, rfl, rfl, h1⟩ := ha
  obtain ⟨ws, rfl, rfl, h2⟩ := hb
  exact ⟨zs ++ ws, by simp, by simp, fun p hp => (List.mem_append.1 hp).elim (h1 p) (h2 p)⟩
theorem Fo.split {lo h : Nat} {a b : List NP} {l : List El} (hf : Fo lo h (a ++ b) l) : ∃ la lb, l = la ++ lb ∧ Fo lo h a la ∧ Fo lo h b lb := by
  obtain ⟨zs, h1, rfl, h2⟩ := hf
  obtain ⟨xs, ys, rfl, rfl, rfl⟩ := List.map_eq_append_iff.1 h1.symm
  exact ⟨_, _, by rw [List.flatMap_append], ⟨xs, rfl, rfl, fun p hp => h2 p (List.mem_append.2 (.inl hp))⟩, ⟨ys, rfl, rfl, fun p hp => h2 p (List.mem_append.2 (.inr hp))⟩⟩
theorem Fo.cons_inv {lo h : Nat} {x : NP} {xs : List NP} {l : List El} (hf : Fo lo h (x :: xs) l) : ∃ z m r, x = c_tree_Node_damier_row_Row z ∧ T h z m ∧ lo ≤ wd z ∧ wd z ≤ 6 ∧ l = m ++ r ∧ Fo lo h xs r := by
  obtain ⟨zs, h1, rfl, h2⟩ := hf
  cases zs with
  | nil => simp at h1
  | cons p zs =>
    simp only [List.map_cons, List.cons.injEq] at h1
    obtain ⟨g1, g2, g3⟩ := h2 p (by simp)
    exact ⟨p.1, p.2, _, h1.1, g1, g2, g3, by simp, ⟨zs, h1.2, rfl, fun q hq => h2 q (by simp [hq])⟩⟩
theorem Fo.mono {lo lo' h : Nat} {xs : List NP} {l : List El} (hf : Fo lo h xs l) (hl : lo' ≤ lo) : Fo lo' h xs l := by
  obtain ⟨zs, h1, h2, h3⟩ := hf
  exact ⟨zs, h1, h2, fun p hp => ⟨(h3 p hp).1, Nat.le_trans hl (h3 p hp).2.1, (h3 p hp).2.2⟩⟩
/-- A node in the midst. -/
theorem Fo.at_ {lo h : Nat} {xs : List NP} {l : List El} (hf : Fo lo h xs l) {k : Nat} (hk : k < xs.length) : ∃ z la m lb, xs[k]? = some (c_tree_Node_damier_row_Row z) ∧ T h z m ∧ lo ≤ wd z ∧ wd z ≤ 6 ∧ l = la ++ m ++ lb ∧ Fo lo h (xs.take k) la ∧ Fo lo h (xs.drop (k + 1)) lb := by
  have e : xs = xs.take k ++ xs[k] :: xs.drop (k + 1) := by rw [← List.drop_eq_getElem_cons hk, List.take_append_drop]
  rw [e] at hf
  obtain ⟨la, lb, rfl, h1, h2⟩ := hf.split
  obtain ⟨z, m, r, g1, g2, g3, g4, rfl, g6⟩ := h2.cons_inv
  exact ⟨z, la, m, r, by rw [List.getElem?_eq_getElem hk, g1], g2, g3, g4, by simp, h1, g6⟩
theorem cloneEl (l : List El) (h : l.length ≤ 2000000) : slices_Clone_row_Row_row_Row l = some l := by
  unfold slices_Clone_row_Row_row_Row
  rw [app_of (by simp; omega), bnd_some', List.nil_append]
theorem cloneNP (l : List NP) (h : l.length ≤ 2000000) : slices_Clone_tree_Node_row_Row_tree_Node_row_Row l = some l := by
  unfold slices_Clone_tree_Node_row_Row_tree_Node_row_Row
  rw [app_of (by simp; omega), bnd_some', List.nil_append]
theorem cutsEl (l : List El) (h : l.length ≤ 2000000) : ∃ ps, tree_cuts_row_Row l = some ps ∧ ps.flatten = l ∧ ps.length = (l.length + 5) / 6 ∧ (∀ p ∈ ps, p.length ≤ 6) ∧ ∀ c, c * ((l.length + 5) / 6) ≤ l.length → ∀ p ∈ ps, c ≤ p.length := by
  obtain ⟨ps, p1, p2⟩ := cuts_loop (f := tree_cuts_row_Row.l1) (cl := slices_Clone_row_Row_row_Row) cloneEl (fun l m out => rfl) ((l.length + 5) / 6) l [] (by omega) h (by simp; omega)
  refine ⟨ps, ?_, p2⟩
  unfold tree_cuts_row_Row
  rw [many_eq _ h, mkc_of ⟨by omega, by omega⟩, bnd_some', p1, bnd_some', List.nil_append]
theorem cutsNP (l : List NP) (h : l.length ≤ 2000000) : ∃ ps, tree_cuts_tree_Node_row_Row l = some ps ∧ ps.flatten = l ∧ ps.length = (l.length + 5) / 6 ∧ (∀ p ∈ ps, p.length ≤ 6) ∧ ∀ c, c * ((l.length + 5) / 6) ≤ l.length → ∀ p ∈ ps, c ≤ p.length := by
  obtain ⟨ps, p1, p2⟩ := cuts_loop (f := tree_cuts_tree_Node_row_Row.l1) (cl := slices_Clone_tree_Node_row_Row_tree_Node_row_Row) cloneNP (fun l m out => rfl) ((l.length + 5) / 6) l [] (by omega) h (by simp; omega)
  refine ⟨ps, ?_, p2⟩
  unfold tree_cuts_tree_Node_row_Row
  rw [many_eq _ h, mkc_of ⟨by omega, by omega⟩, bnd_some', p1, bnd_some', List.nil_append]
theorem leaf_fo (p : List El) {lo : Nat} (h1 : lo ≤ p.length) (h2 : p.length ≤ 6) : Fo lo 0 [c_tree_Node_damier_row_Row ⟨[], p, (p.length : Int)⟩] p := Fo.one rfl (by simpa [wd] using h1) (by simpa [wd] using h2)
theorem leaves_fo {lo : Nat} : ∀ (ps : List (List El)), (∀ p ∈ ps, lo ≤ p.length ∧ p.length ≤ 6) → Fo lo 0 (ps.map fun p => c_tree_Node_damier_row_Row ⟨[], p, (p.length : Int)⟩) ps.flatten
  | [], _ => Fo.nil
  | p :: ps, h => by
    have := (leaf_fo p (h p (by simp)).1 (h p (by simp)).2).app (leaves_fo ps (fun q hq => h q (by simp [hq])))
    simpa using this
theorem leaves_eq (l : List El) (h : l.length ≤ 2000000) : ∃ xs, tree_leaves_row_Row l = some xs ∧ xs.length = (l.length + 5) / 6 ∧ ∀ c, c * ((l.length + 5) / 6) ≤ l.length → Fo c 0 xs l := by
  obtain ⟨ps, p1, p2, p3, p4, p5⟩ := cutsEl l h
  refine ⟨ps.map fun p => c_tree_Node_damier_row_Row ⟨[], p, (p.length : Int)⟩, ?_, by rw [List.length_map, p3], fun c hc => ?_⟩
  · unfold tree_leaves_row_Row
    rw [p1, bnd_some']
    have hh := loop_fold (f := tree_leaves_row_Row.l1 ps) (fun k (s : List NP) => (k, s)) ps (fun pre => pre.map fun p => c_tree_Node_damier_row_Row ⟨[], p, (p.length : Int)⟩) (t := ps.map fun p => c_tree_Node_damier_row_Row ⟨[], p, (p.length : Int)⟩)
      (fun pre x suf hs => by
        have hlen : ps.length = pre.length + (suf.length + 1) := by rw [hs]; simp
        unfold tree_leaves_row_Row.l1 tree_leaf_row_Row
        dsimp only
        rw [if_pos (by omega), show idx ps (pre.length : Int) = some x by rw [hs]; exact idx_at pre x suf, bnd_some', bnd_some', app_of (by simp; omega), bnd_some', w64_id ⟨by omega, by omega⟩, List.map_append]
        rfl)
      (by
        unfold tree_leaves_row_Row.l1
        dsimp only
        rw [if_neg (by omega)])
    have h' : loop (tree_leaves_row_Row.l1 ps) (0, []) = some (ps.map fun p => c_tree_Node_damier_row_Row ⟨[], p, (p.length : Int)⟩) := by simpa using hh
    rw [h', bnd_some']
  · have := leaves_fo (lo := c) ps (fun p hp => ⟨p5 c hc p hp, p4 p hp⟩)
    rwa [p2] at this
theorem inner_eq {h : Nat} {ks : List NP} {l : List El} (hf : Fo 3 h ks l) (hk : ks.length ≤ 2000000) (hl : l.length ≤ 2000000) : tree_inner_row_Row ks = some (ks, [], (l.length : Int)) := by
  obtain ⟨zs, rfl, rfl, h3⟩ := hf
  have hh := loop_fold (f := tree_inner_row_Row.l1 (zs.map fun p => c_tree_Node_damier_row_Row p.1)) (fun k (s : Int) => (k, s)) zs (fun pre => ((pre.flatMap (fun p => p.2)).length : Int)) (t := ((zs.flatMap (fun p => p.2)).length : Int))
    (fun pre x suf hs => by
      have hlen : zs.length = pre.length + (suf.length + 1) := by rw [hs]; simp
      have hxl : (pre.flatMap (fun p => p.2)).length + x.2.length ≤ 2000000 := by
        rw [hs] at hl
        simp only [List.flatMap_append, List.flatMap_cons, List.length_append] at hl
        omega
      have hN := T_N (h3 x (by rw [hs]; simp)).1
      rw [List.length_map] at hk
      unfold tree_inner_row_Row.l1
      dsimp only
      rw [if_pos (by rw [List.length_map]; omega), idx_of (show (zs.map fun p => c_tree_Node_damier_row_Row p.1)[pre.length]? = some (c_tree_Node_damier_row_Row x.1) by rw [hs]; simp), bnd_some', oN, bnd_some', hN, w64_id ⟨by omega, by omega⟩, w64_id ⟨by omega, by omega⟩]
      simp)
    (by
      unfold tree_inner_row_Row.l1
      dsimp only
      rw [if_neg (by rw [List.length_map]; omega)])
  unfold tree_inner_row_Row
  have h' : loop (tree_inner_row_Row.l1 (zs.map fun p => c_tree_Node_damier_row_Row p.1)) (0, 0) = some ((zs.flatMap (fun p => p.2)).length : Int) := by simpa using hh
  rw [h', bnd_some']
theorem inner_T {h : Nat} {ks : List NP} {l : List El} (hf : Fo 3 h ks l) : T (h + 1) ⟨ks, [], (l.length : Int)⟩ l ∧ wd ⟨ks, [], (l.length : Int)⟩ = ks.length := ⟨T_succ.2 ⟨rfl, rfl, hf⟩, by simp [wd]⟩
theorem inners_eq {h : Nat} {ks : List NP} {l : List El} (hf : Fo 3 h ks l) (hk : ks.length ≤ 2000000) (hl : l.length ≤ 2000000) : ∃ xs, tree_inners_row_Row ks = some xs ∧ xs.length = (ks.length + 5) / 6 ∧ ∀ c, c * ((ks.length + 5) / 6) ≤ ks.length → Fo c (h + 1) xs l := by
  obtain ⟨ps, p1, p2, p3, p4, p5⟩ := cutsNP ks hk
  have key : ∀ (suf pre : List (List NP)) (out : List NP) (l1 l2 : List El), ps = pre ++ suf → out.length = pre.length → l = l1 ++ l2 → Fo 3 h suf.flatten l2 → (∀ c, (∀ p ∈ ps, c ≤ p.length) → Fo c (h + 1) out l1) →
      ∃ xs, loop (tree_inners_row_Row.l1 ps) ((pre.length : Int), out) = some xs ∧ xs.length = ps.length ∧ ∀ c, (∀ p ∈ ps, c ≤ p.length) → Fo c (h + 1) xs l := by
    intro suf
    induction suf with
    | nil =>
      intro pre out l1 l2 hp ho hl12 hf2 hc
      have := hf2.nil_inv
      subst this
      rw [List.append_nil] at hl12 hp
      subst hl12 hp
      refine ⟨out, loop_done ?_, ho, hc⟩
      unfold tree_inners_row_Row.l1
      dsimp only
      rw [if_neg (by omega)]
    | cons p suf ih =>
      intro pre out l1 l2 hp ho hl12 hf2 hc
      have hlen : ps.length = pre.length + (suf.length + 1) := by rw [hp]; simp
      rw [List.flatten_cons] at hf2
      obtain ⟨la, lb, rfl, g1, g2⟩ := hf2.split
      have hla : la.length ≤ 2000000 := by rw [hl12] at hl; simp only [List.length_append] at hl; omega
      have hp6 := p4 p (by rw [hp]; simp)
      obtain ⟨t1, t2⟩ := inner_T g1
      obtain ⟨xs, x1, x2, x3⟩ := ih (pre ++ [p]) (out ++ [c_tree_Node_damier_row_Row ⟨p, [], (la.length : Int)⟩]) (l1 ++ la) lb (by rw [hp]; simp) (by simp [ho]) (by rw [hl12]; simp) g2 (fun c hcp => (hc c hcp).app (Fo.one t1 (by rw [t2]; exact hcp p (by rw [hp]; simp)) (by rw [t2]; exact hp6)))
      refine ⟨xs, loop_next (s' := ((pre.length : Int) + 1, out ++ [c_tree_Node_damier_row_Row ⟨p, [], (la.length : Int)⟩])) ?_ ?_, x2, x3⟩
      · unfold tree_inners_row_Row.l1
        dsimp only
        rw [if_pos (by omega), show idx ps (pre.length : Int) = some p by rw [hp]; exact idx_at pre p suf, bnd_some', inner_eq g1 (by omega) hla, bnd_some', app_of (by simp; omega), bnd_some', w64_id ⟨by omega, by omega⟩]
      · rw [← x1]; simp
  obtain ⟨xs, x1, x2, x3⟩ := key ps [] [] [] l rfl rfl rfl (by rw [p2]; exact hf) (fun c _ => Fo.nil)
  refine ⟨xs, ?_, by rw [x2, p3], fun c hc => x3 c (p5 c hc)⟩
  unfold tree_inners_row_Row
  rw [p1, bnd_some']
  rw [show ((([] : List (List NP)).length : Nat) : Int) = 0 from rfl] at x1
  rw [x1, bnd_some']
/-- A root: neither empty, nor with one kid alone. -/
def Rt (h : Nat) (z : Nd) (l : List El) : Prop := T h z l ∧ wd z ≤ 6 ∧ z.fKids.length ≠ 1 ∧ l ≠ []
def IsT (t : tree_Tree_damier_row_Row) (l : List El) : Prop := (l = [] ∧ t = ⟨none⟩) ∨ ∃ h z, t = ⟨some (c_tree_Node_damier_row_Row z)⟩ ∧ Rt h z l
/-- Nodes that may be put together: one, or none with too few. -/
def Up (h : Nat) (xs : List NP) (l : List El) : Prop := Fo 0 h xs l ∧ (xs.length ≤ 1 ∨ Fo 3 h xs l)
theorem aboveLoop : ∀ (n h : Nat) (xs : List NP) (l : List El), xs.length ≤ n → xs.length ≤ 2000000 → l.length ≤ 2000000 → Up h xs l → ∃ h' ys, loop tree_above_row_Row.l1 xs = some ys ∧ Fo 0 h' ys l ∧ ys.length ≤ 1 := by
  intro n
  induction n with
  | zero =>
    intro h xs l hn hk hl hu
    refine ⟨h, xs, loop_done ?_, hu.1, by omega⟩
    unfold tree_above_row_Row.l1
    rw [if_neg (by omega)]
  | succ n ih =>
    intro h xs l hn hk hl hu
    by_cases c : xs.length ≤ 1
    · refine ⟨h, xs, loop_done ?_, hu.1, c⟩
      unfold tree_above_row_Row.l1
      rw [if_neg (by omega)]
    · have h3 : Fo 3 h xs l := hu.2.resolve_left c
      obtain ⟨ys, y1, y2, y3⟩ := inners_eq h3 hk hl
      obtain ⟨h', zs, z1, z2⟩ := ih (h + 1) ys l (by omega) (by omega) hl ⟨y3 0 (by omega), by
        by_cases c2 : ys.length ≤ 1
        · exact .inl c2
        · exact .inr (y3 3 (by omega))⟩
      refine ⟨h', zs, loop_next (s' := ys) ?_ z1, z2⟩
      unfold tree_above_row_Row.l1
      rw [if_pos (by omega), y1, bnd_some']
theorem kids_ge {h : Nat} {z : Nd} {l : List El} (ht : T h z l) (hw : 3 ≤ wd z) : z.fKids.length ≠ 1 := by
  cases h with
  | zero => rw [show z = ⟨[], l, (l.length : Int)⟩ from ht]; simp
  | succ h =>
    have := ht.1
    unfold wd at hw
    rw [this] at hw
    simp at hw
    omega
theorem above_eq {h : Nat} {xs : List NP} {l : List El} (hu : Up h xs l) (hk : xs.length ≤ 2000000) (hl : l.length ≤ 2000000) : ∃ t, tree_above_row_Row xs = some t ∧ IsT t l := by
  obtain ⟨h', ys, y1, y2, y3⟩ := aboveLoop xs.length h xs l (Nat.le_refl _) hk hl hu
  unfold tree_above_row_Row
  rw [y1, bnd_some']
  match ys, y2, y3 with
  | [], y2, _ =>
    rw [if_pos (by rfl), bnd_some', if_pos rfl]
    exact ⟨_, rfl, .inl ⟨y2.nil_inv, rfl⟩⟩
  | [x], y2, _ =>
    obtain ⟨z, m, r, rfl, g1, g2, g3, g4, g5⟩ := y2.cons_inv
    have := g5.nil_inv
    subst this
    rw [List.append_nil] at g4
    subst g4
    have hN := T_N g1
    rw [if_neg (by simp), show idx [c_tree_Node_damier_row_Row z] 0 = some (c_tree_Node_damier_row_Row z) from rfl, bnd_some', oN, bnd_some', bnd_some', hN]
    by_cases c : l = []
    · subst c
      rw [if_pos (by simp)]
      exact ⟨_, rfl, .inl ⟨rfl, rfl⟩⟩
    · have hm : l.length ≠ 0 := fun e => c (List.length_eq_zero_iff.1 e)
      rw [if_neg (by simp; exact c), bnd_some', oN, bnd_some']
      by_cases c1 : z.fKids.length = 1
      · cases h' with
        | zero => rw [show z = ⟨[], l, (l.length : Int)⟩ from g1] at c1; simp at c1
        | succ h' =>
          obtain ⟨k1, k2, k3⟩ := T_succ.1 g1
          obtain ⟨x, hx⟩ := List.length_eq_one_iff.1 c1
          rw [hx] at k3
          obtain ⟨w, m', r', rfl, w1, w2, w3, w4, w5⟩ := k3.cons_inv
          have := w5.nil_inv
          subst this
          rw [List.append_nil] at w4
          subst w4
          have hne := kids_ge w1 w2
          have hlp : loop tree_above_row_Row.l2 (z.fKids, z.fItems, z.fN) = some (w.fKids, w.fItems, w.fN) := by
            refine loop_next (s' := (w.fKids, w.fItems, w.fN)) ?_ (loop_done ?_)
            · unfold tree_above_row_Row.l2
              dsimp only
              rw [if_pos (by omega), hx, show idx [c_tree_Node_damier_row_Row w] 0 = some (c_tree_Node_damier_row_Row w) from rfl, bnd_some', oN, bnd_some']
            · unfold tree_above_row_Row.l2
              dsimp only
              rw [if_neg (by omega)]
          rw [hlp, bnd_some']
          exact ⟨_, rfl, .inr ⟨h', w, rfl, w1, w3, hne, c⟩⟩
      · have hlp : loop tree_above_row_Row.l2 (z.fKids, z.fItems, z.fN) = some (z.fKids, z.fItems, z.fN) := by
          refine loop_done ?_
          unfold tree_above_row_Row.l2
          dsimp only
          rw [if_neg (by omega)]
        rw [hlp, bnd_some']
        exact ⟨_, rfl, .inr ⟨h', z, rfl, g1, g3, c1, c⟩⟩
theorem Of_eq (l : List El) (hl : l.length ≤ 2000000) : ∃ t, tree_Of_row_Row l = some t ∧ IsT t l := by
  obtain ⟨xs, x1, x2, x3⟩ := leaves_eq l hl
  obtain ⟨t, t1, t2⟩ := above_eq (h := 0) (xs := xs) (l := l) ⟨x3 0 (by omega), by
    by_cases c : xs.length ≤ 1
    · exact .inl c
    · exact .inr (x3 3 (by omega))⟩ (by omega) hl
  unfold tree_Of_row_Row
  rw [x1, bnd_some', t1, bnd_some']
  exact ⟨t, rfl, t2⟩
/-- Others in the place of some. -/
def repL {α : Type} (l : List α) (i j : Nat) (w : List α) : List α := l.take i ++ w ++ l.drop j
theorem Fo.rep {lo h : Nat} {xs ys : List NP} {i j : Nat} {la lb m : List El} (ha : Fo lo h (xs.take i) la) (hm : Fo lo h ys m) (hb : Fo lo h (xs.drop j) lb) : Fo lo h (repL xs i j ys) (la ++ m ++ lb) := (ha.app hm).app hb
theorem kids_wd {h : Nat} {z : Nd} {l : List El} (ht : T (h + 1) z l) : wd z = z.fKids.length := by
  unfold wd; rw [ht.1]; rfl
theorem leaf_wd {z : Nd} {l : List El} (ht : T 0 z l) : wd z = l.length ∧ z.fKids = [] ∧ z.fItems = l := by
  rw [show z = ⟨[], l, (l.length : Int)⟩ from ht]; simp [wd]
theorem fo_ne {lo h : Nat} {xs : List NP} {l : List El} (hf : Fo lo h xs l) (hl : l ≠ []) : 0 < xs.length := by
  cases xs with
  | nil => exact absurd hf.nil_inv hl
  | cons => simp
theorem fo_size {h : Nat} (ih : ∀ (z : Nd) (l : List El), T h z l → wd z * 3 ^ h ≤ l.length) : ∀ (xs : List NP) (l : List El), Fo 3 h xs l → xs.length * (3 * 3 ^ h) ≤ l.length := by
  intro xs
  induction xs with
  | nil => intro l _; simp
  | cons x xs ihx =>
    intro l hf
    obtain ⟨w, m, r, rfl, g1, g2, g3, rfl, g5⟩ := hf.cons_inv
    have h1 := ih w m g1
    have h2 := ihx r g5
    have h3 : 3 * 3 ^ h ≤ wd w * 3 ^ h := Nat.mul_le_mul_right _ g2
    rw [List.length_cons, List.length_append, Nat.add_mul]
    omega
theorem T_size : ∀ (h : Nat) (z : Nd) (l : List El), T h z l → wd z * 3 ^ h ≤ l.length := by
  intro h
  induction h with
  | zero =>
    intro z l ht
    rw [(leaf_wd ht).1]; simp
  | succ h ih =>
    intro z l ht
    obtain ⟨_, _, hf⟩ := T_succ.1 ht
    rw [kids_wd ht, Nat.pow_succ, Nat.mul_comm (3 ^ h) 3]
    exact fo_size ih _ _ hf
theorem Rt.kids {h : Nat} {z : Nd} {l : List El} (hr : Rt h z l) (h0 : 0 < h) : 2 ≤ z.fKids.length := by
  obtain ⟨h, rfl⟩ : ∃ n, h = n + 1 := ⟨h - 1, by omega⟩
  have := fo_ne (T_succ.1 hr.1).2.2 hr.2.2.2
  have := hr.2.2.1
  omega
theorem Rt.wd_pos {h : Nat} {z : Nd} {l : List El} (hr : Rt h z l) : 1 ≤ wd z ∧ (0 < h → 2 ≤ wd z) := by
  cases h with
  | zero =>
    have : l.length ≠ 0 := fun e => hr.2.2.2 (List.length_eq_zero_iff.1 e)
    rw [(leaf_wd hr.1).1]
    omega
  | succ h =>
    have := hr.kids (by omega)
    rw [kids_wd hr.1]
    omega
theorem Rt.size {h : Nat} {z : Nd} {l : List El} (hr : Rt h z l) (h0 : 0 < h) : 2 * 3 ^ h ≤ l.length :=
  Nat.le_trans (Nat.mul_le_mul_right _ (hr.wd_pos.2 h0)) (T_size h z l hr.1)
theorem Rt.low {h : Nat} {z : Nd} {l : List El} (hr : Rt h z l) (hl : l.length ≤ 2000000) : h < 30 := by
  by_cases c : h < 30
  · exact c
  · have h1 := hr.size (by omega)
    have h2 : 3 ^ 30 ≤ 3 ^ h := Nat.pow_le_pow_right (by decide) (by omega)
    have h3 : (3 : Nat) ^ 30 = 205891132094649 := by decide
    omega
theorem Len_eq (t : tree_Tree_damier_row_Row) (l : List El) (ht : IsT t l) : tree_Tree_row_Row_Len t = some (l.length : Int) := by
  unfold tree_Tree_row_Row_Len
  rcases ht with ⟨rfl, rfl⟩ | ⟨h, z, rfl, hr⟩
  · rfl
  · rw [bnd_some']
    dsimp only
    rw [oN, bnd_some', T_N hr.1]
abbrev Fr := walk_frame_damier_row_Row
/-- The frames from a node down to the leaf of a place. -/
def Pth : Nat → Nd → List El → Nat → List Fr → Nat → Prop
  | 0, z, l, first, stk, i => stk = [⟨some (c_tree_Node_damier_row_Row z), (first : Int), (i : Int)⟩] ∧ i ≤ l.length ∧ T 0 z l
  | h + 1, z, l, first, stk, i => ∃ (k : Nat) (w : Nd) (la m lb : List El) (stk' : List Fr), z.fKids[k]? = some (c_tree_Node_damier_row_Row w) ∧ T h w m ∧ 3 ≤ wd w ∧ wd w ≤ 6 ∧ l = la ++ m ++ lb ∧ Fo 3 h (z.fKids.take k) la ∧ Fo 3 h (z.fKids.drop (k + 1)) lb ∧
      stk = ⟨some (c_tree_Node_damier_row_Row z), ((first + la.length : Nat) : Int), (k : Int)⟩ :: stk' ∧ la.length ≤ i ∧ Pth h w m (first + la.length) stk' (i - la.length)
theorem Pth.le : ∀ {h : Nat} {z : Nd} {l : List El} {first : Nat} {stk : List Fr} {i : Nat}, Pth h z l first stk i → i ≤ l.length ∧ stk.length = h + 1
  | 0, z, l, first, stk, i, hp => by
    obtain ⟨rfl, h1, _⟩ := hp
    exact ⟨h1, rfl⟩
  | h + 1, z, l, first, stk, i, hp => by
    obtain ⟨k, w, la, m, lb, stk', k1, k2, k3, k4, rfl, k6, k7, rfl, k9, k10⟩ := hp
    obtain ⟨a, b⟩ := Pth.le k10
    simp only [List.length_append, List.length_cons]
    omega
/-- What lies on top. -/
theorem Pth.top : ∀ {h : Nat} {z : Nd} {l : List El} {first : Nat} {stk : List Fr} {i : Nat}, Pth h z l first stk i → ∃ (pre : List Fr) (w : Nd) (fs : Int) (k : Nat), stk = pre ++ [⟨some (c_tree_Node_damier_row_Row w), fs, (k : Int)⟩] ∧ k ≤ w.fItems.length ∧
      (k < w.fItems.length → i < l.length ∧ l[i]? = w.fItems[k]? ∧ Pth h z l first (pre ++ [⟨some (c_tree_Node_damier_row_Row w), fs, ((k + 1 : Nat) : Int)⟩]) (i + 1))
  | 0, z, l, first, stk, i, hp => by
    obtain ⟨rfl, h1, h2⟩ := hp
    obtain ⟨q1, q2, q3⟩ := leaf_wd h2
    refine ⟨[], z, (first : Int), i, rfl, by rw [q3]; exact h1, fun hk => ?_⟩
    rw [q3] at hk ⊢
    exact ⟨hk, rfl, rfl, by omega, h2⟩
  | h + 1, z, l, first, stk, i, hp => by
    obtain ⟨k, w, la, m, lb, stk', k1, k2, k3, k4, rfl, k6, k7, rfl, k9, k10⟩ := hp
    obtain ⟨pre, u, fs, j, rfl, j1, j2⟩ := Pth.top k10
    refine ⟨⟨some (c_tree_Node_damier_row_Row z), ((first + la.length : Nat) : Int), (k : Int)⟩ :: pre, u, fs, j, rfl, j1, fun hk => ?_⟩
    obtain ⟨j3, j4, j5⟩ := j2 hk
    refine ⟨by simp only [List.length_append]; omega, ?_, k, w, la, m, lb, _, k1, k2, k3, k4, rfl, k6, k7, rfl, by omega, ?_⟩
    · rw [← j4, List.append_assoc, List.getElem?_append_right k9, List.getElem?_append_left (by omega)]
    · rw [show i + 1 - la.length = i - la.length + 1 by omega]; exact j5
/-- Which kid: down's own loop. -/
theorem downKid {h : Nat} {ks : List NP} {l : List El} (hf : Fo 3 h ks l) (hk : ks.length ≤ 900000) (hne : 0 < ks.length) (first i : Nat) (hi : i < l.length) (hb : first + l.length ≤ 900000)
    {f : Int × Int → Option (Lp (Int × Int) (Int × Int))} (hfe : ∀ s, f s = bnd (if s.2 < (w64 ((ks.length : Int) - 1)) then
      bnd (idx ks s.2) fun x24 => bnd (o_tree_Node_damier_row_Row x24) fun x25 => some (decide (((first + i : Nat) : Int) ≥ (w64 (s.1 + x25.fN)))) else some false : Option Bool) fun t22 =>
      if t22 = true then bnd (idx ks s.2) fun x27 => bnd (o_tree_Node_damier_row_Row x27) fun x28 => some (Lp.next (w64 (s.1 + x28.fN), w64 (s.2 + 1))) else some (Lp.done (s.1, s.2))) :
    ∃ (k : Nat) (w : Nd) (la m lb : List El), loop f ((first : Int), 0) = some (((first + la.length : Nat) : Int), (k : Int)) ∧ ks[k]? = some (c_tree_Node_damier_row_Row w) ∧ T h w m ∧ 3 ≤ wd w ∧ wd w ≤ 6 ∧ l = la ++ m ++ lb ∧ Fo 3 h (ks.take k) la ∧ Fo 3 h (ks.drop (k + 1)) lb ∧
      la.length ≤ i ∧ i < la.length + m.length := by
  have key : ∀ (suf pre : List NP) (lp ls : List El), ks = pre ++ suf → 0 < suf.length → l = lp ++ ls → Fo 3 h pre lp → Fo 3 h suf ls → lp.length ≤ i →
      ∃ (k : Nat) (w : Nd) (la m lb : List El), loop f (((first + lp.length : Nat) : Int), (pre.length : Int)) = some (((first + la.length : Nat) : Int), (k : Int)) ∧ ks[k]? = some (c_tree_Node_damier_row_Row w) ∧ T h w m ∧ 3 ≤ wd w ∧ wd w ≤ 6 ∧ l = la ++ m ++ lb ∧ Fo 3 h (ks.take k) la ∧ Fo 3 h (ks.drop (k + 1)) lb ∧
        la.length ≤ i ∧ i < la.length + m.length := by
    intro suf
    induction suf with
    | nil => intro pre lp ls _ h0; simp at h0
    | cons x rest ih =>
      intro pre lp ls hks _ hls hp hs hlp
      obtain ⟨z, m, r, rfl, g1, g2, g3, rfl, g5⟩ := hs.cons_inv
      have hlen : ks.length = pre.length + (rest.length + 1) := by rw [hks]; simp
      have hx : ks[pre.length]? = some (c_tree_Node_damier_row_Row z) := by rw [hks]; simp
      have hll : l.length = lp.length + (m.length + r.length) := by rw [hls]; simp
      have hN := T_N g1
      have htake : ks.take pre.length = pre := by rw [hks]; simp
      have hdrop : ks.drop (pre.length + 1) = rest := by rw [hks]; simp
      have fin : i < lp.length + m.length → f (((first + lp.length : Nat) : Int), (pre.length : Int)) = some (.done (((first + lp.length : Nat) : Int), (pre.length : Int))) →
          ∃ (k : Nat) (w : Nd) (la m lb : List El), loop f (((first + lp.length : Nat) : Int), (pre.length : Int)) = some (((first + la.length : Nat) : Int), (k : Int)) ∧ ks[k]? = some (c_tree_Node_damier_row_Row w) ∧ T h w m ∧ 3 ≤ wd w ∧ wd w ≤ 6 ∧ l = la ++ m ++ lb ∧ Fo 3 h (ks.take k) la ∧ Fo 3 h (ks.drop (k + 1)) lb ∧
            la.length ≤ i ∧ i < la.length + m.length := fun f1 f3 =>
        ⟨pre.length, z, lp, m, r, loop_done f3, hx, g1, g2, g3, by rw [hls]; simp, by rw [htake]; exact hp, by rw [hdrop]; exact g5, hlp, f1⟩
      by_cases c0 : rest.length = 0
      · obtain rfl := List.length_eq_zero_iff.1 c0
        have := g5.nil_inv
        subst this
        simp only [List.length_nil] at hll hlen
        refine fin (by omega) ?_
        rw [hfe]
        dsimp only
        rw [w64_id ⟨by omega, by omega⟩, if_neg (by omega), bnd_some', if_neg (by simp)]
      · by_cases c1 : m.length ≤ i - lp.length
        · have hlpm : (lp ++ m).length = lp.length + m.length := List.length_append
          obtain ⟨k, z', la, m', lb, e1, e2⟩ := ih (pre ++ [c_tree_Node_damier_row_Row z]) (lp ++ m) r (by rw [hks]; simp) (by omega) (by rw [hls]; simp) (hp.app (Fo.one g1 g2 g3)) g5 (by omega)
          refine ⟨k, z', la, m', lb, loop_next (s' := (((first + (lp ++ m).length : Nat) : Int), ((pre ++ [c_tree_Node_damier_row_Row z]).length : Int))) ?_ e1, e2⟩
          rw [hfe]
          dsimp only
          rw [w64_id (x := (ks.length : Int) - 1) ⟨by omega, by omega⟩, if_pos (by omega), idx_of hx, bnd_some', oN, bnd_some', bnd_some', hN, w64_id (x := ((first + lp.length : Nat) : Int) + (m.length : Int)) ⟨by omega, by omega⟩, if_pos (by simp; omega), bnd_some', oN, bnd_some', hN, w64_id (x := ((first + lp.length : Nat) : Int) + (m.length : Int)) ⟨by omega, by omega⟩, w64_id ⟨by omega, by omega⟩]
          congr 3
          · omega
          · simp
        · refine fin (by omega) ?_
          rw [hfe]
          dsimp only
          rw [w64_id (x := (ks.length : Int) - 1) ⟨by omega, by omega⟩, if_pos (by omega), idx_of hx, bnd_some', oN, bnd_some', bnd_some', hN, w64_id (x := ((first + lp.length : Nat) : Int) + (m.length : Int)) ⟨by omega, by omega⟩, if_neg (by simp; omega)]
  obtain ⟨k, z, la, m, lb, e1, e2⟩ := key ks [] [] l rfl hne rfl Fo.nil hf (by simp)
  exact ⟨k, z, la, m, lb, e1, e2⟩
/-- Fresh: the leaf on top has what is next. -/
def Fresh (stk : List Fr) : Prop := ∃ (pre : List Fr) (w : Nd) (fs : Int) (k : Nat), stk = pre ++ [⟨some (c_tree_Node_damier_row_Row w), fs, (k : Int)⟩] ∧ k < w.fItems.length
abbrev DSt := List NP × List El × Int × Int × List Fr
theorem down_gen {f1 : DSt → Int × Int → Option (Lp (Int × Int) (Int × Int))} {f2 : DSt → Option (Lp DSt DSt)} : ∀ (h : Nat) (z : Nd) (l : List El) (first i : Nat) (stk : List Fr),
    (∀ s4 s, f1 s4 s = bnd (if s.2 < (w64 ((s4.1.length : Int) - 1)) then bnd (idx s4.1 s.2) fun x24 => bnd (o_tree_Node_damier_row_Row x24) fun x25 => some (decide (((first + i : Nat) : Int) ≥ (w64 (s.1 + x25.fN)))) else some false : Option Bool) fun t22 =>
      if t22 = true then bnd (idx s4.1 s.2) fun x27 => bnd (o_tree_Node_damier_row_Row x27) fun x28 => some (Lp.next (w64 (s.1 + x28.fN), w64 (s.2 + 1))) else some (Lp.done (s.1, s.2))) →
    (∀ s4, f2 s4 = if (s4.1.length : Int) > 0 then bnd (loop (f1 s4) (s4.2.2.2.1, 0) : Option (Int × Int)) fun t13 =>
      bnd (app 24 s4.2.2.2.2 [(⟨(some (c_tree_Node_damier_row_Row (⟨s4.1, s4.2.1, s4.2.2.1⟩ : tree_Node_damier_row_Row))), t13.1, t13.2⟩ : walk_frame_damier_row_Row)]) fun x29 => bnd (idx s4.1 t13.2) fun x31 => bnd (o_tree_Node_damier_row_Row x31) fun x32 => some (Lp.next (x32.fKids, x32.fItems, x32.fN, t13.1, x29))
      else some (Lp.done (s4.1, s4.2.1, s4.2.2.1, s4.2.2.2.1, s4.2.2.2.2))) →
    T h z l → wd z ≤ 6 → i < l.length → first + l.length ≤ 900000 → stk.length + h ≤ 1000 →
    ∃ (w : Nd) (fs j : Nat) (inn : List Fr), loop f2 (z.fKids, z.fItems, z.fN, (first : Int), stk) = some (w.fKids, w.fItems, w.fN, (fs : Int), stk ++ inn) ∧ fs + j = first + i ∧ j < w.fItems.length ∧ inn.length = h ∧ Pth h z l first (inn ++ [⟨some (c_tree_Node_damier_row_Row w), (fs : Int), (j : Int)⟩]) i := by
  intro h
  induction h with
  | zero =>
    intro z l first i stk h1 h2 ht hw hi hb hs
    obtain ⟨q1, q2, q3⟩ := leaf_wd ht
    refine ⟨z, first, i, [], loop_done ?_, rfl, by rw [q3]; exact hi, rfl, rfl, by omega, ht⟩
    rw [h2]
    dsimp only
    rw [q2, if_neg (by simp), List.append_nil]
  | succ h ih =>
    intro z l first i stk h1 h2 ht hw hi hb hs
    have hkw := kids_wd ht
    obtain ⟨t1, t2, t3⟩ := T_succ.1 ht
    have hne : 0 < z.fKids.length := fo_ne t3 (fun e => by rw [e] at hi; simp at hi)
    obtain ⟨k, w, la, m, lb, k1, k2, k3, k4, k5, rfl, k7, k8, k9, k10⟩ := downKid t3 (by omega) hne first i hi hb (f := f1 (z.fKids, z.fItems, z.fN, (first : Int), stk)) (fun s => h1 _ s)
    simp only [List.length_append] at hb
    obtain ⟨u, fs, j, inn, d1, d2, d3, d4, d5⟩ := ih w m (first + la.length) (i - la.length) (stk ++ [⟨some (c_tree_Node_damier_row_Row z), ((first + la.length : Nat) : Int), (k : Int)⟩]) (by rw [show first + la.length + (i - la.length) = first + i by omega]; exact h1) h2 k3 k5 (by omega) (by omega) (by simp; omega)
    refine ⟨u, fs, j, ⟨some (c_tree_Node_damier_row_Row z), ((first + la.length : Nat) : Int), (k : Int)⟩ :: inn, loop_next (s' := (w.fKids, w.fItems, w.fN, ((first + la.length : Nat) : Int), stk ++ [⟨some (c_tree_Node_damier_row_Row z), ((first + la.length : Nat) : Int), (k : Int)⟩])) ?_ ?_, by omega, d3, by simp [d4], k, w, la, m, lb, _, k2, k3, k4, k5, rfl, k7, k8, rfl, k9, d5⟩
    · rw [h2]
      dsimp only
      rw [if_pos (by omega), k1, bnd_some', app_of (by simp; omega), bnd_some']
      dsimp only
      rw [idx_of k2, bnd_some', oN, bnd_some']
    · rw [d1]; simp
theorem down_eq {h : Nat} {z : Nd} {l : List El} {first i : Nat} (ht : T h z l) (hw : wd z ≤ 6) (hi : i < l.length) (hb : first + l.length ≤ 900000) (hs : h ≤ 500) :
    ∃ stk, walk_stack_row_Row_down z.fKids z.fItems z.fN (first : Int) ((first + i : Nat) : Int) = some stk ∧ Pth h z l first stk i ∧ Fresh stk := by
  obtain ⟨w, fs, j, inn, d1, d2, d3, d4, d5⟩ := down_gen (f1 := walk_stack_row_Row_down.l1 ((first + i : Nat) : Int)) (f2 := walk_stack_row_Row_down.l2 ((first + i : Nat) : Int)) h z l first i [] (fun s4 s => rfl) (fun s4 => rfl) ht hw hi hb (by simp; omega)
  rw [List.nil_append] at d1
  refine ⟨inn ++ [⟨some (c_tree_Node_damier_row_Row w), (fs : Int), (j : Int)⟩], ?_, d5, inn, w, fs, j, rfl, d3⟩
  unfold walk_stack_row_Row_down
  rw [d1, bnd_some']
  dsimp only
  rw [w64_id ⟨by omega, by omega⟩, show ((first + i : Nat) : Int) - (fs : Int) = (j : Int) by omega, app_of (by simp; omega), bnd_some']
theorem down2_eq {h : Nat} {z : Nd} {l : List El} {first i : Nat} (stk : List Fr) (ht : T h z l) (hw : wd z ≤ 6) (hi : i < l.length) (hb : first + l.length ≤ 900000) (hs : stk.length + h ≤ 500) :
    ∃ p, walk_stack_row_Row_down_2 z.fKids z.fItems z.fN (first : Int) ((first + i : Nat) : Int) stk = some (stk ++ p) ∧ Pth h z l first p i ∧ Fresh p := by
  obtain ⟨w, fs, j, inn, d1, d2, d3, d4, d5⟩ := down_gen (f1 := walk_stack_row_Row_down_2.l1 ((first + i : Nat) : Int)) (f2 := walk_stack_row_Row_down_2.l2 ((first + i : Nat) : Int)) h z l first i stk (fun s4 s => rfl) (fun s4 => rfl) ht hw hi hb (by omega)
  refine ⟨inn ++ [⟨some (c_tree_Node_damier_row_Row w), (fs : Int), (j : Int)⟩], ?_, d5, inn, w, fs, j, rfl, d3⟩
  unfold walk_stack_row_Row_down_2
  rw [d1, bnd_some']
  dsimp only
  rw [w64_id ⟨by omega, by omega⟩, show ((first + i : Nat) : Int) - (fs : Int) = (j : Int) by omega, app_of (by simp; omega), bnd_some', List.append_assoc]
theorem top_eq (pre : List Fr) (f : Fr) (hb : pre.length ≤ 900000) : walk_stack_row_Row_top (pre ++ [f]) = some (pre.length : Int) ∧ idx (pre ++ [f]) (pre.length : Int) = some f := by
  have h2 : idx (pre ++ [f]) (pre.length : Int) = some f := idx_at pre f []
  refine ⟨?_, h2⟩
  unfold walk_stack_row_Row_top
  rw [List.length_append, List.length_singleton, w64_id ⟨by omega, by omega⟩, show ((pre.length + 1 : Nat) : Int) - 1 = (pre.length : Int) by omega, h2, bnd_some']
theorem set_top (pre : List Fr) (f g : Fr) : (pre ++ [f]).set pre.length g = pre ++ [g] := by simp
theorem Fo.len_pos {h : Nat} {xs : List NP} {l : List El} (hf : Fo 3 h xs l) (hne : 0 < xs.length) (hpos : ∀ w m, T h w m → 3 ≤ wd w → 0 < m.length) : 0 < l.length := by
  cases xs with
  | nil => simp at hne
  | cons x xs =>
    obtain ⟨w, m, r, rfl, g1, g2, g3, rfl, g5⟩ := hf.cons_inv
    have := hpos w m g1 g2
    simp; omega
theorem T_pos : ∀ (h : Nat) (w : Nd) (m : List El), T h w m → 3 ≤ wd w → 0 < m.length := by
  intro h
  induction h with
  | zero => intro w m ht hw; have := (leaf_wd ht).1; omega
  | succ h ih =>
    intro w m ht hw
    have := kids_wd ht
    exact Fo.len_pos (T_succ.1 ht).2.2 (by omega) ih
/-- To the next leaf. -/
theorem forthLoop : ∀ (h : Nat) (z : Nd) (l : List El) (first i : Nat) (pre : List Fr) (w : Nd) (fs : Int) (p0 : List Fr), Pth h z l first (pre ++ [⟨some (c_tree_Node_damier_row_Row w), fs, (w.fItems.length : Int)⟩]) i → wd z ≤ 6 → first + l.length ≤ 900000 → p0.length + h ≤ 400 →
    (i < l.length → ∃ stk2, loop walk_stack_row_Row_forth.l1 (p0 ++ pre) = some (.ret (true, p0 ++ stk2)) ∧ Pth h z l first stk2 i ∧ Fresh stk2) ∧
    (i = l.length → ∀ t, loop walk_stack_row_Row_forth.l1 p0 = some t → loop walk_stack_row_Row_forth.l1 (p0 ++ pre) = some t) := by
  intro h
  induction h with
  | zero =>
    intro z l first i pre w fs p0 hp hw hb hs
    obtain ⟨h1, h2, h3⟩ := hp
    obtain ⟨rfl, e⟩ := List.append_inj' (show pre ++ [_] = [] ++ [_] from h1) rfl
    simp only [List.cons.injEq, and_true, walk_frame_damier_row_Row.mk.injEq, Option.some.injEq] at e
    obtain ⟨e1, _, e3⟩ := e
    have := cN_inj _ _ e1
    subst this
    have hq := (leaf_wd h3).2.2
    rw [hq] at e3
    refine ⟨fun hi => by omega, fun _ t ht => by rw [List.append_nil]; exact ht⟩
  | succ h ih =>
    intro z l first i pre w fs p0 hp hw hb hs
    obtain ⟨k, u, la, m, lb, stk', k1, k2, k3, k4, rfl, k6, k7, k8, k9, k10⟩ := hp
    cases pre with
    | nil =>
      have := (Pth.le k10).2
      simp at k8
      rw [k8.2] at this
      simp at this
    | cons fr pre =>
      simp only [List.cons_append, List.cons.injEq] at k8
      obtain ⟨rfl, rfl⟩ := k8
      simp only [List.length_append] at hb
      have hle := (Pth.le k10).1
      obtain ⟨a1, a2⟩ := ih u m (first + la.length) (i - la.length) pre w fs (p0 ++ [⟨some (c_tree_Node_damier_row_Row z), ((first + la.length : Nat) : Int), (k : Int)⟩]) k10 k4 (by omega) (by simp; omega)
      have happ : p0 ++ ⟨some (c_tree_Node_damier_row_Row z), ((first + la.length : Nat) : Int), (k : Int)⟩ :: pre = (p0 ++ [⟨some (c_tree_Node_damier_row_Row z), ((first + la.length : Nat) : Int), (k : Int)⟩]) ++ pre := by simp
      by_cases c : i - la.length < m.length
      · obtain ⟨s2, b1, b2, b3⟩ := a1 c
        refine ⟨fun _ => ⟨⟨some (c_tree_Node_damier_row_Row z), ((first + la.length : Nat) : Int), (k : Int)⟩ :: s2, by rw [happ, b1]; simp, ⟨k, u, la, m, lb, s2, k1, k2, k3, k4, rfl, k6, k7, rfl, k9, b2⟩, ?_⟩, fun hi => by simp at hi; omega⟩
        obtain ⟨p, w', fs', k', rfl, q⟩ := b3
        exact ⟨_ :: p, w', fs', k', rfl, q⟩
      · have hi : i - la.length = m.length := by omega
        have a2 := a2 hi
        have hN := T_N k2
        have hkl : k < z.fKids.length := (List.getElem?_eq_some_iff.1 k1).1
        obtain ⟨g1, g2⟩ := top_eq p0 ⟨some (c_tree_Node_damier_row_Row z), ((first + la.length : Nat) : Int), (k : Int)⟩ (by omega)
        obtain ⟨g3, g4⟩ := top_eq p0 ⟨some (c_tree_Node_damier_row_Row z), w64 (((first + la.length : Nat) : Int) + u.fN), (k : Int)⟩ (by omega)
        obtain ⟨g5, g6⟩ := top_eq p0 ⟨some (c_tree_Node_damier_row_Row z), w64 (((first + la.length : Nat) : Int) + u.fN), w64 ((k : Int) + 1)⟩ (by omega)
        have hw1 : w64 (((first + la.length : Nat) : Int) + u.fN) = ((first + (la ++ m).length : Nat) : Int) := by
          rw [hN, w64_id ⟨by omega, by omega⟩, List.length_append]; omega
        have hz6 : z.fKids.length ≤ 6 := by unfold wd at hw; omega
        have hw2 : w64 ((k : Int) + 1) = ((k + 1 : Nat) : Int) := by rw [w64_id ⟨by omega, by omega⟩, show (k : Int) + 1 = ((k + 1 : Nat) : Int) by omega]
        rw [hw1] at g3 g4 g5 g6
        rw [hw2] at g5 g6
        have e1 : walk_stack_row_Row_forth.l1 (p0 ++ [⟨some (c_tree_Node_damier_row_Row z), ((first + la.length : Nat) : Int), (k : Int)⟩]) = if ((k + 1 : Nat) : Int) < (z.fKids.length : Int) then
            (bnd (idx z.fKids ((k + 1 : Nat) : Int)) fun x34 => bnd (o_tree_Node_damier_row_Row x34) fun x35 => bnd (walk_stack_row_Row_down_2 x35.fKids x35.fItems x35.fN ((first + (la ++ m).length : Nat) : Int) ((first + (la ++ m).length : Nat) : Int) (p0 ++ [⟨some (c_tree_Node_damier_row_Row z), ((first + (la ++ m).length : Nat) : Int), ((k + 1 : Nat) : Int)⟩])) fun x36 => some (.done (.ret (true, x36))))
            else (bnd (cut (p0 ++ [⟨some (c_tree_Node_damier_row_Row z), ((first + (la ++ m).length : Nat) : Int), ((k + 1 : Nat) : Int)⟩]) 0 (p0.length : Int)) fun x39 => some (.next x39)) := by
          unfold walk_stack_row_Row_forth.l1
          rw [if_pos (by simp <;> omega), g1, bnd_some', g2, bnd_some']
          dsimp only
          rw [bnd_some']
          dsimp only
          rw [oN, bnd_some', idx_of k1, bnd_some', oN, bnd_some', Int.toNat_natCast, set_top, hw1, g4, bnd_some']
          dsimp only
          rw [set_top, hw2, g6, bnd_some']
          dsimp only
          rw [bnd_some']
          dsimp only
          have hl1 : (p0 ++ [(⟨some (c_tree_Node_damier_row_Row z), ((first + (la ++ m).length : Nat) : Int), ((k + 1 : Nat) : Int)⟩ : Fr)]).length = p0.length + 1 := by simp
          rw [oN, bnd_some', bnd_some', hl1, w64_id (x := ((p0.length + 1 : Nat) : Int) - 1) ⟨by omega, by omega⟩, show ((p0.length + 1 : Nat) : Int) - 1 = (p0.length : Int) by omega]
        by_cases ck : k + 1 < z.fKids.length
        · rw [if_pos (by omega)] at e1
          have hd1 : z.fKids.drop (k + 1) = z.fKids[k + 1] :: z.fKids.drop (k + 1 + 1) := List.drop_eq_getElem_cons ck
          rw [hd1] at k7
          obtain ⟨v, m2, r2, u3, u4, u5, u6, rfl, u8⟩ := k7.cons_inv
          have hkv : z.fKids[k + 1]? = some (c_tree_Node_damier_row_Row v) := by rw [List.getElem?_eq_getElem ck, u3]
          have hm2 := T_pos h v m2 u4 u5
          simp only [List.length_append] at hb
          obtain ⟨p, d1, d2, d3⟩ := down2_eq (first := first + (la ++ m).length) (i := 0) (p0 ++ [⟨some (c_tree_Node_damier_row_Row z), ((first + (la ++ m).length : Nat) : Int), ((k + 1 : Nat) : Int)⟩]) u4 u6 hm2 (by simp only [List.length_append]; omega) (by simp; omega)
          rw [Nat.add_zero] at d1
          rw [idx_of hkv, bnd_some', oN, bnd_some', d1, bnd_some'] at e1
          refine ⟨fun _ => ⟨⟨some (c_tree_Node_damier_row_Row z), ((first + (la ++ m).length : Nat) : Int), ((k + 1 : Nat) : Int)⟩ :: p, ?_, ⟨k + 1, v, la ++ m, m2, r2, p, hkv, u4, u5, u6, by simp, ?_, u8, rfl, by simp only [List.length_append]; omega, ?_⟩, ?_⟩, fun hi2 => by simp only [List.length_append] at hi2; omega⟩
          · rw [happ]
            refine a2 _ (loop_done ?_)
            rw [e1, List.append_assoc]; rfl
          · rw [List.take_succ_eq_append_getElem hkl]
            rw [List.getElem?_eq_getElem hkl] at k1
            rw [Option.some.inj k1]
            exact k6.app (Fo.one k2 k3 k4)
          · rw [show i - (la ++ m).length = 0 by simp only [List.length_append]; omega]; exact d2
          · obtain ⟨q, w', fs', k', rfl, h9⟩ := d3
            exact ⟨_ :: q, w', fs', k', rfl, h9⟩
        · rw [if_neg (by omega), cut_of ⟨by omega, by omega, by simp; omega⟩, bnd_some', show ((0 : Int)).toNat = 0 from rfl, List.drop_zero, Int.toNat_natCast, List.take_left] at e1
          have hd0 : z.fKids.drop (k + 1) = [] := List.drop_of_length_le (by omega)
          rw [hd0] at k7
          have := k7.nil_inv
          subst this
          refine ⟨fun hi2 => by simp only [List.length_append, List.length_nil] at hi2; omega, fun _ t ht => ?_⟩
          rw [happ]
          exact a2 t (loop_next e1 ht)
theorem forth_eq {h : Nat} {z : Nd} {l : List El} {i : Nat} {stk pre : List Fr} {w : Nd} {fs : Int} (hs : stk = pre ++ [⟨some (c_tree_Node_damier_row_Row w), fs, (w.fItems.length : Int)⟩]) (hp : Pth h z l 0 stk i) (hw : wd z ≤ 6) (hi : i < l.length) (hb : l.length ≤ 900000) (hh : h ≤ 400) :
    ∃ stk2, walk_stack_row_Row_forth stk = some (true, stk2) ∧ Pth h z l 0 stk2 i ∧ Fresh stk2 := by
  have hlen := hp.le.2
  subst hs
  obtain ⟨stk2, s1, s2, s3⟩ := (forthLoop h z l 0 i pre w fs [] hp hw (by omega) (by simp; omega)).1 hi
  rw [List.nil_append, List.nil_append] at s1
  refine ⟨stk2, ?_, s2, s3⟩
  unfold walk_stack_row_Row_forth
  rw [List.length_append, List.length_singleton] at hlen ⊢
  rw [w64_id ⟨by omega, by omega⟩, show ((pre.length + 1 : Nat) : Int) - 1 = (pre.length : Int) by omega, cut_of ⟨by omega, by omega, by simp; omega⟩, bnd_some', show ((0 : Int)).toNat = 0 from rfl, List.drop_zero, Int.toNat_natCast, List.take_left, s1, bnd_some']
section
variable {R : Type}
/-- What is on top, for the body. -/
noncomputable def rtake (stk : List Fr) (K : El → List Fr → Option R) : Option R :=
  bnd (walk_stack_row_Row_top stk) fun x31 => bnd (idx stk x31) fun x32 => bnd (some x32.fN) fun q33 => match q33 with
    | none => none
    | some z34 => bnd (o_tree_Node_damier_row_Row z34) fun x36 => bnd (idx x36.fItems x32.fNext) fun x38 => K x38 (stk.set x31.toNat (⟨x32.fN, x32.fFirst, w64 (x32.fNext + 1)⟩ : walk_frame_damier_row_Row))
/-- One round, up to the body. -/
noncomputable def rstep (stk : List Fr) (K : El → List Fr → Option R) : Option R :=
  bnd (walk_stack_row_Row_top stk) fun x19 => bnd (idx stk x19) fun x20 => bnd (some x20.fN) fun q21 => match q21 with
    | none => none
    | some z22 => bnd (o_tree_Node_damier_row_Row z22) fun x24 =>
      bnd (if x20.fNext = (x24.fItems.length : Int) then bnd (walk_stack_row_Row_forth stk) fun x29 => some x29.2 else some stk : Option (List Fr)) fun t26 => rtake t26 K
theorem Pth.items : ∀ {h : Nat} {z : Nd} {l : List El} {first : Nat} {pre : List Fr} {w : Nd} {fs : Int} {k : Int} {i : Nat}, Pth h z l first (pre ++ [⟨some (c_tree_Node_damier_row_Row w), fs, k⟩]) i → w.fItems.length ≤ l.length
  | 0, z, l, first, pre, w, fs, k, i, hp => by
    obtain ⟨h1, h2, h3⟩ := hp
    obtain ⟨rfl, e⟩ := List.append_inj' (show pre ++ [_] = [] ++ [_] from h1) rfl
    simp only [List.cons.injEq, and_true, walk_frame_damier_row_Row.mk.injEq, Option.some.injEq] at e
    have := cN_inj _ _ e.1
    subst this
    rw [(leaf_wd h3).2.2]; exact Nat.le_refl _
  | h + 1, z, l, first, pre, w, fs, k, i, hp => by
    obtain ⟨k, u, la, m, lb, stk', k1, k2, k3, k4, rfl, k6, k7, k8, k9, k10⟩ := hp
    cases pre with
    | nil =>
      have := (Pth.le k10).2
      simp at k8
      rw [k8.2] at this
      simp at this
    | cons fr pre =>
      simp only [List.cons_append, List.cons.injEq] at k8
      obtain ⟨rfl, rfl⟩ := k8
      have := Pth.items k10
      simp only [List.length_append]
      omega
theorem rtake_eq {h : Nat} {z : Nd} {l : List El} {i : Nat} {stk : List Fr} (hp : Pth h z l 0 stk i) (hf : Fresh stk) (hi : i < l.length) (hb : l.length ≤ 900000) (hh : h ≤ 400) (K : El → List Fr → Option R) :
    ∃ stk2, rtake stk K = K l[i] stk2 ∧ Pth h z l 0 stk2 (i + 1) := by
  obtain ⟨pre, w, fs, k, hs, h1, h2⟩ := hp.top
  obtain ⟨pre', w', fs', k', hs', h3⟩ := hf
  have hlen := hp.le.2
  rw [hs] at hs'
  obtain ⟨rfl, e⟩ := List.append_inj' hs' rfl
  simp only [List.cons.injEq, and_true, walk_frame_damier_row_Row.mk.injEq, Option.some.injEq] at e
  obtain ⟨e1, _, e3⟩ := e
  have := cN_inj _ _ e1
  subst this
  obtain rfl : k = k' := by omega
  obtain ⟨h4, h5, h6⟩ := h2 h3
  subst hs
  have hwl := hp.items
  rw [List.length_append, List.length_singleton] at hlen
  obtain ⟨g1, g2⟩ := top_eq pre ⟨some (c_tree_Node_damier_row_Row w), fs, (k : Int)⟩ (by omega)
  refine ⟨_, ?_, h6⟩
  unfold rtake
  rw [g1, bnd_some', g2, bnd_some', bnd_some']
  dsimp only
  rw [oN, bnd_some', idx_of (h5.symm.trans (List.getElem?_eq_getElem hi)), bnd_some', Int.toNat_natCast, set_top, w64_id ⟨by omega, by omega⟩, show ((k + 1 : Nat) : Int) = (k : Int) + 1 by omega]
theorem rstep_eq {h : Nat} {z : Nd} {l : List El} {i : Nat} {stk : List Fr} (hp : Pth h z l 0 stk i) (hw : wd z ≤ 6) (hi : i < l.length) (hb : l.length ≤ 900000) (hh : h ≤ 400) (K : El → List Fr → Option R) :
    ∃ stk2, rstep stk K = K l[i] stk2 ∧ Pth h z l 0 stk2 (i + 1) := by
  obtain ⟨pre, w, fs, k, hs, h1, h2⟩ := hp.top
  have hlen := hp.le.2
  rw [hs, List.length_append, List.length_singleton] at hlen
  obtain ⟨g1, g2⟩ := top_eq pre ⟨some (c_tree_Node_damier_row_Row w), fs, (k : Int)⟩ (by omega)
  rw [← hs] at g1 g2
  unfold rstep
  rw [g1, bnd_some', g2, bnd_some', bnd_some']
  dsimp only
  rw [oN, bnd_some']
  by_cases c : k < w.fItems.length
  · rw [if_neg (by omega), bnd_some']
    exact rtake_eq hp ⟨pre, w, fs, k, hs, c⟩ hi hb hh K
  · have hk : k = w.fItems.length := by omega
    subst hk
    obtain ⟨stk3, f1, f2, f3⟩ := forth_eq hs hp hw hi hb hh
    rw [if_pos rfl, f1, bnd_some', bnd_some']
    exact rtake_eq f2 f3 hi hb hh K
/-- What comes of going through things, from the i-th on. -/
def goR {σ τ : Type} (y : Int → El → σ → Option (σ ⊕ τ)) (fin : σ → τ) : List El → Int → σ → Option τ
  | [], _, s => some (fin s)
  | x :: xs, i, s => bnd (y i x s) fun r => match r with
    | .inl s' => goR y fin xs (i + 1) s'
    | .inr t => some t
theorem range_loop {S σ τ : Type} {f : S → Option (Lp S τ)} (mk : Int → List Fr → σ → S) (y : Int → El → σ → Option (σ ⊕ τ)) (fin : σ → τ) (j : Nat) {h : Nat} {z : Nd} {l : List El} (hw : wd z ≤ 6) (hb : l.length ≤ 900000) (hh : h ≤ 400) (hj : j ≤ l.length)
    (hf1 : ∀ (i : Nat) stk s, i < j → f (mk (i : Int) stk s) = rstep stk fun x st' => bnd (y (i : Int) x s) fun r => match r with | .inl s' => some (.next (mk (w64 ((i : Int) + 1)) st' s')) | .inr t => some (.done t))
    (hf2 : ∀ stk s, f (mk (j : Int) stk s) = some (.done (fin s))) : ∀ (n i : Nat) stk s t, i + n = j → Pth h z l 0 stk i → goR y fin ((l.take j).drop i) (i : Int) s = some t → loop f (mk (i : Int) stk s) = some t := by
  intro n
  induction n with
  | zero =>
    intro i stk s t hn hp hg
    obtain rfl : i = j := by omega
    rw [List.drop_of_length_le (by rw [List.length_take]; omega)] at hg
    obtain rfl := Option.some.inj (show some (fin s) = some t from hg)
    exact loop_done (hf2 stk s)
  | succ n ih =>
    intro i stk s t hn hp hg
    have hil : i < l.length := by omega
    have hd : (l.take j).drop i = l[i] :: (l.take j).drop (i + 1) := by
      rw [List.drop_eq_getElem_cons (by rw [List.length_take]; omega), List.getElem_take]
    rw [hd] at hg
    obtain ⟨stk2, s1, s2⟩ := rstep_eq hp hw hil hb hh (fun x st' => bnd (y (i : Int) x s) fun r => match r with | .inl s' => some (Lp.next (mk (w64 ((i : Int) + 1)) st' s')) | .inr t => some (Lp.done t) : El → List Fr → Option (Lp S τ))
    have e := hf1 i stk s (by omega)
    rw [s1, w64_id ⟨by omega, by omega⟩] at e
    unfold goR at hg
    cases hy : y (i : Int) l[i] s with
    | none => rw [hy] at hg; cases hg
    | some r =>
      rw [hy] at hg e
      cases r with
      | inl s' => exact loop_next e (ih (i + 1) stk2 s' t (by omega) s2 (by simpa using hg))
      | inr u =>
        obtain rfl := Option.some.inj (show some u = some t from hg)
        exact loop_done e
end
def stA (n : Nat) (i : Int) : Nat := min i.toNat n
def stB (n : Nat) (i j : Int) : Nat := max (stA n i) (stA n j)
theorem stretch_eq (t : tree_Tree_damier_row_Row) (l : List El) (ht : IsT t l) (i j : Int) : walk_stretch_row_Row t i j = some ((stA l.length i : Int), (stB l.length i j : Int)) := by
  unfold walk_stretch_row_Row
  rw [Len_eq t l ht, bnd_some', bnd_some', bnd_some', bnd_some']
  unfold stB stA
  congr 2 <;> omega
theorem root_eq {h : Nat} {z : Nd} {l : List El} (hr : Rt h z l) : tree_Tree_row_Row_Root ⟨some (c_tree_Node_damier_row_Row z)⟩ = some (.inr (z.fKids, z.fItems, z.fN)) := by
  unfold tree_Tree_row_Row_Root
  rw [bnd_some']
  dsimp only
  rw [oN, bnd_some']
theorem wRange_eq (t : tree_Tree_damier_row_Row) (l : List El) (ht : IsT t l) (i j : Int) : walk_Range_row_Row t i j = some ((stA l.length i : Int), (stB l.length i j : Int), t.fRoot) := by
  unfold walk_Range_row_Row
  rw [stretch_eq t l ht, bnd_some']
end Go.Proofs.Ytpmhiiemklhbhaa.S
