/- Plain facts for one law: printed by prune.py out of Tra Trb Trc Trd Trp. -/
import Derived.Test.YtkmdfaodbiknlaaG0
import Derived.Test.YtkmdfaodbiknlaaG1xa
import Derived.Test.YtkmdfaodbiknlaaG2xa
import Derived.Test.YtkmdfaodbiknlaaG3xa
import Derived.Test.YtkmdfaodbiknlaaG4xa
import Derived.Test.YtkmdfaodbiknlaaG5xa
import Derived.Test.YtkmdfaodbiknlaaSD
set_option linter.unusedVariables false
namespace Go.Proofs.Ytkmdfaodbiknlaa.S
open Go Go.Sm
theorem map_inj {α β : Type} {f : α → β} (hf : ∀ a b, f a = f b → a = b) : ∀ {l m : List α}, l.map f = m.map f → l = m
  | [], [], _ => rfl
  | [], _ :: _, h => by simp at h
  | _ :: _, [], h => by simp at h
  | a :: l, b :: m, h => by
    simp only [List.map_cons, List.cons.injEq] at h
    rw [hf _ _ h.1, map_inj hf h.2]
theorem eNP_inj (a b : NP) (h : eNP a = eNP b) : a = b := by
  cases a; cases b
  simpa [eNP] using h
/-- A row cut into parts of nearly the same length. -/
theorem cuts_loop {α : Type} {f : List α × Int × List (List α) → Option (Lp (List α × Int × List (List α)) (List (List α)))} {cl : List α → Option (List α)} (hcl : ∀ l, l.length ≤ 2000000 → cl l = some l)
    (hf : ∀ l m out, f (l, m, out) = if m > 0 then bnd (dvd (l.length : Int) m) fun x15 => bnd (cut l 0 x15) fun x16 => bnd (cl x16) fun x17 => bnd (app 24 out [x17]) fun x19 => bnd (cut l x15 (l.length : Int)) fun x21 => some (.next (x21, w64 (m - 1), x19)) else some (.done out)) :
    ∀ (m : Nat) (l : List α) (out : List (List α)), l.length ≤ 6 * m → l.length ≤ 2000000 → out.length + m ≤ 2000000 →
      ∃ ps, loop f (l, (m : Int), out) = some (out ++ ps) ∧ ps.flatten = l ∧ ps.length = m ∧ (∀ p ∈ ps, p.length ≤ 6) ∧ ∀ c, c * m ≤ l.length → ∀ p ∈ ps, c ≤ p.length := by
  intro m
  induction m with
  | zero =>
    intro l out h1 _ _
    obtain rfl := List.length_eq_zero_iff.1 (show l.length = 0 by omega)
    refine ⟨[], ?_, rfl, rfl, (fun p hp => by cases hp), (fun c _ p hp => by cases hp)⟩
    rw [List.append_nil]
    refine loop_done ?_
    rw [hf, if_neg (by simp)]
  | succ m ih =>
    intro l out h1 h2 h3
    have hd : (m + 1) * (l.length / (m + 1)) + l.length % (m + 1) = l.length := Nat.div_add_mod _ _
    have hr : l.length % (m + 1) < m + 1 := Nat.mod_lt _ (by omega)
    have h6 : l.length / (m + 1) ≤ 6 := Nat.div_le_of_le_mul (by omega)
    have hlow : ∀ c, c * (m + 1) ≤ l.length → c ≤ l.length / (m + 1) := fun c hc => (Nat.le_div_iff_mul_le (by omega)).2 hc
    have hdv : dvd (l.length : Int) ((m + 1 : Nat) : Int) = some (((l.length / (m + 1) : Nat)) : Int) := by
      rw [dvd_of (by omega)]
      show some (w64 (((l.length / (m + 1) : Nat)) : Int)) = _
      have h6' := h6
      generalize l.length / (m + 1) = n at h6' ⊢
      rw [w64_id ⟨by omega, by omega⟩]
    generalize l.length / (m + 1) = n at *
    generalize l.length % (m + 1) = r at *
    have e1 : (m + 1) * n = m * n + n := Nat.succ_mul m n
    have hle : n ≤ l.length := by omega
    have hs6 : (l.drop n).length ≤ 6 * m := by
      rw [List.length_drop]
      rcases Nat.lt_or_ge n 6 with hn | hn
      · have : m * n ≤ m * 5 := Nat.mul_le_mul_left m (by omega)
        omega
      · have : n = 6 := by omega
        omega
    obtain ⟨ps, p1, p2, p3, p4, p5⟩ := ih (l.drop n) (out ++ [l.take n]) hs6 (by rw [List.length_drop]; omega) (by rw [List.length_append]; simp only [List.length_cons, List.length_nil]; omega)
    refine ⟨l.take n :: ps, loop_next (s' := (l.drop n, (m : Int), out ++ [l.take n])) ?_ ?_, ?_, by simp [p3], fun p hp => ?_, fun c hc p hp => ?_⟩
    · rw [hf, if_pos (by omega), hdv, bnd_some', cut_of ⟨by omega, by omega, by omega⟩, bnd_some', hcl _ (by simp; omega), bnd_some', app_of (by simp; omega), bnd_some', cut_of ⟨by omega, by omega, by omega⟩, bnd_some', w64_id ⟨by omega, by omega⟩]
      simp
    · rw [p1]; simp
    · rw [List.flatten_cons, p2, List.take_append_drop]
    · rcases List.mem_cons.1 hp with rfl | hp
      · rw [List.length_take]; omega
      · exact p4 p hp
    · have hcn := hlow c hc
      rcases List.mem_cons.1 hp with rfl | hp
      · rw [List.length_take]; omega
      · refine p5 c ?_ p hp
        rw [List.length_drop]
        have : m * c ≤ m * n := Nat.mul_le_mul_left m hcn
        have e2 : c * m = m * c := Nat.mul_comm _ _
        omega
theorem many_eq (n : Nat) (h : n ≤ 2000000) : w64 (quo (w64 ((w64 ((n : Int) + 6)) - 1)) 5) = (((n + 5) / 6 : Nat) : Int) := by
  rw [w64_id (x := (n : Int) + 6) ⟨by omega, by omega⟩, w64_id (x := (n : Int) + 6 - 1) ⟨by omega, by omega⟩, show (n : Int) + 6 - 1 = ((n + 5 : Nat) : Int) by omega]
  have : quo ((n + 5 : Nat) : Int) 5 = (((n + 5) / 6 : Nat) : Int) := rfl
  rw [this, w64_id ⟨by omega, by omega⟩]
/-- slices.Concat. -/
theorem concat_gen {α : Type} {f1 : Int × Int → Option (Lp (Int × Int) Int)} {f2 : Int × List α → Option (Lp (Int × List α) (List α))} {gr : Int → Option (List α)} (L : List (List α))
    (h1 : ∀ s, f1 s = if s.2 < (L.length : Int) then bnd (idx L s.2) fun x11 => if (w64 (s.1 + (x11.length : Int))) < 0 then none else some (.next (w64 (s.1 + (x11.length : Int)), w64 (s.2 + 1))) else some (.done s.1)) {by_ : Nat} (hby : by_ ≤ 100)
    (h2 : ∀ s, f2 s = if s.1 < (L.length : Int) then bnd (idx L s.1) fun x27 => bnd (app by_ s.2 x27) fun x28 => some (.next (w64 (s.1 + 1), x28)) else some (.done s.2))
    (hg : ∀ n : Nat, n ≤ 2000000 → gr (n : Int) = some []) (hb : L.flatten.length ≤ 2000000) (hl : L.length ≤ 1000) :
    (bnd (loop f1 (0, 0)) fun t1 => bnd (gr t1) fun x13 => bnd (loop f2 (0, x13)) fun t15 => some t15) = some L.flatten := by
  have hpre : ∀ pre x suf, L = pre ++ x :: suf → pre.flatten.length + x.length ≤ 2000000 ∧ pre.length + 1 ≤ 1000 := fun pre x suf hs => by
    rw [hs] at hb hl
    simp only [List.flatten_append, List.flatten_cons, List.length_append, List.length_cons] at hb hl
    omega
  have l1 := loop_fold (f := f1) (fun k (s : Int) => (s, k)) L (fun pre => (pre.flatten.length : Int)) (t := (L.flatten.length : Int)) (fun pre x suf hs => by
    obtain ⟨b1, b2⟩ := hpre pre x suf hs
    have hlen : L.length = pre.length + (suf.length + 1) := by rw [hs]; simp
    rw [h1]
    dsimp only
    rw [if_pos (by omega), show idx L (pre.length : Int) = some x by rw [hs]; exact idx_at pre x suf, bnd_some', w64_id ⟨by omega, by omega⟩, if_neg (by omega), w64_id ⟨by omega, by omega⟩]
    simp) (by rw [h1]; dsimp only; rw [if_neg (by omega)])
  have l2 := loop_fold (f := f2) (fun k (s : List α) => (k, s)) L (fun pre => pre.flatten) (t := L.flatten) (fun pre x suf hs => by
    obtain ⟨b1, b2⟩ := hpre pre x suf hs
    have hlen : L.length = pre.length + (suf.length + 1) := by rw [hs]; simp
    rw [h2]
    dsimp only
    rw [if_pos (by omega), show idx L (pre.length : Int) = some x by rw [hs]; exact idx_at pre x suf, bnd_some', app_of (Nat.le_trans (Nat.mul_le_mul b1 (show by_ + 1 ≤ 101 by omega)) (by decide)), bnd_some', w64_id ⟨by omega, by omega⟩]
    simp) (by rw [h2]; dsimp only; rw [if_neg (by omega)])
  have l1' : loop f1 (0, 0) = some (L.flatten.length : Int) := by simpa using l1
  have l2' : loop f2 (0, []) = some L.flatten := by simpa using l2
  rw [l1', bnd_some', hg _ hb, bnd_some', l2', bnd_some']
abbrev El := Int
abbrev Nd := tree_Node_int
theorem eEl_inj (a b : El) (h : (eI .i64) a = (eI .i64) b) : a = b := by
  unfold eI at h
  injection h with h
  injection h
theorem cN_inj (a b : Nd) (h : c_tree_Node_int a = c_tree_Node_int b) : a = b := by
  obtain ⟨k, i, n⟩ := a
  obtain ⟨k', i', n'⟩ := b
  simp only [c_tree_Node_int, NP.mk.injEq, List.cons.injEq, Dat.sl.injEq, Dat.val.injEq, Value.int.injEq, true_and, and_true] at h
  obtain ⟨h1, h2, h3⟩ := h
  rw [map_inj eNP_inj h1, map_inj eEl_inj h2, h3]
theorem oN (z : Nd) : o_tree_Node_int (c_tree_Node_int z) = some z := npOpen_of cN_inj z
def wd (z : Nd) : Nat := z.fKids.length + z.fItems.length
/-- A node, so many nodes above a leaf, and its things. -/
def T : Nat → Nd → List El → Prop
  | 0, z, l => z = ⟨[], l, (l.length : Int)⟩
  | h + 1, z, l => z.fItems = [] ∧ z.fN = (l.length : Int) ∧ ∃ zs : List (Nd × List El), z.fKids = zs.map (fun p => c_tree_Node_int p.1) ∧ l = zs.flatMap (fun p => p.2) ∧ ∀ p ∈ zs, T h p.1 p.2 ∧ 3 ≤ wd p.1 ∧ wd p.1 ≤ 6
/-- Nodes as high as each other, none with fewer things than so many. -/
def Fo (lo h : Nat) (xs : List NP) (l : List El) : Prop := ∃ zs : List (Nd × List El), xs = zs.map (fun p => c_tree_Node_int p.1) ∧ l = zs.flatMap (fun p => p.2) ∧ ∀ p ∈ zs, T h p.1 p.2 ∧ lo ≤ wd p.1 ∧ wd p.1 ≤ 6
theorem T_succ {h : Nat} {z : Nd} {l : List El} : T (h + 1) z l ↔ z.fItems = [] ∧ z.fN = (l.length : Int) ∧ Fo 3 h z.fKids l := Iff.rfl
theorem T_N {h : Nat} {z : Nd} {l : List El} (ht : T h z l) : z.fN = (l.length : Int) := by
  cases h with
  | zero => rw [show z = ⟨[], l, (l.length : Int)⟩ from ht]
  | succ h => exact ht.2.1
theorem Fo.nil {lo h : Nat} : Fo lo h [] [] := ⟨[], rfl, rfl, fun p hp => by cases hp⟩
theorem Fo.nil_inv {lo h : Nat} {l : List El} (hf : Fo lo h [] l) : l = [] := by
  obtain ⟨zs, h1, h2, _⟩ := hf
  cases zs with
  | nil => exact h2
  | cons a b => simp at h1
theorem Fo.one {lo h : Nat} {z : Nd} {l : List El} (ht : T h z l) (h1 : lo ≤ wd z) (h2 : wd z ≤ 6) : Fo lo h [c_tree_Node_int z] l := ⟨[(z, l)], rfl, by simp, fun p hp => by simp at hp; subst hp; exact ⟨ht, h1, h2⟩⟩
theorem Fo.app {lo h : Nat} {a b : List NP} {l m : List El} (ha : Fo lo h a l) (hb : Fo lo h b m) : Fo lo h (a ++ b) (l ++ m) := by
  obtain ⟨zs, rfl, rfl, h1⟩ := ha
  obtain ⟨ws, rfl, rfl, h2⟩ := hb
  exact ⟨zs ++ ws, by simp, by simp, fun p hp => (List.mem_append.1 hp).elim (h1 p) (h2 p)⟩
theorem Fo.split {lo h : Nat} {a b : List NP} {l : List El} (hf : Fo lo h (a ++ b) l) : ∃ la lb, l = la ++ lb ∧ Fo lo h a la ∧ Fo lo h b lb := by
  obtain ⟨zs, h1, rfl, h2⟩ := hf
  obtain ⟨xs, ys, rfl, rfl, rfl⟩ := List.map_eq_append_iff.1 h1.symm
  exact ⟨_, _, by rw [List.flatMap_append], ⟨xs, rfl, rfl, fun p hp => h2 p (List.mem_append.2 (.inl hp))⟩, ⟨ys, rfl, rfl, fun p hp => h2 p (List.mem_append.2 (.inr hp))⟩⟩
theorem Fo.cons_inv {lo h : Nat} {x : NP} {xs : List NP} {l : List El} (hf : Fo lo h (x :: xs) l) : ∃ z m r, x = c_tree_Node_int z ∧ T h z m ∧ lo ≤ wd z ∧ wd z ≤ 6 ∧ l = m ++ r ∧ Fo lo h xs r := by
  obtain ⟨zs, h1, rfl, h2⟩ := hf
  cases zs with
  | nil => simp at h1
  | cons p zs =>
    simp only [List.map_cons, List.cons.injEq] at h1
    obtain ⟨g1, g2, g3⟩ := h2 p (by simp)
    exact ⟨p.1, p.2, _, h1.1, g1, g2, g3, by simp, ⟨zs, h1.2, rfl, fun q hq => h2 q (by simp [hq])⟩⟩
theorem Fo.mono {lo lo' h : Nat} {xs : List NP} {l : List El} (hf : Fo lo h xs l) (hl : lo' ≤ lo) : Fo lo' h xs l := by
  obtain ⟨zs, h1, h2, h3⟩ := hf
  exact ⟨zs, h1, h2, fun p hp => ⟨(h3 p hp).1, Nat.le_trans hl (h3 p hp).2.1, (h3 p hp).2.2⟩⟩
/-- A node in the midst. -/
theorem Fo.at_ {lo h : Nat} {xs : List NP} {l : List El} (hf : Fo lo h xs l) {k : Nat} (hk : k < xs.length) : ∃ z la m lb, xs[k]? = some (c_tree_Node_int z) ∧ T h z m ∧ lo ≤ wd z ∧ wd z ≤ 6 ∧ l = la ++ m ++ lb ∧ Fo lo h (xs.take k) la ∧ Fo lo h (xs.drop (k + 1)) lb := by
  have e : xs = xs.take k ++ xs[k] :: xs.drop (k + 1) := by rw [← List.drop_eq_getElem_cons hk, List.take_append_drop]
  rw [e] at hf
  obtain ⟨la, lb, rfl, h1, h2⟩ := hf.split
  obtain ⟨z, m, r, g1, g2, g3, g4, rfl, g6⟩ := h2.cons_inv
  exact ⟨z, la, m, r, by rw [List.getElem?_eq_getElem hk, g1], g2, g3, g4, by simp, h1, g6⟩
theorem cloneEl (l : List El) (h : l.length ≤ 2000000) : slices_Clone_int_int l = some l := by
  unfold slices_Clone_int_int
  rw [app_of (by simp; omega), bnd_some', List.nil_append]
theorem cloneNP (l : List NP) (h : l.length ≤ 2000000) : slices_Clone_tree_Node_int_tree_Node_int l = some l := by
  unfold slices_Clone_tree_Node_int_tree_Node_int
  rw [app_of (by simp; omega), bnd_some', List.nil_append]
theorem cutsEl (l : List El) (h : l.length ≤ 2000000) : ∃ ps, tree_cuts_int l = some ps ∧ ps.flatten = l ∧ ps.length = (l.length + 5) / 6 ∧ (∀ p ∈ ps, p.length ≤ 6) ∧ ∀ c, c * ((l.length + 5) / 6) ≤ l.length → ∀ p ∈ ps, c ≤ p.length := by
  obtain ⟨ps, p1, p2⟩ := cuts_loop (f := tree_cuts_int.l1) (cl := slices_Clone_int_int) cloneEl (fun l m out => rfl) ((l.length + 5) / 6) l [] (by omega) h (by simp; omega)
  refine ⟨ps, ?_, p2⟩
  unfold tree_cuts_int
  rw [many_eq _ h, mkc_of ⟨by omega, by omega⟩, bnd_some', p1, bnd_some', List.nil_append]
theorem cutsNP (l : List NP) (h : l.length ≤ 2000000) : ∃ ps, tree_cuts_tree_Node_int l = some ps ∧ ps.flatten = l ∧ ps.length = (l.length + 5) / 6 ∧ (∀ p ∈ ps, p.length ≤ 6) ∧ ∀ c, c * ((l.length + 5) / 6) ≤ l.length → ∀ p ∈ ps, c ≤ p.length := by
  obtain ⟨ps, p1, p2⟩ := cuts_loop (f := tree_cuts_tree_Node_int.l1) (cl := slices_Clone_tree_Node_int_tree_Node_int) cloneNP (fun l m out => rfl) ((l.length + 5) / 6) l [] (by omega) h (by simp; omega)
  refine ⟨ps, ?_, p2⟩
  unfold tree_cuts_tree_Node_int
  rw [many_eq _ h, mkc_of ⟨by omega, by omega⟩, bnd_some', p1, bnd_some', List.nil_append]
theorem leaf_fo (p : List El) {lo : Nat} (h1 : lo ≤ p.length) (h2 : p.length ≤ 6) : Fo lo 0 [c_tree_Node_int ⟨[], p, (p.length : Int)⟩] p := Fo.one rfl (by simpa [wd] using h1) (by simpa [wd] using h2)
theorem leaves_fo {lo : Nat} : ∀ (ps : List (List El)), (∀ p ∈ ps, lo ≤ p.length ∧ p.length ≤ 6) → Fo lo 0 (ps.map fun p => c_tree_Node_int ⟨[], p, (p.length : Int)⟩) ps.flatten
  | [], _ => Fo.nil
  | p :: ps, h => by
    have := (leaf_fo p (h p (by simp)).1 (h p (by simp)).2).app (leaves_fo ps (fun q hq => h q (by simp [hq])))
    simpa using this
theorem leaves_eq (l : List El) (h : l.length ≤ 2000000) : ∃ xs, tree_leaves_int l = some xs ∧ xs.length = (l.length + 5) / 6 ∧ ∀ c, c * ((l.length + 5) / 6) ≤ l.length → Fo c 0 xs l := by
  obtain ⟨ps, p1, p2, p3, p4, p5⟩ := cutsEl l h
  refine ⟨ps.map fun p => c_tree_Node_int ⟨[], p, (p.length : Int)⟩, ?_, by rw [List.length_map, p3], fun c hc => ?_⟩
  · unfold tree_leaves_int
    rw [p1, bnd_some']
    have hh := loop_fold (f := tree_leaves_int.l1 ps) (fun k (s : List NP) => (k, s)) ps (fun pre => pre.map fun p => c_tree_Node_int ⟨[], p, (p.length : Int)⟩) (t := ps.map fun p => c_tree_Node_int ⟨[], p, (p.length : Int)⟩)
      (fun pre x suf hs => by
        have hlen : ps.length = pre.length + (suf.length + 1) := by rw [hs]; simp
        unfold tree_leaves_int.l1 tree_leaf_int
        dsimp only
        rw [if_pos (by omega), show idx ps (pre.length : Int) = some x by rw [hs]; exact idx_at pre x suf, bnd_some', bnd_some', app_of (by simp; omega), bnd_some', w64_id ⟨by omega, by omega⟩, List.map_append]
        rfl)
      (by
        unfold tree_leaves_int.l1
        dsimp only
        rw [if_neg (by omega)])
    have h' : loop (tree_leaves_int.l1 ps) (0, []) = some (ps.map fun p => c_tree_Node_int ⟨[], p, (p.length : Int)⟩) := by simpa using hh
    rw [h', bnd_some']
  · have := leaves_fo (lo := c) ps (fun p hp => ⟨p5 c hc p hp, p4 p hp⟩)
    rwa [p2] at this
theorem inner_eq {h : Nat} {ks : List NP} {l : List El} (hf : Fo 3 h ks l) (hk : ks.length ≤ 2000000) (hl : l.length ≤ 2000000) : tree_inner_int ks = some (ks, [], (l.length : Int)) := by
  obtain ⟨zs, rfl, rfl, h3⟩ := hf
  have hh := loop_fold (f := tree_inner_int.l1 (zs.map fun p => c_tree_Node_int p.1)) (fun k (s : Int) => (k, s)) zs (fun pre => ((pre.flatMap (fun p => p.2)).length : Int)) (t := ((zs.flatMap (fun p => p.2)).length : Int))
    (fun pre x suf hs => by
      have hlen : zs.length = pre.length + (suf.length + 1) := by rw [hs]; simp
      have hxl : (pre.flatMap (fun p => p.2)).length + x.2.length ≤ 2000000 := by
        rw [hs] at hl
        simp only [List.flatMap_append, List.flatMap_cons, List.length_append] at hl
        omega
      have hN := T_N (h3 x (by rw [hs]; simp)).1
      rw [List.length_map] at hk
      unfold tree_inner_int.l1
      dsimp only
      rw [if_pos (by rw [List.length_map]; omega), idx_of (show (zs.map fun p => c_tree_Node_int p.1)[pre.length]? = some (c_tree_Node_int x.1) by rw [hs]; simp), bnd_some', oN, bnd_some', hN, w64_id ⟨by omega, by omega⟩, w64_id ⟨by omega, by omega⟩]
      simp)
    (by
      unfold tree_inner_int.l1
      dsimp only
      rw [if_neg (by rw [List.length_map]; omega)])
  unfold tree_inner_int
  have h' : loop (tree_inner_int.l1 (zs.map fun p => c_tree_Node_int p.1)) (0, 0) = some ((zs.flatMap (fun p => p.2)).length : Int) := by simpa using hh
  rw [h', bnd_some']
theorem inner_T {h : Nat} {ks : List NP} {l : List El} (hf : Fo 3 h ks l) : T (h + 1) ⟨ks, [], (l.length : Int)⟩ l ∧ wd ⟨ks, [], (l.length : Int)⟩ = ks.length := ⟨T_succ.2 ⟨rfl, rfl, hf⟩, by simp [wd]⟩
theorem inners_eq {h : Nat} {ks : List NP} {l : List El} (hf : Fo 3 h ks l) (hk : ks.length ≤ 2000000) (hl : l.length ≤ 2000000) : ∃ xs, tree_inners_int ks = some xs ∧ xs.length = (ks.length + 5) / 6 ∧ ∀ c, c * ((ks.length + 5) / 6) ≤ ks.length → Fo c (h + 1) xs l := by
  obtain ⟨ps, p1, p2, p3, p4, p5⟩ := cutsNP ks hk
  have key : ∀ (suf pre : List (List NP)) (out : List NP) (l1 l2 : List El), ps = pre ++ suf → out.length = pre.length → l = l1 ++ l2 → Fo 3 h suf.flatten l2 → (∀ c, (∀ p ∈ ps, c ≤ p.length) → Fo c (h + 1) out l1) →
      ∃ xs, loop (tree_inners_int.l1 ps) ((pre.length : Int), out) = some xs ∧ xs.length = ps.length ∧ ∀ c, (∀ p ∈ ps, c ≤ p.length) → Fo c (h + 1) xs l := by
    intro suf
    induction suf with
    | nil =>
      intro pre out l1 l2 hp ho hl12 hf2 hc
      have := hf2.nil_inv
      subst this
      rw [List.append_nil] at hl12 hp
      subst hl12 hp
      refine ⟨out, loop_done ?_, ho, hc⟩
      unfold tree_inners_int.l1
      dsimp only
      rw [if_neg (by omega)]
    | cons p suf ih =>
      intro pre out l1 l2 hp ho hl12 hf2 hc
      have hlen : ps.length = pre.length + (suf.length + 1) := by rw [hp]; simp
      rw [List.flatten_cons] at hf2
      obtain ⟨la, lb, rfl, g1, g2⟩ := hf2.split
      have hla : la.length ≤ 2000000 := by rw [hl12] at hl; simp only [List.length_append] at hl; omega
      have hp6 := p4 p (by rw [hp]; simp)
      obtain ⟨t1, t2⟩ := inner_T g1
      obtain ⟨xs, x1, x2, x3⟩ := ih (pre ++ [p]) (out ++ [c_tree_Node_int ⟨p, [], (la.length : Int)⟩]) (l1 ++ la) lb (by rw [hp]; simp) (by simp [ho]) (by rw [hl12]; simp) g2 (fun c hcp => (hc c hcp).app (Fo.one t1 (by rw [t2]; exact hcp p (by rw [hp]; simp)) (by rw [t2]; exact hp6)))
      refine ⟨xs, loop_next (s' := ((pre.length : Int) + 1, out ++ [c_tree_Node_int ⟨p, [], (la.length : Int)⟩])) ?_ ?_, x2, x3⟩
      · unfold tree_inners_int.l1
        dsimp only
        rw [if_pos (by omega), show idx ps (pre.length : Int) = some p by rw [hp]; exact idx_at pre p suf, bnd_some', inner_eq g1 (by omega) hla, bnd_some', app_of (by simp; omega), bnd_some', w64_id ⟨by omega, by omega⟩]
      · rw [← x1]; simp
  obtain ⟨xs, x1, x2, x3⟩ := key ps [] [] [] l rfl rfl rfl (by rw [p2]; exact hf) (fun c _ => Fo.nil)
  refine ⟨xs, ?_, by rw [x2, p3], fun c hc => x3 c (p5 c hc)⟩
  unfold tree_inners_int
  rw [p1, bnd_some']
  rw [show ((([] : List (List NP)).length : Nat) : Int) = 0 from rfl] at x1
  rw [x1, bnd_some']
/-- A root: neither empty, nor with one kid alone. -/
def Rt (h : Nat) (z : Nd) (l : List El) : Prop := T h z l ∧ wd z ≤ 6 ∧ z.fKids.length ≠ 1 ∧ l ≠ []
def IsT (t : tree_Tree_int) (l : List El) : Prop := (l = [] ∧ t = ⟨none⟩) ∨ ∃ h z, t = ⟨some (c_tree_Node_int z)⟩ ∧ Rt h z l
/-- Nodes that may be put together: one, or none with too few. -/
def Up (h : Nat) (xs : List NP) (l : List El) : Prop := Fo 0 h xs l ∧ (xs.length ≤ 1 ∨ Fo 3 h xs l)
theorem aboveLoop : ∀ (n h : Nat) (xs : List NP) (l : List El), xs.length ≤ n → xs.length ≤ 2000000 → l.length ≤ 2000000 → Up h xs l → ∃ h' ys, loop tree_above_int.l1 xs = some ys ∧ Fo 0 h' ys l ∧ ys.length ≤ 1 := by
  intro n
  induction n with
  | zero =>
    intro h xs l hn hk hl hu
    refine ⟨h, xs, loop_done ?_, hu.1, by omega⟩
    unfold tree_above_int.l1
    rw [if_neg (by omega)]
  | succ n ih =>
    intro h xs l hn hk hl hu
    by_cases c : xs.length ≤ 1
    · refine ⟨h, xs, loop_done ?_, hu.1, c⟩
      unfold tree_above_int.l1
      rw [if_neg (by omega)]
    · have h3 : Fo 3 h xs l := hu.2.resolve_left c
      obtain ⟨ys, y1, y2, y3⟩ := inners_eq h3 hk hl
      obtain ⟨h', zs, z1, z2⟩ := ih (h + 1) ys l (by omega) (by omega) hl ⟨y3 0 (by omega), by
        by_cases c2 : ys.length ≤ 1
        · exact .inl c2
        · exact .inr (y3 3 (by omega))⟩
      refine ⟨h', zs, loop_next (s' := ys) ?_ z1, z2⟩
      unfold tree_above_int.l1
      rw [if_pos (by omega), y1, bnd_some']
theorem kids_ge {h : Nat} {z : Nd} {l : List El} (ht : T h z l) (hw : 3 ≤ wd z) : z.fKids.length ≠ 1 := by
  cases h with
  | zero => rw [show z = ⟨[], l, (l.length : Int)⟩ from ht]; simp
  | succ h =>
    have := ht.1
    unfold wd at hw
    rw [this] at hw
    simp at hw
    omega
theorem above_eq {h : Nat} {xs : List NP} {l : List El} (hu : Up h xs l) (hk : xs.length ≤ 2000000) (hl : l.length ≤ 2000000) : ∃ t, tree_above_int xs = some t ∧ IsT t l := by
  obtain ⟨h', ys, y1, y2, y3⟩ := aboveLoop xs.length h xs l (Nat.le_refl _) hk hl hu
  unfold tree_above_int
  rw [y1, bnd_some']
  match ys, y2, y3 with
  | [], y2, _ =>
    rw [if_pos (by rfl), bnd_some', if_pos rfl]
    exact ⟨_, rfl, .inl ⟨y2.nil_inv, rfl⟩⟩
  | [x], y2, _ =>
    obtain ⟨z, m, r, rfl, g1, g2, g3, g4, g5⟩ := y2.cons_inv
    have := g5.nil_inv
    subst this
    rw [List.append_nil] at g4
    subst g4
    have hN := T_N g1
    rw [if_neg (by simp), show idx [c_tree_Node_int z] 0 = some (c_tree_Node_int z) from rfl, bnd_some', oN, bnd_some', bnd_some', hN]
    by_cases c : l = []
    · subst c
      rw [if_pos (by simp)]
      exact ⟨_, rfl, .inl ⟨rfl, rfl⟩⟩
    · have hm : l.length ≠ 0 := fun e => c (List.length_eq_zero_iff.1 e)
      rw [if_neg (by simp; exact c), bnd_some', oN, bnd_some']
      by_cases c1 : z.fKids.length = 1
      · cases h' with
        | zero => rw [show z = ⟨[], l, (l.length : Int)⟩ from g1] at c1; simp at c1
        | succ h' =>
          obtain ⟨k1, k2, k3⟩ := T_succ.1 g1
          obtain ⟨x, hx⟩ := List.length_eq_one_iff.1 c1
          rw [hx] at k3
          obtain ⟨w, m', r', rfl, w1, w2, w3, w4, w5⟩ := k3.cons_inv
          have := w5.nil_inv
          subst this
          rw [List.append_nil] at w4
          subst w4
          have hne := kids_ge w1 w2
          have hlp : loop tree_above_int.l2 (z.fKids, z.fItems, z.fN) = some (w.fKids, w.fItems, w.fN) := by
            refine loop_next (s' := (w.fKids, w.fItems, w.fN)) ?_ (loop_done ?_)
            · unfold tree_above_int.l2
              dsimp only
              rw [if_pos (by omega), hx, show idx [c_tree_Node_int w] 0 = some (c_tree_Node_int w) from rfl, bnd_some', oN, bnd_some']
            · unfold tree_above_int.l2
              dsimp only
              rw [if_neg (by omega)]
          rw [hlp, bnd_some']
          exact ⟨_, rfl, .inr ⟨h', w, rfl, w1, w3, hne, c⟩⟩
      · have hlp : loop tree_above_int.l2 (z.fKids, z.fItems, z.fN) = some (z.fKids, z.fItems, z.fN) := by
          refine loop_done ?_
          unfold tree_above_int.l2
          dsimp only
          rw [if_neg (by omega)]
        rw [hlp, bnd_some']
        exact ⟨_, rfl, .inr ⟨h', z, rfl, g1, g3, c1, c⟩⟩
theorem Of_eq (l : List El) (hl : l.length ≤ 2000000) : ∃ t, tree_Of_int l = some t ∧ IsT t l := by
  obtain ⟨xs, x1, x2, x3⟩ := leaves_eq l hl
  obtain ⟨t, t1, t2⟩ := above_eq (h := 0) (xs := xs) (l := l) ⟨x3 0 (by omega), by
    by_cases c : xs.length ≤ 1
    · exact .inl c
    · exact .inr (x3 3 (by omega))⟩ (by omega) hl
  unfold tree_Of_int
  rw [x1, bnd_some', t1, bnd_some']
  exact ⟨t, rfl, t2⟩
/-- Others in the place of some. -/
def repL {α : Type} (l : List α) (i j : Nat) (w : List α) : List α := l.take i ++ w ++ l.drop j
theorem rep3 {α : Type} (la m lb : List α) {i j : Nat} (w : List α) (h1 : la.length ≤ i) (h2 : i ≤ j) (h3 : j ≤ la.length + m.length) : repL (la ++ m ++ lb) i j w = la ++ repL m (i - la.length) (j - la.length) w ++ lb := by
  have e1 : (la ++ m ++ lb).take i = la ++ m.take (i - la.length) := by
    rw [List.append_assoc, List.take_append, List.take_of_length_le h1, List.take_append_of_le_length (by omega)]
  have e2 : (la ++ m ++ lb).drop j = m.drop (j - la.length) ++ lb := by
    rw [List.append_assoc, List.drop_append, List.drop_of_length_le (by omega), List.nil_append, List.drop_append_of_le_length (by omega)]
  unfold repL
  rw [e1, e2]
  simp
theorem repL_len {α : Type} (l : List α) {i j : Nat} (w : List α) (h1 : i ≤ j) (h2 : j ≤ l.length) : (repL l i j w).length = l.length + w.length - (j - i) := by
  unfold repL
  simp only [List.length_append, List.length_take, List.length_drop]
  omega
theorem growEl (n : Nat) (h : n ≤ 2000000) : slices_Grow_int_int (n : Int) = some [] := by
  unfold slices_Grow_int_int
  rw [if_neg (by omega), w64_id ⟨by omega, by omega⟩]
  by_cases c : (n : Int) - 0 > 0
  · rw [if_pos c, mkg_of ⟨by omega, by omega⟩, bnd_some', bnd_some']
  · rw [if_neg c, bnd_some']
theorem growNP (n : Nat) (h : n ≤ 2000000) : slices_Grow_tree_Node_int_tree_Node_int (n : Int) = some [] := by
  unfold slices_Grow_tree_Node_int_tree_Node_int
  rw [if_neg (by omega), w64_id ⟨by omega, by omega⟩]
  by_cases c : (n : Int) - 0 > 0
  · rw [if_pos c, mkg_of ⟨by omega, by omega⟩, bnd_some', bnd_some']
  · rw [if_neg c, bnd_some']
theorem concatEl (L : List (List El)) (hb : L.flatten.length ≤ 2000000) (hl : L.length ≤ 1000) : slices_Concat_int_int L = some L.flatten :=
  concat_gen L (fun s => rfl) (by decide) (fun s => rfl) growEl hb hl
theorem concatNP (L : List (List NP)) (hb : L.flatten.length ≤ 2000000) (hl : L.length ≤ 1000) : slices_Concat_tree_Node_int_tree_Node_int L = some L.flatten :=
  concat_gen L (fun s => rfl) (by decide) (fun s => rfl) growNP hb hl
theorem spliceEl (l : List El) (i j : Nat) (w : List El) (h1 : i ≤ l.length) (h2 : j ≤ l.length) (h3 : l.length + w.length ≤ 900000) : tree_splice_int l (i : Int) (j : Int) w = some (repL l i j w) := by
  unfold tree_splice_int
  rw [cut_of ⟨by omega, by omega, by omega⟩, bnd_some', cut_of ⟨by omega, by omega, by omega⟩, bnd_some', concatEl _ (by simp; omega) (by simp), bnd_some', Int.toNat_natCast, Int.toNat_natCast, Int.toNat_natCast, List.take_length]
  simp [repL]
theorem spliceNP (l : List NP) (i j : Nat) (w : List NP) (h1 : i ≤ l.length) (h2 : j ≤ l.length) (h3 : l.length + w.length ≤ 900000) : tree_splice_tree_Node_int l (i : Int) (j : Int) w = some (repL l i j w) := by
  unfold tree_splice_tree_Node_int
  rw [cut_of ⟨by omega, by omega, by omega⟩, bnd_some', cut_of ⟨by omega, by omega, by omega⟩, bnd_some', concatNP _ (by simp; omega) (by simp), bnd_some', Int.toNat_natCast, Int.toNat_natCast, Int.toNat_natCast, List.take_length]
  simp [repL]
theorem Fo.rep {lo h : Nat} {xs ys : List NP} {i j : Nat} {la lb m : List El} (ha : Fo lo h (xs.take i) la) (hm : Fo lo h ys m) (hb : Fo lo h (xs.drop j) lb) : Fo lo h (repL xs i j ys) (la ++ m ++ lb) := (ha.app hm).app hb
theorem kids_wd {h : Nat} {z : Nd} {l : List El} (ht : T (h + 1) z l) : wd z = z.fKids.length := by
  unfold wd; rw [ht.1]; rfl
theorem leaf_wd {z : Nd} {l : List El} (ht : T 0 z l) : wd z = l.length ∧ z.fKids = [] ∧ z.fItems = l := by
  rw [show z = ⟨[], l, (l.length : Int)⟩ from ht]; simp [wd]
theorem fo_ne {lo h : Nat} {xs : List NP} {l : List El} (hf : Fo lo h xs l) (hl : l ≠ []) : 0 < xs.length := by
  cases xs with
  | nil => exact absurd hf.nil_inv hl
  | cons => simp
/-- Which kid has a thing. -/
theorem kid_eq {h : Nat} {ks : List NP} {l : List El} (hf : Fo 3 h ks l) (hk : ks.length ≤ 900000) (hl : l.length ≤ 900000) (hne : 0 < ks.length) (i : Nat) (hi : i ≤ l.length) (is : List El) (n : Int) :
    ∃ k z la m lb, tree_Node_int_kid ks is n (i : Int) = some (((k : Nat) : Int), ((i - la.length : Nat) : Int)) ∧ k < ks.length ∧ ks[k]? = some (c_tree_Node_int z) ∧ T h z m ∧ 3 ≤ wd z ∧ wd z ≤ 6 ∧ l = la ++ m ++ lb ∧ Fo 3 h (ks.take k) la ∧ Fo 3 h (ks.drop (k + 1)) lb ∧
      la.length ≤ i ∧ i ≤ la.length + m.length ∧ (i < l.length → i < la.length + m.length) := by
  have key : ∀ (suf pre : List NP) (lp ls : List El), ks = pre ++ suf → 0 < suf.length → l = lp ++ ls → Fo 3 h pre lp → Fo 3 h suf ls → lp.length ≤ i →
      ∃ k z la m lb, loop (tree_Node_int_kid.l1 ks) (((i - lp.length : Nat) : Int), (pre.length : Int)) = some (((i - la.length : Nat) : Int), ((k : Nat) : Int)) ∧ k < ks.length ∧ ks[k]? = some (c_tree_Node_int z) ∧ T h z m ∧ 3 ≤ wd z ∧ wd z ≤ 6 ∧ l = la ++ m ++ lb ∧ Fo 3 h (ks.take k) la ∧ Fo 3 h (ks.drop (k + 1)) lb ∧
        la.length ≤ i ∧ i ≤ la.length + m.length ∧ (i < l.length → i < la.length + m.length) := by
    intro suf
    induction suf with
    | nil => intro pre lp ls _ h0; simp at h0
    | cons x rest ih =>
      intro pre lp ls hks _ hls hp hs hlp
      obtain ⟨z, m, r, rfl, g1, g2, g3, rfl, g5⟩ := hs.cons_inv
      have hlen : ks.length = pre.length + (rest.length + 1) := by rw [hks]; simp
      have hx : ks[pre.length]? = some (c_tree_Node_int z) := by rw [hks]; simp
      have hll : l.length = lp.length + (m.length + r.length) := by rw [hls]; simp
      have hN := T_N g1
      have htake : ks.take pre.length = pre := by rw [hks]; simp
      have hdrop : ks.drop (pre.length + 1) = rest := by rw [hks]; simp
      have fin : i ≤ lp.length + m.length → (i < l.length → i < lp.length + m.length) → tree_Node_int_kid.l1 ks (((i - lp.length : Nat) : Int), (pre.length : Int)) = some (.done (((i - lp.length : Nat) : Int), (pre.length : Int))) →
          ∃ k z la m lb, loop (tree_Node_int_kid.l1 ks) (((i - lp.length : Nat) : Int), (pre.length : Int)) = some (((i - la.length : Nat) : Int), ((k : Nat) : Int)) ∧ k < ks.length ∧ ks[k]? = some (c_tree_Node_int z) ∧ T h z m ∧ 3 ≤ wd z ∧ wd z ≤ 6 ∧ l = la ++ m ++ lb ∧ Fo 3 h (ks.take k) la ∧ Fo 3 h (ks.drop (k + 1)) lb ∧
            la.length ≤ i ∧ i ≤ la.length + m.length ∧ (i < l.length → i < la.length + m.length) := fun f1 f2 f3 =>
        ⟨pre.length, z, lp, m, r, loop_done f3, by omega, hx, g1, g2, g3, by rw [hls]; simp, by rw [htake]; exact hp, by rw [hdrop]; exact g5, hlp, f1, f2⟩
      by_cases c0 : rest.length = 0
      · obtain rfl := List.length_eq_zero_iff.1 c0
        have := g5.nil_inv
        subst this
        simp only [List.length_nil] at hll hlen
        refine fin (by omega) (by omega) ?_
        unfold tree_Node_int_kid.l1
        dsimp only
        rw [w64_id ⟨by omega, by omega⟩, if_neg (by omega), bnd_some', if_neg (by simp)]
      · by_cases c1 : m.length ≤ i - lp.length
        · have hlpm : (lp ++ m).length = lp.length + m.length := List.length_append
          obtain ⟨k, z', la, m', lb, e1, e2⟩ := ih (pre ++ [c_tree_Node_int z]) (lp ++ m) r (by rw [hks]; simp) (by omega) (by rw [hls]; simp) (hp.app (Fo.one g1 g2 g3)) g5 (by omega)
          refine ⟨k, z', la, m', lb, loop_next (s' := (((i - (lp ++ m).length : Nat) : Int), ((pre ++ [c_tree_Node_int z]).length : Int))) ?_ e1, e2⟩
          unfold tree_Node_int_kid.l1
          dsimp only
          rw [w64_id (x := (ks.length : Int) - 1) ⟨by omega, by omega⟩, if_pos (by omega), idx_of hx, bnd_some', oN, bnd_some', bnd_some', hN, if_pos (by simp; omega), bnd_some', oN, bnd_some', hN, w64_id ⟨by omega, by omega⟩, w64_id ⟨by omega, by omega⟩]
          congr 3
          · omega
          · simp
        · refine fin (by omega) (by omega) ?_
          unfold tree_Node_int_kid.l1
          dsimp only
          rw [w64_id ⟨by omega, by omega⟩, if_pos (by omega), idx_of hx, bnd_some', oN, bnd_some', bnd_some', hN, if_neg (by simp; omega)]
  obtain ⟨k, z, la, m, lb, e1, e2⟩ := key ks [] [] l rfl hne rfl Fo.nil hf (by simp)
  refine ⟨k, z, la, m, lb, ?_, e2⟩
  unfold tree_Node_int_kid
  rw [show ((([] : List El).length)) = 0 from rfl, Nat.sub_zero, show ((([] : List NP).length : Nat) : Int) = 0 from rfl] at e1
  rw [e1, bnd_some']
theorem flat_eq (ks : List NP) (is : List El) (n : Int) : tree_Node_int_flat ks is n = some (decide (ks.length = 0)) := by
  unfold tree_Node_int_flat
  congr 1
  rw [Bool.eq_iff_iff]; simp
theorem set_eq : ∀ (h fu : Nat) (z : Nd) (l : List El) (i : Nat) (x : El), h < fu → T h z l → wd z ≤ 6 → i < l.length → l.length ≤ 800000 →
    ∃ z', tree_Node_int_set fu z.fKids z.fItems z.fN (i : Int) x = some (z'.fKids, z'.fItems, z'.fN) ∧ T h z' (repL l i (i + 1) [x]) ∧ wd z' = wd z ∧ z'.fKids.length = z.fKids.length := by
  intro h
  induction h with
  | zero =>
    intro fu z l i x hfu ht hw hi hl
    obtain ⟨fu, rfl⟩ : ∃ n, fu = n + 1 := ⟨fu - 1, by omega⟩
    obtain ⟨q1, q2, q3⟩ := leaf_wd ht
    have hr := repL_len l (i := i) (j := i + 1) [x] (by omega) (by omega)
    refine ⟨⟨[], repL l i (i + 1) [x], ((repL l i (i + 1) [x]).length : Int)⟩, ?_, rfl, ?_, by rw [q2]⟩
    · show tree_Node_int_set.body (tree_Node_int_set fu) z.fKids z.fItems z.fN (i : Int) x = _
      unfold tree_Node_int_set.body tree_leaf_int
      rw [flat_eq, bnd_some', q2, if_pos (by simp), q3, w64_id ⟨by omega, by omega⟩, show (i : Int) + 1 = ((i + 1 : Nat) : Int) by omega, spliceEl _ _ _ _ (by omega) (by omega) (by simp; omega), bnd_some', bnd_some']
    · rw [q1]; simp only [wd, List.length_nil]; simp at hr; omega
  | succ h ih =>
    intro fu z l i x hfu ht hw hi hl
    obtain ⟨fu, rfl⟩ : ∃ n, fu = n + 1 := ⟨fu - 1, by omega⟩
    have hkw := kids_wd ht
    obtain ⟨t1, t2, t3⟩ := T_succ.1 ht
    have hne : 0 < z.fKids.length := fo_ne t3 (fun e => by rw [e] at hi; simp at hi)
    obtain ⟨k, w, la, m, lb, k1, k2, k3, k4, k5, k6, k7, k8, k9, k10, k11, k12⟩ := kid_eq t3 (by omega) (by omega) hne i (by omega) z.fItems z.fN
    have hm : la.length + m.length ≤ l.length := by rw [k7]; simp
    have k12' := k12 hi
    obtain ⟨w', w1, w2, w3, w4⟩ := ih fu w m (i - la.length) x (by omega) k4 k6 (by omega) (by omega)
    have hrep : repL l i (i + 1) [x] = la ++ repL m (i - la.length) (i - la.length + 1) [x] ++ lb := by
      rw [k7, rep3 la m lb [x] k10 (by omega) (by omega), show i + 1 - la.length = i - la.length + 1 by omega]
    have hfo : Fo 3 h (repL z.fKids k (k + 1) [c_tree_Node_int w']) (repL l i (i + 1) [x]) := by
      rw [hrep]; exact Fo.rep k8 (Fo.one w2 (by omega) (by omega)) k9
    have hrl := repL_len l (i := i) (j := i + 1) [x] (by omega) (by omega)
    have hkl := repL_len z.fKids (i := k) (j := k + 1) [c_tree_Node_int w'] (by omega) (by omega)
    simp only [List.length_cons, List.length_nil] at hrl hkl
    refine ⟨⟨repL z.fKids k (k + 1) [c_tree_Node_int w'], [], ((repL l i (i + 1) [x]).length : Int)⟩, ?_, T_succ.2 ⟨rfl, rfl, hfo⟩, ?_, by dsimp only; omega⟩
    · show tree_Node_int_set.body (tree_Node_int_set fu) z.fKids z.fItems z.fN (i : Int) x = _
      unfold tree_Node_int_set.body
      rw [flat_eq, bnd_some', if_neg (by simp; intro e; rw [e] at hne; simp at hne), k1, bnd_some']
      dsimp only
      rw [idx_of k3, bnd_some', oN, bnd_some', w1, bnd_some', w64_id ⟨by omega, by omega⟩, show (k : Int) + 1 = ((k + 1 : Nat) : Int) by omega, spliceNP _ _ _ _ (by omega) (by omega) (by simp; omega), bnd_some', inner_eq hfo (by omega) (by omega), bnd_some']
    · rw [hkw]; simp only [wd, List.length_nil]; omega
theorem put_eq : ∀ (h fu : Nat) (z : Nd) (l : List El) (i : Nat) (x : El), h < fu → T h z l → wd z ≤ 6 → i ≤ l.length → l.length ≤ 800000 → (0 < h → 0 < z.fKids.length) →
    ∃ xs, tree_Node_int_put fu z.fKids z.fItems z.fN (i : Int) x = some xs ∧ Fo 0 h xs (repL l i i [x]) ∧ 1 ≤ xs.length ∧ xs.length ≤ 2 ∧ (xs.length = 2 → Fo 3 h xs (repL l i i [x])) ∧ (3 ≤ wd z → Fo 3 h xs (repL l i i [x])) := by
  intro h
  induction h with
  | zero =>
    intro fu z l i x hfu ht hw hi hl _
    obtain ⟨fu, rfl⟩ : ∃ n, fu = n + 1 := ⟨fu - 1, by omega⟩
    obtain ⟨q1, q2, q3⟩ := leaf_wd ht
    have hr := repL_len l (i := i) (j := i) [x] (by omega) (by omega)
    simp only [List.length_cons, List.length_nil] at hr
    obtain ⟨xs, x1, x2, x3⟩ := leaves_eq (repL l i i [x]) (by omega)
    refine ⟨xs, ?_, x3 0 (by omega), by omega, by omega, fun _ => x3 3 (by omega), fun _ => x3 3 (by omega)⟩
    show tree_Node_int_put.body (tree_Node_int_put fu) z.fKids z.fItems z.fN (i : Int) x = _
    unfold tree_Node_int_put.body
    rw [flat_eq, bnd_some', q2, if_pos (by simp), q3, spliceEl _ _ _ _ (by omega) (by omega) (by simp; omega), bnd_some', x1, bnd_some']
  | succ h ih =>
    intro fu z l i x hfu ht hw hi hl hkn
    obtain ⟨fu, rfl⟩ : ∃ n, fu = n + 1 := ⟨fu - 1, by omega⟩
    have hkw := kids_wd ht
    obtain ⟨t1, t2, t3⟩ := T_succ.1 ht
    have hne : 0 < z.fKids.length := hkn (by omega)
    obtain ⟨k, w, la, m, lb, k1, k2, k3, k4, k5, k6, k7, k8, k9, k10, k11, k12⟩ := kid_eq t3 (by omega) (by omega) hne i hi z.fItems z.fN
    have hm : la.length + m.length ≤ l.length := by rw [k7]; simp
    obtain ⟨xs, x1, x2, x3, x4, x5, x6⟩ := ih fu w m (i - la.length) x (by omega) k4 k6 (by omega) (by omega) (fun h0 => by
      obtain ⟨h, rfl⟩ : ∃ n, h = n + 1 := ⟨h - 1, by omega⟩
      have := kids_wd k4; omega)
    have hrep : repL l i i [x] = la ++ repL m (i - la.length) (i - la.length) [x] ++ lb := by
      rw [k7, rep3 la m lb [x] k10 (by omega) (by omega)]
    have hfo : Fo 3 h (repL z.fKids k (k + 1) xs) (repL l i i [x]) := by
      rw [hrep]; exact Fo.rep k8 (x6 k5) k9
    have hrl := repL_len l (i := i) (j := i) [x] (by omega) (by omega)
    have hkl := repL_len z.fKids (i := k) (j := k + 1) xs (by omega) (by omega)
    simp only [List.length_cons, List.length_nil] at hrl
    obtain ⟨ys, y1, y2, y3⟩ := inners_eq hfo (by omega) (by omega)
    refine ⟨ys, ?_, y3 0 (by omega), by omega, by omega, fun _ => y3 3 (by omega), fun _ => y3 3 (by omega)⟩
    show tree_Node_int_put.body (tree_Node_int_put fu) z.fKids z.fItems z.fN (i : Int) x = _
    unfold tree_Node_int_put.body
    rw [flat_eq, bnd_some', if_neg (by simp; intro e; rw [e] at hne; simp at hne), k1, bnd_some']
    dsimp only
    rw [idx_of k3, bnd_some', oN, bnd_some', x1, bnd_some', w64_id ⟨by omega, by omega⟩, show (k : Int) + 1 = ((k + 1 : Nat) : Int) by omega, spliceNP _ _ _ _ (by omega) (by omega) (by omega), bnd_some', y1, bnd_some']
theorem glue_eq {h : Nat} {z1 z2 : Nd} {l1 l2 : List El} (h1 : T h z1 l1) (h2 : T h z2 l2) (w1 : wd z1 ≤ 6) (w2 : wd z2 ≤ 6) (w3 : 1 ≤ wd z1 + wd z2) (hl : l1.length + l2.length ≤ 800000) :
    ∃ xs, tree_glue_int z1.fKids z1.fItems z1.fN z2.fKids z2.fItems z2.fN = some xs ∧ xs.length = (wd z1 + wd z2 + 5) / 6 ∧ ∀ c, c * ((wd z1 + wd z2 + 5) / 6) ≤ wd z1 + wd z2 → Fo c h xs (l1 ++ l2) := by
  unfold tree_glue_int
  rw [flat_eq, flat_eq]
  cases h with
  | zero =>
    obtain ⟨a1, a2, a3⟩ := leaf_wd h1
    obtain ⟨b1, b2, b3⟩ := leaf_wd h2
    obtain ⟨xs, x1, x2, x3⟩ := leaves_eq (l1 ++ l2) (by rw [List.length_append]; omega)
    rw [List.length_append] at x2 x3
    refine ⟨xs, ?_, by rw [x2, a1, b1], fun c hc => x3 c (by rw [← a1, ← b1]; exact hc)⟩
    rw [a2, b2, a3, b3, bnd_some', if_pos (by simp), bnd_some', bnd_some', if_pos (by simp), concatEl _ (by simp; omega) (by simp), bnd_some', show ([l1, l2] : List (List El)).flatten = l1 ++ l2 by simp, x1, bnd_some']
  | succ h =>
    have a1 := kids_wd h1
    have b1 := kids_wd h2
    obtain ⟨_, _, a3⟩ := T_succ.1 h1
    obtain ⟨_, _, b3⟩ := T_succ.1 h2
    obtain ⟨xs, x1, x2, x3⟩ := inners_eq (a3.app b3) (by rw [List.length_append]; omega) (by rw [List.length_append]; omega)
    rw [List.length_append] at x2 x3
    refine ⟨xs, ?_, by rw [x2, a1, b1], fun c hc => x3 c (by rw [← a1, ← b1]; exact hc)⟩
    have ht : (bnd (some (decide (z1.fKids.length = 0))) fun x2 => if x2 = true then bnd (some (decide (z2.fKids.length = 0))) fun x4 => some x4 else some false : Option Bool) = some false := by
      rw [bnd_some']
      by_cases c : z1.fKids.length = 0
      · rw [if_pos (by simpa using c), bnd_some', decide_eq_false (by omega)]
      · rw [if_neg (by simpa using c)]
    rw [ht, bnd_some', if_neg (by simp), concatNP _ (by simp; omega) (by simp), bnd_some', show ([z1.fKids, z2.fKids] : List (List NP)).flatten = z1.fKids ++ z2.fKids by simp, x1, bnd_some']
theorem width_eq {z : Nd} (h : wd z ≤ 1000) : tree_Node_int_width z.fKids z.fItems z.fN = some (wd z : Int) := by
  unfold tree_Node_int_width
  unfold wd at h ⊢
  rw [w64_id ⟨by omega, by omega⟩]
  simp
theorem take_eq : ∀ (h fu : Nat) (z : Nd) (l : List El) (i : Nat), h < fu → T h z l → wd z ≤ 6 → i < l.length → l.length ≤ 800000 → (0 < h → 2 ≤ z.fKids.length) →
    ∃ z', tree_Node_int_take fu z.fKids z.fItems z.fN (i : Int) = some (z'.fKids, z'.fItems, z'.fN) ∧ T h z' (repL l i (i + 1) []) ∧ wd z ≤ wd z' + 1 ∧ wd z' ≤ wd z := by
  intro h
  induction h with
  | zero =>
    intro fu z l i hfu ht hw hi hl _
    obtain ⟨fu, rfl⟩ : ∃ n, fu = n + 1 := ⟨fu - 1, by omega⟩
    obtain ⟨q1, q2, q3⟩ := leaf_wd ht
    have hr := repL_len l (i := i) (j := i + 1) [] (by omega) (by omega)
    simp only [List.length_nil] at hr
    refine ⟨⟨[], repL l i (i + 1) [], ((repL l i (i + 1) []).length : Int)⟩, ?_, rfl, ?_, ?_⟩
    · show tree_Node_int_take.body (tree_Node_int_take fu) z.fKids z.fItems z.fN (i : Int) = _
      unfold tree_Node_int_take.body tree_leaf_int
      rw [flat_eq, bnd_some', q2, if_pos (by simp), q3, w64_id ⟨by omega, by omega⟩, show (i : Int) + 1 = ((i + 1 : Nat) : Int) by omega, spliceEl _ _ _ _ (by omega) (by omega) (by simp; omega), bnd_some', bnd_some']
    · rw [q1]; simp only [wd, List.length_nil]; omega
    · rw [q1]; simp only [wd, List.length_nil]; omega
  | succ h ih =>
    intro fu z l i hfu ht hw hi hl hkn
    obtain ⟨fu, rfl⟩ : ∃ n, fu = n + 1 := ⟨fu - 1, by omega⟩
    have hkw := kids_wd ht
    obtain ⟨t1, t2, t3⟩ := T_succ.1 ht
    have hne := hkn (by omega)
    obtain ⟨k, w, la, m, lb, k1, k2, k3, k4, k5, k6, k7, k8, k9, k10, k11, k12⟩ := kid_eq t3 (by omega) (by omega) (by omega) i (by omega) z.fItems z.fN
    have hm : l.length = la.length + m.length + lb.length := by rw [k7]; simp only [List.length_append]
    have k12' := k12 hi
    obtain ⟨w', w1, w2, w3, w4⟩ := ih fu w m (i - la.length) (by omega) k4 k6 (by omega) (by omega) (fun h0 => by
      obtain ⟨h, rfl⟩ : ∃ n, h = n + 1 := ⟨h - 1, by omega⟩
      have := kids_wd k4; omega)
    have hrep : repL l i (i + 1) [] = la ++ repL m (i - la.length) (i - la.length + 1) [] ++ lb := by
      rw [k7, rep3 la m lb [] k10 (by omega) (by omega), show i + 1 - la.length = i - la.length + 1 by omega]
    have hrl := repL_len l (i := i) (j := i + 1) [] (by omega) (by omega)
    have hrm := repL_len m (i := i - la.length) (j := i - la.length + 1) [] (by omega) (by omega)
    simp only [List.length_nil] at hrl hrm
    have fin : ∀ (ks : List NP), Fo 3 h ks (repL l i (i + 1) []) → ks.length ≤ 1000 → z.fKids.length ≤ ks.length + 1 → ks.length ≤ z.fKids.length →
        ∃ z', (bnd (tree_inner_int ks) fun x12 => some (x12.1, x12.2.1, x12.2.2)) = some (z'.fKids, z'.fItems, z'.fN) ∧ T (h + 1) z' (repL l i (i + 1) []) ∧ wd z ≤ wd z' + 1 ∧ wd z' ≤ wd z := fun ks hfo f1 f2 f3 => by
      refine ⟨⟨ks, [], ((repL l i (i + 1) []).length : Int)⟩, ?_, T_succ.2 ⟨rfl, rfl, hfo⟩, ?_, ?_⟩
      · rw [inner_eq hfo (by omega) (by omega), bnd_some']
      · rw [hkw]; simp only [wd, List.length_nil]; omega
      · rw [hkw]; simp only [wd, List.length_nil]; omega
    show ∃ z', tree_Node_int_take.body (tree_Node_int_take fu) z.fKids z.fItems z.fN (i : Int) = _ ∧ _
    unfold tree_Node_int_take.body
    rw [flat_eq, bnd_some', if_neg (by simp; intro e; rw [e] at hne; simp at hne), k1, bnd_some']
    dsimp only
    rw [idx_of k3, bnd_some', oN, bnd_some', w1, bnd_some']
    dsimp only
    rw [width_eq (by omega), bnd_some']
    by_cases c3 : 3 ≤ wd w'
    · have hkl := repL_len z.fKids (i := k) (j := k + 1) [c_tree_Node_int w'] (by omega) (by omega)
      simp only [List.length_cons, List.length_nil] at hkl
      rw [if_pos (by omega), w64_id ⟨by omega, by omega⟩, show (k : Int) + 1 = ((k + 1 : Nat) : Int) by omega, spliceNP _ _ _ _ (by omega) (by omega) (by simp; omega), bnd_some']
      refine fin (repL z.fKids k (k + 1) [c_tree_Node_int w']) ?_ (by omega) (by omega) (by omega)
      rw [hrep]; exact Fo.rep k8 (Fo.one w2 c3 (by omega)) k9
    · rw [if_neg (by omega)]
      by_cases ck : 0 < k
      · obtain ⟨k, rfl⟩ : ∃ n, k = n + 1 := ⟨k - 1, by omega⟩
        rw [List.take_succ_eq_append_getElem (show k < z.fKids.length by omega)] at k8
        obtain ⟨la1, la2, rfl, u1, u2⟩ := k8.split
        obtain ⟨u, m2, r2, u3, u4, u5, u6, u7, u8⟩ := u2.cons_inv
        have := u8.nil_inv
        subst this
        rw [List.append_nil] at u7
        subst u7
        have hku : z.fKids[k]? = some (c_tree_Node_int u) := by rw [List.getElem?_eq_getElem (show k < z.fKids.length by omega), u3]
        simp only [List.length_append] at hm
        obtain ⟨xs, x1, x2, x3⟩ := glue_eq u4 w2 u6 (by omega) (by omega) (by rw [hrm]; omega)
        have hkl := repL_len z.fKids (i := k) (j := k + 1 + 1) xs (by omega) (by omega)
        rw [if_pos (by omega), w64_id (x := ((k + 1 : Nat) : Int) - 1) ⟨by omega, by omega⟩, show ((k + 1 : Nat) : Int) - 1 = (k : Int) by omega, idx_of hku, bnd_some', oN, bnd_some', x1, bnd_some', w64_id ⟨by omega, by omega⟩, show ((k + 1 : Nat) : Int) + 1 = ((k + 1 + 1 : Nat) : Int) by omega, spliceNP _ _ _ _ (by omega) (by omega) (by omega), bnd_some']
        refine fin _ ?_ (by omega) (by omega) (by omega)
        rw [hrep]
        have := Fo.rep u1 (x3 3 (by omega)) k9
        simpa using this
      · have : k = 0 := by omega
        subst this
        have hd1 : z.fKids.drop 1 = z.fKids[1] :: z.fKids.drop 2 := List.drop_eq_getElem_cons (show 1 < z.fKids.length by omega)
        rw [show (0 : Nat) + 1 = 1 from rfl, hd1] at k9
        obtain ⟨u, m2, r2, u3, u4, u5, u6, u7, u8⟩ := k9.cons_inv
        subst u7
        have hla := k8.nil_inv
        subst hla
        have hku : z.fKids[1]? = some (c_tree_Node_int u) := by rw [List.getElem?_eq_getElem (show 1 < z.fKids.length by omega), u3]
        simp only [List.length_append, List.length_nil] at hm
        obtain ⟨xs, x1, x2, x3⟩ := glue_eq w2 u4 (by omega) u6 (by omega) (by rw [hrm]; omega)
        have hkl := repL_len z.fKids (i := 0) (j := 2) xs (by omega) (by omega)
        rw [if_neg (by omega), show idx z.fKids 1 = some (c_tree_Node_int u) from idx_of hku, bnd_some', oN, bnd_some', x1, bnd_some', show tree_splice_tree_Node_int z.fKids 0 2 xs = some (repL z.fKids 0 2 xs) from spliceNP _ 0 2 _ (by omega) (by omega) (by omega), bnd_some']
        refine fin _ ?_ (by omega) (by omega) (by omega)
        rw [hrep]
        have := Fo.rep (i := 0) (xs := z.fKids) Fo.nil (x3 3 (by omega)) u8
        simpa using this
theorem fo_size {h : Nat} (ih : ∀ (z : Nd) (l : List El), T h z l → wd z * 3 ^ h ≤ l.length) : ∀ (xs : List NP) (l : List El), Fo 3 h xs l → xs.length * (3 * 3 ^ h) ≤ l.length := by
  intro xs
  induction xs with
  | nil => intro l _; simp
  | cons x xs ihx =>
    intro l hf
    obtain ⟨w, m, r, rfl, g1, g2, g3, rfl, g5⟩ := hf.cons_inv
    have h1 := ih w m g1
    have h2 := ihx r g5
    have h3 : 3 * 3 ^ h ≤ wd w * 3 ^ h := Nat.mul_le_mul_right _ g2
    rw [List.length_cons, List.length_append, Nat.add_mul]
    omega
theorem T_size : ∀ (h : Nat) (z : Nd) (l : List El), T h z l → wd z * 3 ^ h ≤ l.length := by
  intro h
  induction h with
  | zero =>
    intro z l ht
    rw [(leaf_wd ht).1]; simp
  | succ h ih =>
    intro z l ht
    obtain ⟨_, _, hf⟩ := T_succ.1 ht
    rw [kids_wd ht, Nat.pow_succ, Nat.mul_comm (3 ^ h) 3]
    exact fo_size ih _ _ hf
theorem Rt.kids {h : Nat} {z : Nd} {l : List El} (hr : Rt h z l) (h0 : 0 < h) : 2 ≤ z.fKids.length := by
  obtain ⟨h, rfl⟩ : ∃ n, h = n + 1 := ⟨h - 1, by omega⟩
  have := fo_ne (T_succ.1 hr.1).2.2 hr.2.2.2
  have := hr.2.2.1
  omega
theorem Rt.wd_pos {h : Nat} {z : Nd} {l : List El} (hr : Rt h z l) : 1 ≤ wd z ∧ (0 < h → 2 ≤ wd z) := by
  cases h with
  | zero =>
    have : l.length ≠ 0 := fun e => hr.2.2.2 (List.length_eq_zero_iff.1 e)
    rw [(leaf_wd hr.1).1]
    omega
  | succ h =>
    have := hr.kids (by omega)
    rw [kids_wd hr.1]
    omega
theorem Rt.size {h : Nat} {z : Nd} {l : List El} (hr : Rt h z l) (h0 : 0 < h) : 2 * 3 ^ h ≤ l.length :=
  Nat.le_trans (Nat.mul_le_mul_right _ (hr.wd_pos.2 h0)) (T_size h z l hr.1)
theorem Rt.low {h : Nat} {z : Nd} {l : List El} (hr : Rt h z l) (hl : l.length ≤ 2000000) : h < 30 := by
  by_cases c : h < 30
  · exact c
  · have h1 := hr.size (by omega)
    have h2 : 3 ^ 30 ≤ 3 ^ h := Nat.pow_le_pow_right (by decide) (by omega)
    have h3 : (3 : Nat) ^ 30 = 205891132094649 := by decide
    omega
theorem first_kid {h : Nat} {ks : List NP} {l : List El} (hf : Fo 3 h ks l) (hne : 0 < ks.length) : ∃ w m r, ks[0]? = some (c_tree_Node_int w) ∧ T h w m ∧ 3 ≤ wd w ∧ wd w ≤ 6 ∧ l = m ++ r ∧ Fo 3 h (ks.drop 1) r := by
  cases ks with
  | nil => simp at hne
  | cons x xs =>
    obtain ⟨w, m, r, rfl, g1, g2, g3, g4, g5⟩ := hf.cons_inv
    exact ⟨w, m, r, rfl, g1, g2, g3, g4, by simpa using g5⟩
theorem heightLoop : ∀ (h : Nat) (z : Nd) (l : List El) (c : Int), T h z l → (0 < h → 0 < z.fKids.length) → 0 ≤ c → c + h ≤ 1000 → loop tree_height_int.l1 (z.fKids, z.fItems, z.fN, c) = some (c + h + 1) := by
  intro h
  induction h with
  | zero =>
    intro z l c ht _ hc hb
    refine loop_done ?_
    unfold tree_height_int.l1
    dsimp only
    rw [flat_eq, bnd_some', (leaf_wd ht).2.1, if_pos (by simp), w64_id ⟨by omega, by omega⟩]
    congr 2; omega
  | succ h ih =>
    intro z l c ht hk hc hb
    obtain ⟨_, _, hf⟩ := T_succ.1 ht
    have hne := hk (by omega)
    obtain ⟨w, m, r, g1, g2, g3, g4, g5, g6⟩ := first_kid hf hne
    have := ih w m (c + 1) g2 (fun h0 => by
      obtain ⟨h, rfl⟩ : ∃ n, h = n + 1 := ⟨h - 1, by omega⟩
      have := kids_wd g2; omega) (by omega) (by omega)
    rw [show c + ((h + 1 : Nat) : Int) + 1 = c + 1 + (h : Int) + 1 by omega]
    refine loop_next ?_ this
    unfold tree_height_int.l1
    dsimp only
    rw [flat_eq, bnd_some', if_neg (by simp; intro e; rw [e] at hne; simp at hne), show idx z.fKids 0 = some (c_tree_Node_int w) from idx_of g1, bnd_some', oN, bnd_some', w64_id ⟨by omega, by omega⟩]
theorem Len_eq (t : tree_Tree_int) (l : List El) (ht : IsT t l) : tree_Tree_int_Len t = some (l.length : Int) := by
  unfold tree_Tree_int_Len
  rcases ht with ⟨rfl, rfl⟩ | ⟨h, z, rfl, hr⟩
  · rfl
  · rw [bnd_some']
    dsimp only
    rw [oN, bnd_some', T_N hr.1]
theorem has_eq (t : tree_Tree_int) (l : List El) (ht : IsT t l) (i : Int) : tree_Tree_int_has t i = some (decide (0 ≤ i ∧ i < (l.length : Int))) := by
  unfold tree_Tree_int_has
  by_cases c : i ≥ 0
  · rw [if_pos c, Len_eq t l ht, bnd_some', bnd_some']; simp [c]
  · rw [if_neg c, bnd_some', decide_eq_false (fun h => c h.1)]
/-- How many nodes from the root down. -/
theorem Height_eq {h : Nat} {z : Nd} {l : List El} (hr : Rt h z l) (hl : l.length ≤ 2000000) : tree_Tree_int_Height ⟨some (c_tree_Node_int z)⟩ = some ((h : Int) + 1) := by
  unfold tree_Tree_int_Height tree_height_int
  have hlow := hr.low hl
  rw [bnd_some']
  dsimp only
  rw [oN, bnd_some', heightLoop h z l 0 hr.1 (fun h0 => by have := hr.kids h0; omega) (by omega) (by omega), bnd_some', bnd_some', Int.zero_add]
theorem atLoop : ∀ (h : Nat) (z : Nd) (l : List El) (i : Nat), T h z l → wd z ≤ 6 → (hi : i < l.length) → l.length ≤ 800000 → ∃ j ks is n, loop tree_Tree_int_At.l2 ((i : Int), z.fKids, z.fItems, z.fN) = some (j, ks, is, n) ∧ idx is j = some l[i] := by
  intro h
  induction h with
  | zero =>
    intro z l i ht hw hi hl
    obtain ⟨q1, q2, q3⟩ := leaf_wd ht
    refine ⟨(i : Int), z.fKids, z.fItems, z.fN, loop_done ?_, ?_⟩
    · unfold tree_Tree_int_At.l2
      dsimp only
      rw [flat_eq, bnd_some', q2, if_pos (by simp)]
    · rw [q3]; exact idx_of (List.getElem?_eq_getElem hi)
  | succ h ih =>
    intro z l i ht hw hi hl
    obtain ⟨t1, t2, t3⟩ := T_succ.1 ht
    have hkw := kids_wd ht
    have hne : 0 < z.fKids.length := fo_ne t3 (fun e => by subst e; simp at hi)
    obtain ⟨k, w, la, m, lb, k1, k2, k3, k4, k5, k6, k7, k8, k9, k10, k11, k12⟩ := kid_eq t3 (by omega) (by omega) hne i (by omega) z.fItems z.fN
    have hm : l.length = la.length + m.length + lb.length := by rw [k7]; simp only [List.length_append]
    have k12' := k12 hi
    obtain ⟨j, ks, is, n, j1, j2⟩ := ih w m (i - la.length) k4 k6 (by omega) (by omega)
    refine ⟨j, ks, is, n, loop_next ?_ j1, ?_⟩
    · unfold tree_Tree_int_At.l2
      dsimp only
      rw [flat_eq, bnd_some', if_neg (by simp; intro e; rw [e] at hne; simp at hne), k1, bnd_some']
      dsimp only
      rw [idx_of k3, bnd_some', oN, bnd_some']
    · rw [j2]
      congr 1
      have : l[i]? = m[i - la.length]? := by
        rw [k7, List.append_assoc, List.getElem?_append_right k10, List.getElem?_append_left (by omega)]
      rw [List.getElem?_eq_getElem hi, List.getElem?_eq_getElem (show i - la.length < m.length by omega)] at this
      exact (Option.some.inj this).symm
theorem At_eq (t : tree_Tree_int) (l : List El) (ht : IsT t l) (hl : l.length ≤ 800000) (i : Int) : (¬ (0 ≤ i ∧ i < (l.length : Int)) → ∃ d, tree_Tree_int_At t i = some (d, false)) ∧ ((hi : 0 ≤ i ∧ i < (l.length : Int)) → tree_Tree_int_At t i = some (l[i.toNat]'(by omega), true)) := by
  unfold tree_Tree_int_At
  rw [has_eq t l ht, bnd_some']
  constructor
  · intro c
    rw [decide_eq_false c, if_neg (by simp)]
    exact ⟨_, rfl⟩
  · intro c
    rw [decide_eq_true c, if_pos rfl]
    rcases ht with ⟨rfl, rfl⟩ | ⟨h, z, rfl, hr⟩
    · simp at c; omega
    · obtain ⟨j, ks, is, n, j1, j2⟩ := atLoop h z l i.toNat hr.1 hr.2.1 (by omega) hl
      rw [show ((i.toNat : Nat) : Int) = i by omega] at j1
      rw [bnd_some']
      dsimp only
      rw [oN, bnd_some', j1, bnd_some']
      dsimp only
      rw [j2, bnd_some']
theorem Set_eq (t : tree_Tree_int) (l : List El) (ht : IsT t l) (hl : l.length ≤ 800000) (i : Int) (x : El) : (¬ (0 ≤ i ∧ i < (l.length : Int)) → tree_Tree_int_Set t i x = some (t, false)) ∧
    ((0 ≤ i ∧ i < (l.length : Int)) → ∃ u, tree_Tree_int_Set t i x = some (u, true) ∧ IsT u (repL l i.toNat (i.toNat + 1) [x])) := by
  unfold tree_Tree_int_Set
  rw [has_eq t l ht, bnd_some']
  constructor
  · intro c
    rw [decide_eq_false c, if_neg (by simp)]
  · intro c
    rw [decide_eq_true c, if_pos rfl]
    rcases ht with ⟨rfl, rfl⟩ | ⟨h, z, rfl, hr⟩
    · simp at c; omega
    · have hlow := hr.low (by omega)
      obtain ⟨z', z1, z2, z3, z4⟩ := set_eq h 64 z l i.toNat x (by omega) hr.1 hr.2.1 (by omega) hl
      rw [show ((i.toNat : Nat) : Int) = i by omega] at z1
      have hlen := repL_len l (i := i.toNat) (j := i.toNat + 1) [x] (by omega) (by omega)
      simp only [List.length_cons, List.length_nil] at hlen
      rw [bnd_some']
      dsimp only
      rw [oN, bnd_some', z1, bnd_some']
      exact ⟨_, rfl, .inr ⟨h, z', rfl, z2, by rw [z3]; exact hr.2.1, by rw [z4]; exact hr.2.2.1, fun e => by rw [e] at hlen; simp at hlen; omega⟩⟩
theorem Insert_eq (t : tree_Tree_int) (l : List El) (ht : IsT t l) (hl : l.length ≤ 800000) (i : Int) (x : El) : ((i < 0 ∨ (l.length : Int) < i) → tree_Tree_int_Insert t i x = some (t, false)) ∧
    (¬ (i < 0 ∨ (l.length : Int) < i) → ∃ u, tree_Tree_int_Insert t i x = some (u, true) ∧ IsT u (repL l i.toNat i.toNat [x])) := by
  have hg : (if i < 0 then some true else bnd (tree_Tree_int_Len t) fun x4 => some (decide (i > x4)) : Option Bool) = some (decide (i < 0 ∨ (l.length : Int) < i)) := by
    by_cases c : i < 0
    · rw [if_pos c, decide_eq_true (.inl c)]
    · rw [if_neg c, Len_eq t l ht, bnd_some']; congr 1; rw [Bool.eq_iff_iff]; simp [c]
  unfold tree_Tree_int_Insert
  rw [hg, bnd_some']
  constructor
  · intro c
    rw [decide_eq_true c, if_pos rfl]
  · intro c
    have hlen := repL_len l (i := i.toNat) (j := i.toNat) [x] (by omega) (by omega)
    simp only [List.length_cons, List.length_nil] at hlen
    rw [decide_eq_false c, if_neg (by simp)]
    rcases ht with ⟨rfl, rfl⟩ | ⟨h, z, rfl, hr⟩
    · obtain ⟨u, u1, u2⟩ := Of_eq [x] (by simp)
      rw [bnd_some']
      dsimp only
      rw [u1, bnd_some']
      exact ⟨u, rfl, by simpa [repL] using u2⟩
    · have hlow := hr.low (by omega)
      obtain ⟨xs, x1, x2, x3, x4, x5, x6⟩ := put_eq h 64 z l i.toNat x (by omega) hr.1 hr.2.1 (by omega) hl (fun h0 => by have := hr.kids h0; omega)
      rw [show ((i.toNat : Nat) : Int) = i by omega] at x1
      obtain ⟨u, u1, u2⟩ := above_eq (h := h) (xs := xs) ⟨x2, by
        by_cases c2 : xs.length = 2
        · exact .inr (x5 c2)
        · exact .inl (by omega)⟩ (by omega) (by omega)
      rw [bnd_some']
      dsimp only
      rw [oN, bnd_some', x1, bnd_some', u1, bnd_some']
      exact ⟨u, rfl, u2⟩
theorem Delete_eq (t : tree_Tree_int) (l : List El) (ht : IsT t l) (hl : l.length ≤ 800000) (i : Int) : (¬ (0 ≤ i ∧ i < (l.length : Int)) → tree_Tree_int_Delete t i = some (t, false)) ∧
    ((0 ≤ i ∧ i < (l.length : Int)) → ∃ u, tree_Tree_int_Delete t i = some (u, true) ∧ IsT u (repL l i.toNat (i.toNat + 1) [])) := by
  unfold tree_Tree_int_Delete
  rw [has_eq t l ht, bnd_some']
  constructor
  · intro c
    rw [decide_eq_false c, if_neg (by simp)]
  · intro c
    rw [decide_eq_true c, if_pos rfl]
    rcases ht with ⟨rfl, rfl⟩ | ⟨h, z, rfl, hr⟩
    · simp at c; omega
    · have hlow := hr.low (by omega)
      obtain ⟨z', z1, z2, z3, z4⟩ := take_eq h 64 z l i.toNat (by omega) hr.1 hr.2.1 (by omega) hl hr.kids
      rw [show ((i.toNat : Nat) : Int) = i by omega] at z1
      have hlen := repL_len l (i := i.toNat) (j := i.toNat + 1) [] (by omega) (by omega)
      simp only [List.length_nil] at hlen
      have hw := hr.2.1
      obtain ⟨u, u1, u2⟩ := above_eq (h := h) (xs := [c_tree_Node_int z']) ⟨Fo.one z2 (Nat.zero_le _) (by omega), .inl (by simp)⟩ (by simp) (by omega)
      rw [bnd_some']
      dsimp only
      rw [oN, bnd_some', z1, bnd_some']
      dsimp only
      rw [u1, bnd_some']
      exact ⟨u, rfl, u2⟩
theorem few9_eq (l : List El) : law09_few l = some (l.take 300) := by
  unfold law09_few
  by_cases h : (l.length : Int) > 300
  · rw [if_pos h, cut_of ⟨by omega, by omega, by omega⟩, bnd_some']; simp
  · rw [if_neg h, List.take_of_length_le (by omega)]
theorem same9_eq (a b : List El) (ha : a.length ≤ 2000000) : ref09_Same a b = some (decide (a = b)) := by
  unfold ref09_Same
  by_cases c : (a.length : Int) = (b.length : Int)
  · rw [if_pos c]
    obtain ⟨t, h1, h2⟩ := loop_same (f := ref09_Same.l1 a b) () a b (by omega) (by omega) (fun i => rfl)
    rw [h1, bnd_some']
    cases t with
    | brk u => simp only at h2 ⊢; rw [decide_eq_true h2]
    | ret v => simp only at h2 ⊢; rw [h2.1, decide_eq_false h2.2]
  · rw [if_neg c, decide_eq_false (fun h => c (by rw [h]))]
/-- A node has the shape, and its things. -/
theorem fits_eq : ∀ (h fu : Nat) (z : Nd) (l : List El) (root : Bool), h < fu → h ≤ 1000 → T h z l → wd z ≤ 6 → (root = false → 3 ≤ wd z) → (h = 0 → 1 ≤ wd z) → (0 < h → 2 ≤ wd z) → l.length ≤ 800000 →
    law09_fits fu z.fKids z.fItems z.fN ((h : Int) + 1) root = some (l, true) := by
  intro h
  induction h with
  | zero =>
    intro fu z l root hfu _ ht hw h3 h1 _ hl
    obtain ⟨fu, rfl⟩ : ∃ n, fu = n + 1 := ⟨fu - 1, by omega⟩
    obtain ⟨q1, q2, q3⟩ := leaf_wd ht
    have hN := T_N ht
    have hp := h1 rfl
    have e6 : (if root = true then some 1 else some 3 : Option Int) = some (if root = true then 1 else 3) := by cases root <;> rfl
    have hge : (l.length : Int) ≥ (if root = true then 1 else 3) := by
      cases root with
      | true => simp; omega
      | false => have := h3 rfl; simp; omega
    show law09_fits.body (law09_fits fu) z.fKids z.fItems z.fN (((0 : Nat) : Int) + 1) root = _
    unfold law09_fits.body
    rw [q2, q3, hN, if_neg (by simp), if_neg (by simp), decide_eq_false (by omega), bnd_some', if_neg (by simp), if_pos (by simp), e6, bnd_some', if_pos (by simp), if_pos hge, bnd_some']
    simp
  | succ h ih =>
    intro fu z l root hfu hh ht hw h3 _ h2 hl
    obtain ⟨fu, rfl⟩ : ∃ n, fu = n + 1 := ⟨fu - 1, by omega⟩
    obtain ⟨t1, t2, zs, t3, t4, t5⟩ := ht
    have hkw : wd z = z.fKids.length := by unfold wd; rw [t1]; rfl
    have hp := h2 (by omega)
    have hzs : z.fKids.length = zs.length := by rw [t3, List.length_map]
    have e6 : (if root = true then some 2 else some 3 : Option Int) = some (if root = true then 2 else 3) := by cases root <;> rfl
    have hge : (z.fKids.length : Int) ≥ (if root = true then 2 else 3) := by
      cases root with
      | true => simp; omega
      | false => have := h3 rfl; simp; omega
    have hlp : loop (law09_fits.l2 z.fKids (((h + 1 : Nat) : Int) + 1) (law09_fits fu)) (true, 0, []) = some (true, l) := by
      have hh2 := loop_fold (f := law09_fits.l2 z.fKids (((h + 1 : Nat) : Int) + 1) (law09_fits fu)) (fun k (s : List El) => (true, k, s)) zs (fun pre => pre.flatMap (fun p => p.2)) (t := (true, l))
        (fun pre x suf hs => by
          have hlen : zs.length = pre.length + (suf.length + 1) := by rw [hs]; simp
          obtain ⟨x1, x2, x3⟩ := t5 x (by rw [hs]; simp)
          have hxl : (pre.flatMap (fun p => p.2)).length + x.2.length ≤ 800000 := by
            rw [t4, hs] at hl
            simp only [List.flatMap_append, List.flatMap_cons, List.length_append] at hl
            omega
          have hi := ih fu x.1 x.2 false (by omega) (by omega) x1 x3 (fun _ => x2) (fun _ => by omega) (fun _ => by omega) (by omega)
          have happ : loop (law09_fits.l1 (x.2, true)) (0, pre.flatMap (fun p => p.2)) = some (pre.flatMap (fun p => p.2) ++ x.2) := by
            have hh3 := loop_fold (f := law09_fits.l1 (x.2, true)) (fun k (s : List El) => (k, s)) x.2 (fun q => pre.flatMap (fun p => p.2) ++ q) (t := pre.flatMap (fun p => p.2) ++ x.2)
              (fun q y r hs3 => by
                have hl3 : x.2.length = q.length + (r.length + 1) := by rw [hs3]; simp
                unfold law09_fits.l1
                dsimp only
                rw [if_pos (by omega), show idx x.2 (q.length : Int) = some y by rw [hs3]; exact idx_at q y r, bnd_some', app_of (by simp only [List.length_append, List.length_cons, List.length_nil]; omega), bnd_some', w64_id ⟨by omega, by omega⟩, List.append_assoc])
              (by
                unfold law09_fits.l1
                dsimp only
                rw [if_neg (by omega)])
            simpa using hh3
          unfold law09_fits.l2
          dsimp only
          rw [if_pos (by omega), idx_of (show z.fKids[pre.length]? = some (c_tree_Node_int x.1) by rw [t3, hs]; simp), bnd_some', oN, bnd_some', w64_id ⟨by omega, by omega⟩, show ((h + 1 : Nat) : Int) + 1 - 1 = (h : Int) + 1 by omega, hi, bnd_some', if_pos rfl, bnd_some', happ, bnd_some', w64_id ⟨by omega, by omega⟩, List.flatMap_append]
          simp)
        (by
          unfold law09_fits.l2
          dsimp only
          rw [if_neg (by omega), t4])
      simpa using hh2
    show law09_fits.body (law09_fits fu) z.fKids z.fItems z.fN (((h + 1 : Nat) : Int) + 1) root = _
    unfold law09_fits.body
    rw [if_neg (by omega), if_neg (by omega), t1, show decide ((([] : List El).length : Int) > 6) = false from by decide, bnd_some', if_neg (by simp), if_neg (by omega), e6, bnd_some', if_pos (by simp), bnd_some', decide_eq_true hge, hlp, bnd_some']
    dsimp only
    rw [if_pos rfl, t2, beq_self_eq_true, bnd_some']
theorem leastLoop (t : tree_Tree_int) (h : Nat) (hh : tree_Tree_int_Height t = some ((h : Int) + 1)) (hb : h < 30) : loop (law09_Fits.l2 t) (2, 1) = some ((2 * 3 ^ h : Nat) : Int) := by
  have key : ∀ k i : Nat, i + k = h → loop (law09_Fits.l2 t) (((2 * 3 ^ i : Nat) : Int), (i : Int) + 1) = some ((2 * 3 ^ h : Nat) : Int) := by
    intro k
    induction k with
    | zero =>
      intro i hi
      have : i = h := by omega
      subst this
      refine loop_done ?_
      unfold law09_Fits.l2
      rw [hh, bnd_some', if_neg (by simp)]
    | succ k ih =>
      intro i hi
      have h1 : 3 ^ i ≤ 3 ^ 30 := Nat.pow_le_pow_right (by decide) (by omega)
      have h3 : (3 : Nat) ^ 30 = 205891132094649 := by decide
      refine loop_next (s' := (((2 * 3 ^ (i + 1) : Nat) : Int), ((i + 1 : Nat) : Int) + 1)) ?_ (ih (i + 1) (by omega))
      have e : 2 * 3 ^ (i + 1) = 2 * 3 ^ i * 3 := by rw [Nat.pow_succ, Nat.mul_assoc]
      unfold law09_Fits.l2
      rw [hh, bnd_some']
      dsimp only
      rw [if_pos (by omega), e]
      generalize 3 ^ i = q at h1 ⊢
      rw [w64_id ⟨by omega, by omega⟩, w64_id ⟨by omega, by omega⟩]
      congr 3
  have := key h 0 (by omega)
  simpa using this
theorem Fits_eq (t : tree_Tree_int) (l : List El) (ht : IsT t l) (hl : l.length ≤ 800000) : law09_Fits t l = some true := by
  unfold law09_Fits
  rw [Len_eq t l ht, bnd_some', if_pos rfl]
  rcases ht with ⟨rfl, rfl⟩ | ⟨h, z, rfl, hr⟩
  · have hl0 : loop tree_height_int_nil.l1 () = some () := loop_done rfl
    have hh0 : tree_Tree_int_Height ⟨none⟩ = some 0 := by
      unfold tree_Tree_int_Height tree_height_int_nil
      rw [bnd_some']
      dsimp only
      rw [hl0, bnd_some', bnd_some']
    rw [if_pos (show (([] : List El).length : Int) = 0 from rfl), show tree_Tree_int_Root ⟨none⟩ = some (.inl ()) from rfl, bnd_some']
    dsimp only
    rw [hh0, bnd_some', bnd_some']
    rfl
  · have hlow := hr.low (by omega)
    have hH := Height_eq hr (by omega)
    have hp : l.length ≠ 0 := fun e => hr.2.2.2 (List.length_eq_zero_iff.1 e)
    have hroot : tree_Tree_int_Root ⟨some (c_tree_Node_int z)⟩ = some (.inr (z.fKids, z.fItems, z.fN)) := by
      unfold tree_Tree_int_Root
      rw [bnd_some']
      dsimp only
      rw [oN, bnd_some']
    have hf := fits_eq h 64 z l true (by omega) (by omega) hr.1 hr.2.1 (fun e => by cases e) (fun _ => hr.wd_pos.1) hr.wd_pos.2 hl
    rw [if_neg (by omega), hroot, bnd_some']
    dsimp only
    rw [hH, bnd_some', hf, bnd_some', leastLoop _ h hH hlow, bnd_some']
    dsimp only
    rw [if_pos rfl, same9_eq l l (by omega), bnd_some', decide_eq_true rfl, if_pos rfl, bnd_some']
    by_cases c : h = 0
    · subst c
      rw [if_pos (by simp), bnd_some']
    · have := hr.size (by omega)
      rw [if_neg (by omega), decide_eq_true (by omega), bnd_some']
theorem All_eq (t : tree_Tree_int) (l : List El) (ht : IsT t l) (hl : l.length ≤ 1999) : law09_All t = some l := by
  unfold law09_All
  have hh := loop_nat (f := law09_All.l1 t) (fun k (s : List El) => (k, s)) l.length (fun i => l.take i) (t := Ex.brk l)
    (fun i hi => by
      have hA := (At_eq t l ht (by omega) (i : Int)).2 ⟨by omega, by omega⟩
      unfold law09_All.l1
      rw [Len_eq t l ht, bnd_some']
      dsimp only
      rw [if_pos (by omega), bnd_some', if_pos (by simp; omega), hA, bnd_some']
      dsimp only
      rw [if_pos rfl, app_of (by simp; omega), bnd_some', w64_id ⟨by omega, by omega⟩, List.take_succ_eq_append_getElem hi]
      simp)
    (by
      unfold law09_All.l1
      rw [Len_eq t l ht, bnd_some']
      dsimp only
      rw [if_neg (by omega), bnd_some', if_neg (by simp), List.take_length])
  have h' : loop (law09_All.l1 t) (0, []) = some (Ex.brk l) := by simpa using hh
  rw [h', bnd_some']
theorem rIns (l : List El) (i : Int) (x : El) (hl : l.length ≤ 800000) : ref09_Insert l i x = some (if i < 0 ∨ (l.length : Int) < i then (l, false) else (repL l i.toNat i.toNat [x], true)) := by
  unfold ref09_Insert
  by_cases c1 : i < 0
  · rw [if_pos c1, bnd_some', if_pos rfl, if_pos (.inl c1)]
  · rw [if_neg c1, bnd_some']
    by_cases c2 : (l.length : Int) < i
    · rw [if_pos (by simpa using c2), if_pos (.inr c2)]
    · rw [if_neg (by simpa using c2), if_neg (show ¬ (i < 0 ∨ (l.length : Int) < i) by omega)]
      obtain ⟨j, rfl⟩ : ∃ j : Nat, i = j := ⟨i.toNat, by omega⟩
      have hj : j ≤ l.length := by omega
      have hh := loop_nat (f := ref09_Insert.l1 l (j : Int) x) (fun k (s : List El) => (k, s)) (l.length + 1) (fun k => if k ≤ j then l.take k else repL (l.take k) j j [x]) (t := repL l j j [x])
        (fun k hk => by
          have hlen : ((if k ≤ j then l.take k else repL (l.take k) j j [x]) : List El).length ≤ 900000 := by
            split
            · simp; omega
            · rw [repL_len _ _ (by omega) (by rw [List.length_take]; omega), List.length_take]; simp; omega
          have e1 : (if (k : Int) = (j : Int) then bnd (app 8 (if k ≤ j then l.take k else repL (l.take k) j j [x]) [x]) fun x22 => some x22 else some (if k ≤ j then l.take k else repL (l.take k) j j [x]) : Option (List El)) = some (if k < j then l.take k else repL (l.take k) j j [x]) := by
            by_cases q : k = j
            · subst q
              rw [if_pos rfl, app_of (by simp only [List.length_cons, List.length_nil]; omega), bnd_some', if_pos (Nat.le_refl _), if_neg (Nat.lt_irrefl _)]
              unfold repL
              rw [List.take_take, Nat.min_self, List.drop_of_length_le (by rw [List.length_take]; omega), List.append_nil]
            · rw [if_neg (by omega)]
              by_cases q2 : k < j
              · rw [if_pos (by omega), if_pos q2]
              · rw [if_neg (by omega), if_neg q2]
          have hlen2 : ((if k < j then l.take k else repL (l.take k) j j [x]) : List El).length ≤ 900000 := by
            split
            · simp; omega
            · rw [repL_len _ _ (by omega) (by rw [List.length_take]; omega), List.length_take]; simp; omega
          unfold ref09_Insert.l1
          dsimp only
          rw [if_pos (by omega), e1, bnd_some']
          by_cases q : k < l.length
          · rw [if_pos (by omega), idx_of (List.getElem?_eq_getElem q), bnd_some', app_of (by simp only [List.length_cons, List.length_nil]; omega), bnd_some', bnd_some', w64_id ⟨by omega, by omega⟩]
            congr 3
            by_cases q2 : k < j
            · rw [if_pos q2, if_pos (by omega), List.take_succ_eq_append_getElem q]
            · rw [if_neg q2, if_neg (by omega), List.take_succ_eq_append_getElem q]
              unfold repL
              rw [List.take_append_of_le_length (by rw [List.length_take]; omega), List.drop_append_of_le_length (by rw [List.length_take]; omega), ← List.append_assoc]
          · rw [if_neg (by omega), bnd_some', w64_id ⟨by omega, by omega⟩, if_neg (by omega), if_neg (by omega), List.take_of_length_le (by omega), List.take_of_length_le (by omega)])
        (by
          unfold ref09_Insert.l1
          dsimp only
          rw [if_neg (by omega), if_neg (by omega), List.take_of_length_le (by omega)])
      have h' : loop (ref09_Insert.l1 l (j : Int) x) (0, []) = some (repL l j j [x]) := by simpa using hh
      rw [h', bnd_some', Int.toNat_natCast]
theorem rDel (l : List El) (i : Int) (hl : l.length ≤ 800000) : ref09_Delete l i = some (if ¬ (0 ≤ i ∧ i < (l.length : Int)) then (l, false) else (repL l i.toNat (i.toNat + 1) [], true)) := by
  unfold ref09_Delete
  by_cases c1 : i < 0
  · rw [if_pos c1, bnd_some', if_pos rfl, if_pos (by omega)]
  · rw [if_neg c1, bnd_some']
    by_cases c2 : (l.length : Int) ≤ i
    · rw [if_pos (by simpa using c2), if_pos (by omega)]
    · rw [if_neg (by simpa using c2), if_neg (show ¬ ¬ (0 ≤ i ∧ i < (l.length : Int)) by omega)]
      obtain ⟨j, rfl⟩ : ∃ j : Nat, i = j := ⟨i.toNat, by omega⟩
      have hj : j < l.length := by omega
      have hh := loop_nat (f := ref09_Delete.l1 l (j : Int)) (fun k (s : List El) => (k, s)) l.length (fun k => if k ≤ j then l.take k else repL (l.take k) j (j + 1) []) (t := repL l j (j + 1) [])
        (fun k hk => by
          have hlen : ((if k ≤ j then l.take k else repL (l.take k) j (j + 1) []) : List El).length ≤ 900000 := by
            split
            · simp; omega
            · rw [repL_len _ _ (by omega) (by rw [List.length_take]; omega), List.length_take]; simp; omega
          unfold ref09_Delete.l1
          dsimp only
          rw [if_pos (by omega), idx_of (List.getElem?_eq_getElem hk), bnd_some']
          by_cases q : k = j
          · subst q
            rw [if_pos rfl, bnd_some', w64_id ⟨by omega, by omega⟩, if_pos (Nat.le_refl _), if_neg (by omega)]
            congr 3
            unfold repL
            rw [List.take_take, Nat.min_eq_left (by omega), List.drop_of_length_le (by rw [List.length_take]; omega), List.append_nil, List.append_nil]
          · rw [if_neg (by omega), app_of (by simp only [List.length_cons, List.length_nil]; omega), bnd_some', bnd_some', w64_id ⟨by omega, by omega⟩]
            congr 3
            by_cases q2 : k < j
            · rw [if_pos (by omega), if_pos (by omega), List.take_succ_eq_append_getElem hk]
            · rw [if_neg (by omega), if_neg (by omega), List.take_succ_eq_append_getElem hk]
              unfold repL
              rw [List.take_append_of_le_length (by rw [List.length_take]; omega), List.drop_append_of_le_length (by rw [List.length_take]; omega), ← List.append_assoc])
        (by
          unfold ref09_Delete.l1
          dsimp only
          rw [if_neg (by omega), if_neg (by omega), List.take_length])
      have h' : loop (ref09_Delete.l1 l (j : Int)) (0, []) = some (repL l j (j + 1) []) := by simpa using hh
      rw [h', bnd_some', Int.toNat_natCast]
theorem rSet (l : List El) (i : Int) (x : El) (hl : l.length ≤ 800000) : ref09_Set l i x = some (if ¬ (0 ≤ i ∧ i < (l.length : Int)) then (l, false) else (repL l i.toNat (i.toNat + 1) [x], true)) := by
  unfold ref09_Set
  by_cases c1 : i < 0
  · rw [if_pos c1, bnd_some', if_pos rfl, if_pos (by omega)]
  · rw [if_neg c1, bnd_some']
    by_cases c2 : (l.length : Int) ≤ i
    · rw [if_pos (by simpa using c2), if_pos (by omega)]
    · rw [if_neg (by simpa using c2), if_neg (show ¬ ¬ (0 ≤ i ∧ i < (l.length : Int)) by omega)]
      obtain ⟨j, rfl⟩ : ∃ j : Nat, i = j := ⟨i.toNat, by omega⟩
      have hj : j < l.length := by omega
      have hh := loop_nat (f := ref09_Set.l1 l (j : Int) x) (fun k (s : List El) => (k, s)) l.length (fun k => if k ≤ j then l.take k else repL (l.take k) j (j + 1) [x]) (t := repL l j (j + 1) [x])
        (fun k hk => by
          have hlen : ((if k ≤ j then l.take k else repL (l.take k) j (j + 1) [x]) : List El).length ≤ 900000 := by
            split
            · simp; omega
            · rw [repL_len _ _ (by omega) (by rw [List.length_take]; omega), List.length_take]; simp; omega
          unfold ref09_Set.l1
          dsimp only
          rw [if_pos (by omega), idx_of (List.getElem?_eq_getElem hk), bnd_some']
          by_cases q : k = j
          · subst q
            rw [if_pos rfl, bnd_some', app_of (by simp only [List.length_cons, List.length_nil]; omega), bnd_some', w64_id ⟨by omega, by omega⟩, if_pos (Nat.le_refl _), if_neg (by omega)]
            congr 3
            unfold repL
            rw [List.take_take, Nat.min_eq_left (by omega), List.drop_of_length_le (by rw [List.length_take]; omega), List.append_nil]
          · rw [if_neg (by omega), bnd_some', app_of (by simp only [List.length_cons, List.length_nil]; omega), bnd_some', w64_id ⟨by omega, by omega⟩]
            congr 3
            by_cases q2 : k < j
            · rw [if_pos (by omega), if_pos (by omega), List.take_succ_eq_append_getElem hk]
            · rw [if_neg (by omega), if_neg (by omega), List.take_succ_eq_append_getElem hk]
              unfold repL
              rw [List.take_append_of_le_length (by rw [List.length_take]; omega), List.drop_append_of_le_length (by rw [List.length_take]; omega), ← List.append_assoc])
        (by
          unfold ref09_Set.l1
          dsimp only
          rw [if_neg (by omega), if_neg (by omega), List.take_length])
      have h' : loop (ref09_Set.l1 l (j : Int) x) (0, []) = some (repL l j (j + 1) [x]) := by simpa using hh
      rw [h', bnd_some', Int.toNat_natCast]
theorem awake9_eq : law09_awake = some true := by
  obtain ⟨t, t1, t2⟩ := Of_eq [1, 2, 3, 4, 5, 6, 7] (by simp)
  obtain ⟨u, u1, u2⟩ := (Insert_eq t _ t2 (by simp) 7 8).2 (by simp)
  have ur : repL ([1, 2, 3, 4, 5, 6, 7] : List El) (7 : Int).toNat (7 : Int).toNat [8] = [1, 2, 3, 4, 5, 6, 7, 8] := by decide
  rw [ur] at u2
  have hAt := (At_eq u _ u2 (by simp) 7).2 (by simp)
  have hLu := Len_eq u _ u2
  have hLt := Len_eq t _ t2
  unfold law09_awake
  rw [t1, bnd_some', u1, bnd_some']
  rcases t2 with ⟨h0, _⟩ | ⟨h, z, rfl, hr⟩
  · cases h0
  · have hH := Height_eq hr (by simp)
    have hsz := T_size h z _ hr.1
    have hw := hr.2.1
    have h1 : h = 1 := by
      rcases Nat.lt_or_ge h 1 with q | q
      · have : h = 0 := by omega
        subst this
        rw [(leaf_wd hr.1).1] at hw
        simp at hw
      · have := hr.size (by omega)
        rcases Nat.lt_or_ge h 2 with q2 | q2
        · omega
        · have h2 : 3 ^ 2 ≤ 3 ^ h := Nat.pow_le_pow_right (by decide) q2
          simp at this
          omega
    subst h1
    have hk := hr.kids (by omega)
    have hkk := kids_wd (h := 0) hr.1
    have hk2 : z.fKids.length = 2 := by
      have := fo_size (h := 0) (T_size 0) _ _ (T_succ.1 hr.1).2.2
      simp at this
      omega
    have hroot : tree_Tree_int_Root ⟨some (c_tree_Node_int z)⟩ = some (.inr (z.fKids, z.fItems, z.fN)) := by
      unfold tree_Tree_int_Root
      rw [bnd_some']
      dsimp only
      rw [oN, bnd_some']
    rw [hroot, bnd_some']
    dsimp only
    rw [hAt, bnd_some', if_pos (by omega), hH, bnd_some', if_pos (by decide), if_pos rfl, hLu, bnd_some', if_pos (by decide), if_pos rfl, if_pos (by decide), hLt, bnd_some', bnd_some']
    rfl
theorem or3 (k p q r : Int) : (if k = p then some (k == p) else if k = q then some (k == q) else some (k == r) : Option Bool) = some (decide (k = p ∨ k = q ∨ k = r)) := by
  by_cases c : k = p
  · rw [if_pos c, decide_eq_true (.inl c)]; simp [c]
  · rw [if_neg c]
    by_cases c2 : k = q
    · rw [if_pos c2, decide_eq_true (.inr (.inl c2))]; simp [c2]
    · rw [if_neg c2]; congr 1; rw [Bool.eq_iff_iff]; simp [c, c2]
theorem or2 (k p q : Int) : (if k = p then some (k == p) else some (k == q) : Option Bool) = some (decide (k = p ∨ k = q)) := by
  by_cases c : k = p
  · rw [if_pos c, decide_eq_true (.inl c)]; simp [c]
  · rw [if_neg c]; congr 1; rw [Bool.eq_iff_iff]; simp [c]
/-- A call: what comes of it is a tree of what the document says. -/
theorem step9_eq (t : tree_Tree_int) (l : List El) (ht : IsT t l) (hl : l.length ≤ 700000) (o : law09_Op) : ∃ u m, law09_step t l o = some (u, m, true) ∧ IsT u m ∧ m.length ≤ l.length + 1 := by
  unfold law09_step
  have e2 : ∃ i, (if o.fOdd = true then some o.fI else bnd (rmd (IntKind.wrap .u64 o.fI) (IntKind.wrap .u64 (w64 ((l.length : Int) + 1)))) fun x4 => some (w64 x4) : Option Int) = some i := by
    by_cases c : o.fOdd = true
    · exact ⟨_, if_pos c⟩
    · rw [if_neg c, w64_id ⟨by omega, by omega⟩]
      have : IntKind.wrap .u64 ((l.length : Int) + 1) = (l.length : Int) + 1 := by
        simp [IntKind.wrap, IntKind.bits, IntKind.signed]
        omega
      rw [this, rmd_of (by omega), bnd_some']
      exact ⟨_, rfl⟩
  obtain ⟨i, hi⟩ := e2
  rw [hi, bnd_some', or3, bnd_some', or2, bnd_some']
  have fin : ∀ (a b : Bool) (u : tree_Tree_int) (m : List El), a = b → IsT u m → m.length ≤ l.length + 1 → ∃ u' m', (some ((⟨u.fRoot⟩ : tree_Tree_int), m, (a == b)) : Option (tree_Tree_int × List El × Bool)) = some (u', m', true) ∧ IsT u' m' ∧ m'.length ≤ l.length + 1 := fun a b u m h h1 h2 => ⟨u, m, by rw [h]; simp, h1, h2⟩
  by_cases k1 : o.fKind = 0 ∨ o.fKind = 1 ∨ o.fKind = 2
  · rw [decide_eq_true k1, if_pos rfl, rIns l i o.fX (by omega)]
    obtain ⟨h1, h2⟩ := Insert_eq t l ht (by omega) i o.fX
    by_cases c : i < 0 ∨ (l.length : Int) < i
    · rw [h1 c, bnd_some', if_pos c, bnd_some', bnd_some']
      exact fin _ _ t l rfl ht (by omega)
    · obtain ⟨u, u1, u2⟩ := h2 c
      have := repL_len l (i := i.toNat) (j := i.toNat) [o.fX] (by omega) (by omega)
      simp only [List.length_cons, List.length_nil] at this
      rw [u1, bnd_some', if_neg c, bnd_some', bnd_some']
      exact fin _ _ u _ rfl u2 (by dsimp only; omega)
  · rw [decide_eq_false k1, if_neg (by simp)]
    by_cases k2 : o.fKind = 3 ∨ o.fKind = 4
    · rw [decide_eq_true k2, if_pos rfl, rDel l i (by omega)]
      obtain ⟨h1, h2⟩ := Delete_eq t l ht (by omega) i
      by_cases c : 0 ≤ i ∧ i < (l.length : Int)
      · obtain ⟨u, u1, u2⟩ := h2 c
        have := repL_len l (i := i.toNat) (j := i.toNat + 1) [] (by omega) (by omega)
        simp only [List.length_nil] at this
        rw [u1, bnd_some', if_neg (fun h => h c), bnd_some', bnd_some']
        exact fin _ _ u _ rfl u2 (by dsimp only; omega)
      · rw [h1 c, bnd_some', if_pos c, bnd_some', bnd_some']
        exact fin _ _ t l rfl ht (by omega)
    · rw [decide_eq_false k2, if_neg (by simp)]
      by_cases k3 : o.fKind = 5
      · rw [if_pos k3, rSet l i o.fX (by omega)]
        obtain ⟨h1, h2⟩ := Set_eq t l ht (by omega) i o.fX
        by_cases c : 0 ≤ i ∧ i < (l.length : Int)
        · obtain ⟨u, u1, u2⟩ := h2 c
          have := repL_len l (i := i.toNat) (j := i.toNat + 1) [o.fX] (by omega) (by omega)
          simp only [List.length_cons, List.length_nil] at this
          rw [u1, bnd_some', if_neg (fun h => h c), bnd_some', bnd_some']
          exact fin _ _ u _ rfl u2 (by dsimp only; omega)
        · rw [h1 c, bnd_some', if_pos c, bnd_some', bnd_some']
          exact fin _ _ t l rfl ht (by omega)
      · rw [if_neg k3, bnd_some']
        exact fin _ _ t l rfl ht (by omega)
theorem TreePlays_holds (a0 : List Int) (a1 : List law09_Op) (w0 : a0.length ≤ maxLen ∧ ∀ a ∈ a0, (Lit.int .i64 a).wf = true) (w1 : a1.length ≤ maxLen ∧ ∀ a ∈ a1, (Lit.int .i64 a.fKind).wf = true ∧ (Lit.int .i64 a.fI).wf = true ∧ (Lit.int .i64 a.fX).wf = true ∧ True) : law09_TreePlays a0 a1 = some true := by
  have w1' := w1.1
  simp only [maxLen] at w1'
  unfold law09_TreePlays
  rw [few9_eq, bnd_some']
  have hl : (a0.take 300).length ≤ 300 := by simp; omega
  generalize a0.take 300 = l at hl
  obtain ⟨t, t1, t2⟩ := Of_eq l (by omega)
  rw [t1, bnd_some', Fits_eq t l t2 (by omega), bnd_some', if_pos rfl]
  obtain ⟨r, r1, r2⟩ : ∃ r, loop (law09_TreePlays.l1 a1) (l, 0, t.fRoot) = some r ∧ ∃ m u, r = Ex.brk (m, u) ∧ IsT ⟨u⟩ m ∧ m.length ≤ 400 := by
    refine loop_for (f := law09_TreePlays.l1 a1) (σ := List El × Option NP) (fun k s => (s.1, k, s.2)) a1 (fun pre s => IsT ⟨s.2⟩ s.1 ∧ s.1.length ≤ 300 + pre.length ∧ pre.length ≤ 80) _ (fun pre o suf s hs hI => ?_) (fun s hI => ?_) (s0 := (l, t.fRoot)) ⟨t2, by simpa using hl, by simp⟩
    · obtain ⟨i1, i2, i3⟩ := hI
      have hlen : a1.length = pre.length + (suf.length + 1) := by rw [hs]; simp
      unfold law09_TreePlays.l1
      dsimp only
      rw [if_pos (by omega), show idx a1 (pre.length : Int) = some o by rw [hs]; exact idx_at pre o suf, bnd_some']
      by_cases c : pre.length = 80
      · rw [if_pos (by omega)]
        exact .inr ⟨_, rfl, s.1, s.2, rfl, i1, by omega⟩
      · rw [if_neg (by omega)]
        obtain ⟨u, m, s1, s2, s3⟩ := step9_eq ⟨s.2⟩ s.1 i1 (by omega) o
        rw [s1, bnd_some']
        dsimp only
        rw [if_pos rfl, Fits_eq u m s2 (by omega), bnd_some', Bool.not_true, bnd_some', if_neg (by simp), w64_id ⟨by omega, by omega⟩]
        exact .inl ⟨(m, u.fRoot), rfl, s2, by simp; omega, by simp; omega⟩
    · obtain ⟨i1, i2, i3⟩ := hI
      refine ⟨_, ?_, s.1, s.2, rfl, i1, by omega⟩
      unfold law09_TreePlays.l1
      dsimp only
      rw [if_neg (by omega)]
  obtain ⟨m, u, rfl, u1, u2⟩ := r2
  rw [r1, bnd_some']
  dsimp only
  rw [All_eq _ m u1 (by omega), bnd_some', same9_eq m m (by omega), bnd_some', decide_eq_true rfl, if_pos rfl, awake9_eq, bnd_some', bnd_some']
end Go.Proofs.Ytkmdfaodbiknlaa.S
