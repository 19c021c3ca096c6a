/- Walks through trees, plainly: the stack, and what is gone through. -/
import Derived.Test.YtkmdfaodbiknlaaG0
import Derived.Test.YtkmdfaodbiknlaaG14xa
import Derived.Test.YtkmdfaodbiknlaaTrb
set_option linter.unusedVariables false
namespace Go.Proofs.Ytkmdfaodbiknlaa.S
open Go Go.Sm
abbrev Fr := walk_frame_int
/-- The frames from a node down to the leaf of a place. -/
def Pth : Nat → Nd → List El → Nat → List Fr → Nat → Prop
  | 0, z, l, first, stk, i => stk = [⟨some (c_tree_Node_int z), (first : Int), (i : Int)⟩] ∧ i ≤ l.length ∧ T 0 z l
  | h + 1, z, l, first, stk, i => ∃ (k : Nat) (w : Nd) (la m lb : List El) (stk' : List Fr), z.fKids[k]? = some (c_tree_Node_int w) ∧ T h w m ∧ 3 ≤ wd w ∧ wd w ≤ 6 ∧ l = la ++ m ++ lb ∧ Fo 3 h (z.fKids.take k) la ∧ Fo 3 h (z.fKids.drop (k + 1)) lb ∧
      stk = ⟨some (c_tree_Node_int z), ((first + la.length : Nat) : Int), (k : Int)⟩ :: stk' ∧ la.length ≤ i ∧ Pth h w m (first + la.length) stk' (i - la.length)
theorem Pth.le : ∀ {h : Nat} {z : Nd} {l : List El} {first : Nat} {stk : List Fr} {i : Nat}, Pth h z l first stk i → i ≤ l.length ∧ stk.length = h + 1
  | 0, z, l, first, stk, i, hp => by
    obtain ⟨rfl, h1, _⟩ := hp
    exact ⟨h1, rfl⟩
  | h + 1, z, l, first, stk, i, hp => by
    obtain ⟨k, w, la, m, lb, stk', k1, k2, k3, k4, rfl, k6, k7, rfl, k9, k10⟩ := hp
    obtain ⟨a, b⟩ := Pth.le k10
    simp only [List.length_append, List.length_cons]
    omega
/-- What lies on top. -/
theorem Pth.top : ∀ {h : Nat} {z : Nd} {l : List El} {first : Nat} {stk : List Fr} {i : Nat}, Pth h z l first stk i → ∃ (pre : List Fr) (w : Nd) (fs : Int) (k : Nat), stk = pre ++ [⟨some (c_tree_Node_int w), fs, (k : Int)⟩] ∧ k ≤ w.fItems.length ∧
      (k < w.fItems.length → i < l.length ∧ l[i]? = w.fItems[k]? ∧ Pth h z l first (pre ++ [⟨some (c_tree_Node_int w), fs, ((k + 1 : Nat) : Int)⟩]) (i + 1))
  | 0, z, l, first, stk, i, hp => by
    obtain ⟨rfl, h1, h2⟩ := hp
    obtain ⟨q1, q2, q3⟩ := leaf_wd h2
    refine ⟨[], z, (first : Int), i, rfl, by rw [q3]; exact h1, fun hk => ?_⟩
    rw [q3] at hk ⊢
    exact ⟨hk, rfl, rfl, by omega, h2⟩
  | h + 1, z, l, first, stk, i, hp => by
    obtain ⟨k, w, la, m, lb, stk', k1, k2, k3, k4, rfl, k6, k7, rfl, k9, k10⟩ := hp
    obtain ⟨pre, u, fs, j, rfl, j1, j2⟩ := Pth.top k10
    refine ⟨⟨some (c_tree_Node_int z), ((first + la.length : Nat) : Int), (k : Int)⟩ :: pre, u, fs, j, rfl, j1, fun hk => ?_⟩
    obtain ⟨j3, j4, j5⟩ := j2 hk
    refine ⟨by simp only [List.length_append]; omega, ?_, k, w, la, m, lb, _, k1, k2, k3, k4, rfl, k6, k7, rfl, by omega, ?_⟩
    · rw [← j4, List.append_assoc, List.getElem?_append_right k9, List.getElem?_append_left (by omega)]
    · rw [show i + 1 - la.length = i - la.length + 1 by omega]; exact j5
/-- Which kid: down's own loop. -/
theorem downKid {h : Nat} {ks : List NP} {l : List El} (hf : Fo 3 h ks l) (hk : ks.length ≤ 900000) (hne : 0 < ks.length) (first i : Nat) (hi : i < l.length) (hb : first + l.length ≤ 900000)
    {f : Int × Int → Option (Lp (Int × Int) (Int × Int))} (hfe : ∀ s, f s = bnd (if s.2 < (w64 ((ks.length : Int) - 1)) then
      bnd (idx ks s.2) fun x24 => bnd (o_tree_Node_int x24) fun x25 => some (decide (((first + i : Nat) : Int) ≥ (w64 (s.1 + x25.fN)))) else some false : Option Bool) fun t22 =>
      if t22 = true then bnd (idx ks s.2) fun x27 => bnd (o_tree_Node_int x27) fun x28 => some (Lp.next (w64 (s.1 + x28.fN), w64 (s.2 + 1))) else some (Lp.done (s.1, s.2))) :
    ∃ (k : Nat) (w : Nd) (la m lb : List El), loop f ((first : Int), 0) = some (((first + la.length : Nat) : Int), (k : Int)) ∧ ks[k]? = some (c_tree_Node_int w) ∧ T h w m ∧ 3 ≤ wd w ∧ wd w ≤ 6 ∧ l = la ++ m ++ lb ∧ Fo 3 h (ks.take k) la ∧ Fo 3 h (ks.drop (k + 1)) lb ∧
      la.length ≤ i ∧ i < la.length + m.length := by
  have key : ∀ (suf pre : List NP) (lp ls : List El), ks = pre ++ suf → 0 < suf.length → l = lp ++ ls → Fo 3 h pre lp → Fo 3 h suf ls → lp.length ≤ i →
      ∃ (k : Nat) (w : Nd) (la m lb : List El), loop f (((first + lp.length : Nat) : Int), (pre.length : Int)) = some (((first + la.length : Nat) : Int), (k : Int)) ∧ ks[k]? = some (c_tree_Node_int w) ∧ T h w m ∧ 3 ≤ wd w ∧ wd w ≤ 6 ∧ l = la ++ m ++ lb ∧ Fo 3 h (ks.take k) la ∧ Fo 3 h (ks.drop (k + 1)) lb ∧
        la.length ≤ i ∧ i < la.length + m.length := by
    intro suf
    induction suf with
    | nil => intro pre lp ls _ h0; simp at h0
    | cons x rest ih =>
      intro pre lp ls hks _ hls hp hs hlp
      obtain ⟨z, m, r, rfl, g1, g2, g3, rfl, g5⟩ := hs.cons_inv
      have hlen : ks.length = pre.length + (rest.length + 1) := by rw [hks]; simp
      have hx : ks[pre.length]? = some (c_tree_Node_int z) := by rw [hks]; simp
      have hll : l.length = lp.length + (m.length + r.length) := by rw [hls]; simp
      have hN := T_N g1
      have htake : ks.take pre.length = pre := by rw [hks]; simp
      have hdrop : ks.drop (pre.length + 1) = rest := by rw [hks]; simp
      have fin : i < lp.length + m.length → f (((first + lp.length : Nat) : Int), (pre.length : Int)) = some (.done (((first + lp.length : Nat) : Int), (pre.length : Int))) →
          ∃ (k : Nat) (w : Nd) (la m lb : List El), loop f (((first + lp.length : Nat) : Int), (pre.length : Int)) = some (((first + la.length : Nat) : Int), (k : Int)) ∧ ks[k]? = some (c_tree_Node_int w) ∧ T h w m ∧ 3 ≤ wd w ∧ wd w ≤ 6 ∧ l = la ++ m ++ lb ∧ Fo 3 h (ks.take k) la ∧ Fo 3 h (ks.drop (k + 1)) lb ∧
            la.length ≤ i ∧ i < la.length + m.length := fun f1 f3 =>
        ⟨pre.length, z, lp, m, r, loop_done f3, hx, g1, g2, g3, by rw [hls]; simp, by rw [htake]; exact hp, by rw [hdrop]; exact g5, hlp, f1⟩
      by_cases c0 : rest.length = 0
      · obtain rfl := List.length_eq_zero_iff.1 c0
        have := g5.nil_inv
        subst this
        simp only [List.length_nil] at hll hlen
        refine fin (by omega) ?_
        rw [hfe]
        dsimp only
        rw [w64_id ⟨by omega, by omega⟩, if_neg (by omega), bnd_some', if_neg (by simp)]
      · by_cases c1 : m.length ≤ i - lp.length
        · have hlpm : (lp ++ m).length = lp.length + m.length := List.length_append
          obtain ⟨k, z', la, m', lb, e1, e2⟩ := ih (pre ++ [c_tree_Node_int z]) (lp ++ m) r (by rw [hks]; simp) (by omega) (by rw [hls]; simp) (hp.app (Fo.one g1 g2 g3)) g5 (by omega)
          refine ⟨k, z', la, m', lb, loop_next (s' := (((first + (lp ++ m).length : Nat) : Int), ((pre ++ [c_tree_Node_int z]).length : Int))) ?_ e1, e2⟩
          rw [hfe]
          dsimp only
          rw [w64_id (x := (ks.length : Int) - 1) ⟨by omega, by omega⟩, if_pos (by omega), idx_of hx, bnd_some', oN, bnd_some', bnd_some', hN, w64_id (x := ((first + lp.length : Nat) : Int) + (m.length : Int)) ⟨by omega, by omega⟩, if_pos (by simp; omega), bnd_some', oN, bnd_some', hN, w64_id (x := ((first + lp.length : Nat) : Int) + (m.length : Int)) ⟨by omega, by omega⟩, w64_id ⟨by omega, by omega⟩]
          congr 3
          · omega
          · simp
        · refine fin (by omega) ?_
          rw [hfe]
          dsimp only
          rw [w64_id (x := (ks.length : Int) - 1) ⟨by omega, by omega⟩, if_pos (by omega), idx_of hx, bnd_some', oN, bnd_some', bnd_some', hN, w64_id (x := ((first + lp.length : Nat) : Int) + (m.length : Int)) ⟨by omega, by omega⟩, if_neg (by simp; omega)]
  obtain ⟨k, z, la, m, lb, e1, e2⟩ := key ks [] [] l rfl hne rfl Fo.nil hf (by simp)
  exact ⟨k, z, la, m, lb, e1, e2⟩
/-- Fresh: the leaf on top has what is next. -/
def Fresh (stk : List Fr) : Prop := ∃ (pre : List Fr) (w : Nd) (fs : Int) (k : Nat), stk = pre ++ [⟨some (c_tree_Node_int w), fs, (k : Int)⟩] ∧ k < w.fItems.length
abbrev DSt := List NP × List El × Int × Int × List Fr
theorem down_gen {f1 : DSt → Int × Int → Option (Lp (Int × Int) (Int × Int))} {f2 : DSt → Option (Lp DSt DSt)} : ∀ (h : Nat) (z : Nd) (l : List El) (first i : Nat) (stk : List Fr),
    (∀ s4 s, f1 s4 s = bnd (if s.2 < (w64 ((s4.1.length : Int) - 1)) then bnd (idx s4.1 s.2) fun x24 => bnd (o_tree_Node_int x24) fun x25 => some (decide (((first + i : Nat) : Int) ≥ (w64 (s.1 + x25.fN)))) else some false : Option Bool) fun t22 =>
      if t22 = true then bnd (idx s4.1 s.2) fun x27 => bnd (o_tree_Node_int x27) fun x28 => some (Lp.next (w64 (s.1 + x28.fN), w64 (s.2 + 1))) else some (Lp.done (s.1, s.2))) →
    (∀ s4, f2 s4 = if (s4.1.length : Int) > 0 then bnd (loop (f1 s4) (s4.2.2.2.1, 0) : Option (Int × Int)) fun t13 =>
      bnd (app 24 s4.2.2.2.2 [(⟨(some (c_tree_Node_int (⟨s4.1, s4.2.1, s4.2.2.1⟩ : tree_Node_int))), t13.1, t13.2⟩ : walk_frame_int)]) fun x29 => bnd (idx s4.1 t13.2) fun x31 => bnd (o_tree_Node_int x31) fun x32 => some (Lp.next (x32.fKids, x32.fItems, x32.fN, t13.1, x29))
      else some (Lp.done (s4.1, s4.2.1, s4.2.2.1, s4.2.2.2.1, s4.2.2.2.2))) →
    T h z l → wd z ≤ 6 → i < l.length → first + l.length ≤ 900000 → stk.length + h ≤ 1000 →
    ∃ (w : Nd) (fs j : Nat) (inn : List Fr), loop f2 (z.fKids, z.fItems, z.fN, (first : Int), stk) = some (w.fKids, w.fItems, w.fN, (fs : Int), stk ++ inn) ∧ fs + j = first + i ∧ j < w.fItems.length ∧ inn.length = h ∧ Pth h z l first (inn ++ [⟨some (c_tree_Node_int w), (fs : Int), (j : Int)⟩]) i := by
  intro h
  induction h with
  | zero =>
    intro z l first i stk h1 h2 ht hw hi hb hs
    obtain ⟨q1, q2, q3⟩ := leaf_wd ht
    refine ⟨z, first, i, [], loop_done ?_, rfl, by rw [q3]; exact hi, rfl, rfl, by omega, ht⟩
    rw [h2]
    dsimp only
    rw [q2, if_neg (by simp), List.append_nil]
  | succ h ih =>
    intro z l first i stk h1 h2 ht hw hi hb hs
    have hkw := kids_wd ht
    obtain ⟨t1, t2, t3⟩ := T_succ.1 ht
    have hne : 0 < z.fKids.length := fo_ne t3 (fun e => by rw [e] at hi; simp at hi)
    obtain ⟨k, w, la, m, lb, k1, k2, k3, k4, k5, rfl, k7, k8, k9, k10⟩ := downKid t3 (by omega) hne first i hi hb (f := f1 (z.fKids, z.fItems, z.fN, (first : Int), stk)) (fun s => h1 _ s)
    simp only [List.length_append] at hb
    obtain ⟨u, fs, j, inn, d1, d2, d3, d4, d5⟩ := ih w m (first + la.length) (i - la.length) (stk ++ [⟨some (c_tree_Node_int z), ((first + la.length : Nat) : Int), (k : Int)⟩]) (by rw [show first + la.length + (i - la.length) = first + i by omega]; exact h1) h2 k3 k5 (by omega) (by omega) (by simp; omega)
    refine ⟨u, fs, j, ⟨some (c_tree_Node_int z), ((first + la.length : Nat) : Int), (k : Int)⟩ :: inn, loop_next (s' := (w.fKids, w.fItems, w.fN, ((first + la.length : Nat) : Int), stk ++ [⟨some (c_tree_Node_int z), ((first + la.length : Nat) : Int), (k : Int)⟩])) ?_ ?_, by omega, d3, by simp [d4], k, w, la, m, lb, _, k2, k3, k4, k5, rfl, k7, k8, rfl, k9, d5⟩
    · rw [h2]
      dsimp only
      rw [if_pos (by omega), k1, bnd_some', app_of (by simp; omega), bnd_some']
      dsimp only
      rw [idx_of k2, bnd_some', oN, bnd_some']
    · rw [d1]; simp
theorem down_eq {h : Nat} {z : Nd} {l : List El} {first i : Nat} (ht : T h z l) (hw : wd z ≤ 6) (hi : i < l.length) (hb : first + l.length ≤ 900000) (hs : h ≤ 500) :
    ∃ stk, walk_stack_int_down z.fKids z.fItems z.fN (first : Int) ((first + i : Nat) : Int) = some stk ∧ Pth h z l first stk i ∧ Fresh stk := by
  obtain ⟨w, fs, j, inn, d1, d2, d3, d4, d5⟩ := down_gen (f1 := walk_stack_int_down.l1 ((first + i : Nat) : Int)) (f2 := walk_stack_int_down.l2 ((first + i : Nat) : Int)) h z l first i [] (fun s4 s => rfl) (fun s4 => rfl) ht hw hi hb (by simp; omega)
  rw [List.nil_append] at d1
  refine ⟨inn ++ [⟨some (c_tree_Node_int w), (fs : Int), (j : Int)⟩], ?_, d5, inn, w, fs, j, rfl, d3⟩
  unfold walk_stack_int_down
  rw [d1, bnd_some']
  dsimp only
  rw [w64_id ⟨by omega, by omega⟩, show ((first + i : Nat) : Int) - (fs : Int) = (j : Int) by omega, app_of (by simp; omega), bnd_some']
theorem down2_eq {h : Nat} {z : Nd} {l : List El} {first i : Nat} (stk : List Fr) (ht : T h z l) (hw : wd z ≤ 6) (hi : i < l.length) (hb : first + l.length ≤ 900000) (hs : stk.length + h ≤ 500) :
    ∃ p, walk_stack_int_down_2 z.fKids z.fItems z.fN (first : Int) ((first + i : Nat) : Int) stk = some (stk ++ p) ∧ Pth h z l first p i ∧ Fresh p := by
  obtain ⟨w, fs, j, inn, d1, d2, d3, d4, d5⟩ := down_gen (f1 := walk_stack_int_down_2.l1 ((first + i : Nat) : Int)) (f2 := walk_stack_int_down_2.l2 ((first + i : Nat) : Int)) h z l first i stk (fun s4 s => rfl) (fun s4 => rfl) ht hw hi hb (by omega)
  refine ⟨inn ++ [⟨some (c_tree_Node_int w), (fs : Int), (j : Int)⟩], ?_, d5, inn, w, fs, j, rfl, d3⟩
  unfold walk_stack_int_down_2
  rw [d1, bnd_some']
  dsimp only
  rw [w64_id ⟨by omega, by omega⟩, show ((first + i : Nat) : Int) - (fs : Int) = (j : Int) by omega, app_of (by simp; omega), bnd_some', List.append_assoc]
theorem top_eq (pre : List Fr) (f : Fr) (hb : pre.length ≤ 900000) : walk_stack_int_top (pre ++ [f]) = some (pre.length : Int) ∧ idx (pre ++ [f]) (pre.length : Int) = some f := by
  have h2 : idx (pre ++ [f]) (pre.length : Int) = some f := idx_at pre f []
  refine ⟨?_, h2⟩
  unfold walk_stack_int_top
  rw [List.length_append, List.length_singleton, w64_id ⟨by omega, by omega⟩, show ((pre.length + 1 : Nat) : Int) - 1 = (pre.length : Int) by omega, h2, bnd_some']
theorem set_top (pre : List Fr) (f g : Fr) : (pre ++ [f]).set pre.length g = pre ++ [g] := by simp
theorem Fo.len_pos {h : Nat} {xs : List NP} {l : List El} (hf : Fo 3 h xs l) (hne : 0 < xs.length) (hpos : ∀ w m, T h w m → 3 ≤ wd w → 0 < m.length) : 0 < l.length := by
  cases xs with
  | nil => simp at hne
  | cons x xs =>
    obtain ⟨w, m, r, rfl, g1, g2, g3, rfl, g5⟩ := hf.cons_inv
    have := hpos w m g1 g2
    simp; omega
theorem T_pos : ∀ (h : Nat) (w : Nd) (m : List El), T h w m → 3 ≤ wd w → 0 < m.length := by
  intro h
  induction h with
  | zero => intro w m ht hw; have := (leaf_wd ht).1; omega
  | succ h ih =>
    intro w m ht hw
    have := kids_wd ht
    exact Fo.len_pos (T_succ.1 ht).2.2 (by omega) ih
/-- To the next leaf. -/
theorem forthLoop : ∀ (h : Nat) (z : Nd) (l : List El) (first i : Nat) (pre : List Fr) (w : Nd) (fs : Int) (p0 : List Fr), Pth h z l first (pre ++ [⟨some (c_tree_Node_int w), fs, (w.fItems.length : Int)⟩]) i → wd z ≤ 6 → first + l.length ≤ 900000 → p0.length + h ≤ 400 →
    (i < l.length → ∃ stk2, loop walk_stack_int_forth.l1 (p0 ++ pre) = some (.ret (true, p0 ++ stk2)) ∧ Pth h z l first stk2 i ∧ Fresh stk2) ∧
    (i = l.length → ∀ t, loop walk_stack_int_forth.l1 p0 = some t → loop walk_stack_int_forth.l1 (p0 ++ pre) = some t) := by
  intro h
  induction h with
  | zero =>
    intro z l first i pre w fs p0 hp hw hb hs
    obtain ⟨h1, h2, h3⟩ := hp
    obtain ⟨rfl, e⟩ := List.append_inj' (show pre ++ [_] = [] ++ [_] from h1) rfl
    simp only [List.cons.injEq, and_true, walk_frame_int.mk.injEq, Option.some.injEq] at e
    obtain ⟨e1, _, e3⟩ := e
    have := cN_inj _ _ e1
    subst this
    have hq := (leaf_wd h3).2.2
    rw [hq] at e3
    refine ⟨fun hi => by omega, fun _ t ht => by rw [List.append_nil]; exact ht⟩
  | succ h ih =>
    intro z l first i pre w fs p0 hp hw hb hs
    obtain ⟨k, u, la, m, lb, stk', k1, k2, k3, k4, rfl, k6, k7, k8, k9, k10⟩ := hp
    cases pre with
    | nil =>
      have := (Pth.le k10).2
      simp at k8
      rw [k8.2] at this
      simp at this
    | cons fr pre =>
      simp only [List.cons_append, List.cons.injEq] at k8
      obtain ⟨rfl, rfl⟩ := k8
      simp only [List.length_append] at hb
      have hle := (Pth.le k10).1
      obtain ⟨a1, a2⟩ := ih u m (first + la.length) (i - la.length) pre w fs (p0 ++ [⟨some (c_tree_Node_int z), ((first + la.length : Nat) : Int), (k : Int)⟩]) k10 k4 (by omega) (by simp; omega)
      have happ : p0 ++ ⟨some (c_tree_Node_int z), ((first + la.length : Nat) : Int), (k : Int)⟩ :: pre = (p0 ++ [⟨some (c_tree_Node_int z), ((first + la.length : Nat) : Int), (k : Int)⟩]) ++ pre := by simp
      by_cases c : i - la.length < m.length
      · obtain ⟨s2, b1, b2, b3⟩ := a1 c
        refine ⟨fun _ => ⟨⟨some (c_tree_Node_int z), ((first + la.length : Nat) : Int), (k : Int)⟩ :: s2, by rw [happ, b1]; simp, ⟨k, u, la, m, lb, s2, k1, k2, k3, k4, rfl, k6, k7, rfl, k9, b2⟩, ?_⟩, fun hi => by simp at hi; omega⟩
        obtain ⟨p, w', fs', k', rfl, q⟩ := b3
        exact ⟨_ :: p, w', fs', k', rfl, q⟩
      · have hi : i - la.length = m.length := by omega
        have a2 := a2 hi
        have hN := T_N k2
        have hkl : k < z.fKids.length := (List.getElem?_eq_some_iff.1 k1).1
        obtain ⟨g1, g2⟩ := top_eq p0 ⟨some (c_tree_Node_int z), ((first + la.length : Nat) : Int), (k : Int)⟩ (by omega)
        obtain ⟨g3, g4⟩ := top_eq p0 ⟨some (c_tree_Node_int z), w64 (((first + la.length : Nat) : Int) + u.fN), (k : Int)⟩ (by omega)
        obtain ⟨g5, g6⟩ := top_eq p0 ⟨some (c_tree_Node_int z), w64 (((first + la.length : Nat) : Int) + u.fN), w64 ((k : Int) + 1)⟩ (by omega)
        have hw1 : w64 (((first + la.length : Nat) : Int) + u.fN) = ((first + (la ++ m).length : Nat) : Int) := by
          rw [hN, w64_id ⟨by omega, by omega⟩, List.length_append]; omega
        have hz6 : z.fKids.length ≤ 6 := by unfold wd at hw; omega
        have hw2 : w64 ((k : Int) + 1) = ((k + 1 : Nat) : Int) := by rw [w64_id ⟨by omega, by omega⟩, show (k : Int) + 1 = ((k + 1 : Nat) : Int) by omega]
        rw [hw1] at g3 g4 g5 g6
        rw [hw2] at g5 g6
        have e1 : walk_stack_int_forth.l1 (p0 ++ [⟨some (c_tree_Node_int z), ((first + la.length : Nat) : Int), (k : Int)⟩]) = if ((k + 1 : Nat) : Int) < (z.fKids.length : Int) then
            (bnd (idx z.fKids ((k + 1 : Nat) : Int)) fun x34 => bnd (o_tree_Node_int x34) fun x35 => bnd (walk_stack_int_down_2 x35.fKids x35.fItems x35.fN ((first + (la ++ m).length : Nat) : Int) ((first + (la ++ m).length : Nat) : Int) (p0 ++ [⟨some (c_tree_Node_int z), ((first + (la ++ m).length : Nat) : Int), ((k + 1 : Nat) : Int)⟩])) fun x36 => some (.done (.ret (true, x36))))
            else (bnd (cut (p0 ++ [⟨some (c_tree_Node_int z), ((first + (la ++ m).length : Nat) : Int), ((k + 1 : Nat) : Int)⟩]) 0 (p0.length : Int)) fun x39 => some (.next x39)) := by
          unfold walk_stack_int_forth.l1
          rw [if_pos (by simp <;> omega), g1, bnd_some', g2, bnd_some']
          dsimp only
          rw [bnd_some']
          dsimp only
          rw [oN, bnd_some', idx_of k1, bnd_some', oN, bnd_some', Int.toNat_natCast, set_top, hw1, g4, bnd_some']
          dsimp only
          rw [set_top, hw2, g6, bnd_some']
          dsimp only
          rw [bnd_some']
          dsimp only
          have hl1 : (p0 ++ [(⟨some (c_tree_Node_int z), ((first + (la ++ m).length : Nat) : Int), ((k + 1 : Nat) : Int)⟩ : Fr)]).length = p0.length + 1 := by simp
          rw [oN, bnd_some', bnd_some', hl1, w64_id (x := ((p0.length + 1 : Nat) : Int) - 1) ⟨by omega, by omega⟩, show ((p0.length + 1 : Nat) : Int) - 1 = (p0.length : Int) by omega]
        by_cases ck : k + 1 < z.fKids.length
        · rw [if_pos (by omega)] at e1
          have hd1 : z.fKids.drop (k + 1) = z.fKids[k + 1] :: z.fKids.drop (k + 1 + 1) := List.drop_eq_getElem_cons ck
          rw [hd1] at k7
          obtain ⟨v, m2, r2, u3, u4, u5, u6, rfl, u8⟩ := k7.cons_inv
          have hkv : z.fKids[k + 1]? = some (c_tree_Node_int v) := by rw [List.getElem?_eq_getElem ck, u3]
          have hm2 := T_pos h v m2 u4 u5
          simp only [List.length_append] at hb
          obtain ⟨p, d1, d2, d3⟩ := down2_eq (first := first + (la ++ m).length) (i := 0) (p0 ++ [⟨some (c_tree_Node_int z), ((first + (la ++ m).length : Nat) : Int), ((k + 1 : Nat) : Int)⟩]) u4 u6 hm2 (by simp only [List.length_append]; omega) (by simp; omega)
          rw [Nat.add_zero] at d1
          rw [idx_of hkv, bnd_some', oN, bnd_some', d1, bnd_some'] at e1
          refine ⟨fun _ => ⟨⟨some (c_tree_Node_int z), ((first + (la ++ m).length : Nat) : Int), ((k + 1 : Nat) : Int)⟩ :: p, ?_, ⟨k + 1, v, la ++ m, m2, r2, p, hkv, u4, u5, u6, by simp, ?_, u8, rfl, by simp only [List.length_append]; omega, ?_⟩, ?_⟩, fun hi2 => by simp only [List.length_append] at hi2; omega⟩
          · rw [happ]
            refine a2 _ (loop_done ?_)
            rw [e1, List.append_assoc]; rfl
          · rw [List.take_succ_eq_append_getElem hkl]
            rw [List.getElem?_eq_getElem hkl] at k1
            rw [Option.some.inj k1]
            exact k6.app (Fo.one k2 k3 k4)
          · rw [show i - (la ++ m).length = 0 by simp only [List.length_append]; omega]; exact d2
          · obtain ⟨q, w', fs', k', rfl, h9⟩ := d3
            exact ⟨_ :: q, w', fs', k', rfl, h9⟩
        · rw [if_neg (by omega), cut_of ⟨by omega, by omega, by simp; omega⟩, bnd_some', show ((0 : Int)).toNat = 0 from rfl, List.drop_zero, Int.toNat_natCast, List.take_left] at e1
          have hd0 : z.fKids.drop (k + 1) = [] := List.drop_of_length_le (by omega)
          rw [hd0] at k7
          have := k7.nil_inv
          subst this
          refine ⟨fun hi2 => by simp only [List.length_append, List.length_nil] at hi2; omega, fun _ t ht => ?_⟩
          rw [happ]
          exact a2 t (loop_next e1 ht)
theorem forth_eq {h : Nat} {z : Nd} {l : List El} {i : Nat} {stk pre : List Fr} {w : Nd} {fs : Int} (hs : stk = pre ++ [⟨some (c_tree_Node_int w), fs, (w.fItems.length : Int)⟩]) (hp : Pth h z l 0 stk i) (hw : wd z ≤ 6) (hi : i < l.length) (hb : l.length ≤ 900000) (hh : h ≤ 400) :
    ∃ stk2, walk_stack_int_forth stk = some (true, stk2) ∧ Pth h z l 0 stk2 i ∧ Fresh stk2 := by
  have hlen := hp.le.2
  subst hs
  obtain ⟨stk2, s1, s2, s3⟩ := (forthLoop h z l 0 i pre w fs [] hp hw (by omega) (by simp; omega)).1 hi
  rw [List.nil_append, List.nil_append] at s1
  refine ⟨stk2, ?_, s2, s3⟩
  unfold walk_stack_int_forth
  rw [List.length_append, List.length_singleton] at hlen ⊢
  rw [w64_id ⟨by omega, by omega⟩, show ((pre.length + 1 : Nat) : Int) - 1 = (pre.length : Int) by omega, cut_of ⟨by omega, by omega, by simp; omega⟩, bnd_some', show ((0 : Int)).toNat = 0 from rfl, List.drop_zero, Int.toNat_natCast, List.take_left, s1, bnd_some']
/-! ### what is gone through -/
section
variable {R : Type}
/-- What is on top, for the body. -/
noncomputable def rtake (stk : List Fr) (K : El → List Fr → Option R) : Option R :=
  bnd (walk_stack_int_top stk) fun x31 => bnd (idx stk x31) fun x32 => bnd (some x32.fN) fun q33 => match q33 with
    | none => none
    | some z34 => bnd (o_tree_Node_int z34) fun x36 => bnd (idx x36.fItems x32.fNext) fun x38 => K x38 (stk.set x31.toNat (⟨x32.fN, x32.fFirst, w64 (x32.fNext + 1)⟩ : walk_frame_int))
/-- One round, up to the body. -/
noncomputable def rstep (stk : List Fr) (K : El → List Fr → Option R) : Option R :=
  bnd (walk_stack_int_top stk) fun x19 => bnd (idx stk x19) fun x20 => bnd (some x20.fN) fun q21 => match q21 with
    | none => none
    | some z22 => bnd (o_tree_Node_int z22) fun x24 =>
      bnd (if x20.fNext = (x24.fItems.length : Int) then bnd (walk_stack_int_forth stk) fun x29 => some x29.2 else some stk : Option (List Fr)) fun t26 => rtake t26 K
theorem Pth.items : ∀ {h : Nat} {z : Nd} {l : List El} {first : Nat} {pre : List Fr} {w : Nd} {fs : Int} {k : Int} {i : Nat}, Pth h z l first (pre ++ [⟨some (c_tree_Node_int w), fs, k⟩]) i → w.fItems.length ≤ l.length
  | 0, z, l, first, pre, w, fs, k, i, hp => by
    obtain ⟨h1, h2, h3⟩ := hp
    obtain ⟨rfl, e⟩ := List.append_inj' (show pre ++ [_] = [] ++ [_] from h1) rfl
    simp only [List.cons.injEq, and_true, walk_frame_int.mk.injEq, Option.some.injEq] at e
    have := cN_inj _ _ e.1
    subst this
    rw [(leaf_wd h3).2.2]; exact Nat.le_refl _
  | h + 1, z, l, first, pre, w, fs, k, i, hp => by
    obtain ⟨k, u, la, m, lb, stk', k1, k2, k3, k4, rfl, k6, k7, k8, k9, k10⟩ := hp
    cases pre with
    | nil =>
      have := (Pth.le k10).2
      simp at k8
      rw [k8.2] at this
      simp at this
    | cons fr pre =>
      simp only [List.cons_append, List.cons.injEq] at k8
      obtain ⟨rfl, rfl⟩ := k8
      have := Pth.items k10
      simp only [List.length_append]
      omega
theorem rtake_eq {h : Nat} {z : Nd} {l : List El} {i : Nat} {stk : List Fr} (hp : Pth h z l 0 stk i) (hf : Fresh stk) (hi : i < l.length) (hb : l.length ≤ 900000) (hh : h ≤ 400) (K : El → List Fr → Option R) :
    ∃ stk2, rtake stk K = K l[i] stk2 ∧ Pth h z l 0 stk2 (i + 1) := by
  obtain ⟨pre, w, fs, k, hs, h1, h2⟩ := hp.top
  obtain ⟨pre', w', fs', k', hs', h3⟩ := hf
  have hlen := hp.le.2
  rw [hs] at hs'
  obtain ⟨rfl, e⟩ := List.append_inj' hs' rfl
  simp only [List.cons.injEq, and_true, walk_frame_int.mk.injEq, Option.some.injEq] at e
  obtain ⟨e1, _, e3⟩ := e
  have := cN_inj _ _ e1
  subst this
  obtain rfl : k = k' := by omega
  obtain ⟨h4, h5, h6⟩ := h2 h3
  subst hs
  have hwl := hp.items
  rw [List.length_append, List.length_singleton] at hlen
  obtain ⟨g1, g2⟩ := top_eq pre ⟨some (c_tree_Node_int w), fs, (k : Int)⟩ (by omega)
  refine ⟨_, ?_, h6⟩
  unfold rtake
  rw [g1, bnd_some', g2, bnd_some', bnd_some']
  dsimp only
  rw [oN, bnd_some', idx_of (h5.symm.trans (List.getElem?_eq_getElem hi)), bnd_some', Int.toNat_natCast, set_top, w64_id ⟨by omega, by omega⟩, show ((k + 1 : Nat) : Int) = (k : Int) + 1 by omega]
theorem rstep_eq {h : Nat} {z : Nd} {l : List El} {i : Nat} {stk : List Fr} (hp : Pth h z l 0 stk i) (hw : wd z ≤ 6) (hi : i < l.length) (hb : l.length ≤ 900000) (hh : h ≤ 400) (K : El → List Fr → Option R) :
    ∃ stk2, rstep stk K = K l[i] stk2 ∧ Pth h z l 0 stk2 (i + 1) := by
  obtain ⟨pre, w, fs, k, hs, h1, h2⟩ := hp.top
  have hlen := hp.le.2
  rw [hs, List.length_append, List.length_singleton] at hlen
  obtain ⟨g1, g2⟩ := top_eq pre ⟨some (c_tree_Node_int w), fs, (k : Int)⟩ (by omega)
  rw [← hs] at g1 g2
  unfold rstep
  rw [g1, bnd_some', g2, bnd_some', bnd_some']
  dsimp only
  rw [oN, bnd_some']
  by_cases c : k < w.fItems.length
  · rw [if_neg (by omega), bnd_some']
    exact rtake_eq hp ⟨pre, w, fs, k, hs, c⟩ hi hb hh K
  · have hk : k = w.fItems.length := by omega
    subst hk
    obtain ⟨stk3, f1, f2, f3⟩ := forth_eq hs hp hw hi hb hh
    rw [if_pos rfl, f1, bnd_some', bnd_some']
    exact rtake_eq f2 f3 hi hb hh K
/-- What comes of going through things, from the i-th on. -/
def goR {σ τ : Type} (y : Int → El → σ → Option (σ ⊕ τ)) (fin : σ → τ) : List El → Int → σ → Option τ
  | [], _, s => some (fin s)
  | x :: xs, i, s => bnd (y i x s) fun r => match r with
    | .inl s' => goR y fin xs (i + 1) s'
    | .inr t => some t
theorem range_loop {S σ τ : Type} {f : S → Option (Lp S τ)} (mk : Int → List Fr → σ → S) (y : Int → El → σ → Option (σ ⊕ τ)) (fin : σ → τ) (j : Nat) {h : Nat} {z : Nd} {l : List El} (hw : wd z ≤ 6) (hb : l.length ≤ 900000) (hh : h ≤ 400) (hj : j ≤ l.length)
    (hf1 : ∀ (i : Nat) stk s, i < j → f (mk (i : Int) stk s) = rstep stk fun x st' => bnd (y (i : Int) x s) fun r => match r with | .inl s' => some (.next (mk (w64 ((i : Int) + 1)) st' s')) | .inr t => some (.done t))
    (hf2 : ∀ stk s, f (mk (j : Int) stk s) = some (.done (fin s))) : ∀ (n i : Nat) stk s t, i + n = j → Pth h z l 0 stk i → goR y fin ((l.take j).drop i) (i : Int) s = some t → loop f (mk (i : Int) stk s) = some t := by
  intro n
  induction n with
  | zero =>
    intro i stk s t hn hp hg
    obtain rfl : i = j := by omega
    rw [List.drop_of_length_le (by rw [List.length_take]; omega)] at hg
    obtain rfl := Option.some.inj (show some (fin s) = some t from hg)
    exact loop_done (hf2 stk s)
  | succ n ih =>
    intro i stk s t hn hp hg
    have hil : i < l.length := by omega
    have hd : (l.take j).drop i = l[i] :: (l.take j).drop (i + 1) := by
      rw [List.drop_eq_getElem_cons (by rw [List.length_take]; omega), List.getElem_take]
    rw [hd] at hg
    obtain ⟨stk2, s1, s2⟩ := rstep_eq hp hw hil hb hh (fun x st' => bnd (y (i : Int) x s) fun r => match r with | .inl s' => some (Lp.next (mk (w64 ((i : Int) + 1)) st' s')) | .inr t => some (Lp.done t) : El → List Fr → Option (Lp S τ))
    have e := hf1 i stk s (by omega)
    rw [s1, w64_id ⟨by omega, by omega⟩] at e
    unfold goR at hg
    cases hy : y (i : Int) l[i] s with
    | none => rw [hy] at hg; cases hg
    | some r =>
      rw [hy] at hg e
      cases r with
      | inl s' => exact loop_next e (ih (i + 1) stk2 s' t (by omega) s2 (by simpa using hg))
      | inr u =>
        obtain rfl := Option.some.inj (show some u = some t from hg)
        exact loop_done e
end
end Go.Proofs.Ytkmdfaodbiknlaa.S
