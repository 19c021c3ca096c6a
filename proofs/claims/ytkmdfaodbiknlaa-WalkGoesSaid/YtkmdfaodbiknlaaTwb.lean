/- Walks through trees, the last thing first, plainly. -/
import Derived.Test.YtkmdfaodbiknlaaG0
import Derived.Test.YtkmdfaodbiknlaaG14xa
import Derived.Test.YtkmdfaodbiknlaaG20xa
import Derived.Test.YtkmdfaodbiknlaaTwl
set_option linter.unusedVariables false
namespace Go.Proofs.Ytkmdfaodbiknlaa.S
open Go Go.Sm
theorem Pth.topB : ∀ {h : Nat} {z : Nd} {l : List El} {first : Nat} {pre : List Fr} {w : Nd} {fs : Int} {k i : Nat}, Pth h z l first (pre ++ [⟨some (c_tree_Node_int w), fs, (k : Int)⟩]) i → 0 < k →
    0 < i ∧ l[i - 1]? = w.fItems[k - 1]? ∧ Pth h z l first (pre ++ [⟨some (c_tree_Node_int w), fs, ((k - 1 : Nat) : Int)⟩]) (i - 1)
  | 0, z, l, first, pre, w, fs, k, i, hp, hk => by
    obtain ⟨h1, h2, h3⟩ := hp
    obtain ⟨rfl, e⟩ := List.append_inj' (show pre ++ [_] = [] ++ [_] from h1) rfl
    simp only [List.cons.injEq, and_true, walk_frame_int.mk.injEq, Option.some.injEq] at e
    obtain ⟨e1, e2, e3⟩ := e
    have := cN_inj _ _ e1
    subst this
    obtain rfl : k = i := by omega
    refine ⟨hk, by rw [(leaf_wd h3).2.2], by rw [e2]; rfl, by omega, h3⟩
  | h + 1, z, l, first, pre, w, fs, k, i, hp, hk => by
    obtain ⟨j, u, la, m, lb, stk', k1, k2, k3, k4, rfl, k6, k7, k8, k9, k10⟩ := hp
    cases pre with
    | nil =>
      have := (Pth.le k10).2
      simp at k8
      rw [k8.2] at this
      simp at this
    | cons fr pre =>
      simp only [List.cons_append, List.cons.injEq] at k8
      obtain ⟨rfl, rfl⟩ := k8
      obtain ⟨a1, a2, a3⟩ := Pth.topB k10 hk
      have hle := (Pth.le k10).1
      refine ⟨by omega, ?_, j, u, la, m, lb, _, k1, k2, k3, k4, rfl, k6, k7, rfl, by omega, ?_⟩
      · rw [← a2, List.append_assoc, List.getElem?_append_right (by omega), List.getElem?_append_left (by omega), show i - 1 - la.length = i - la.length - 1 by omega]
      · rw [show i - 1 - la.length = i - la.length - 1 by omega]; exact a3
/-- To the leaf ahead. -/
theorem backLoop : ∀ (h : Nat) (z : Nd) (l : List El) (first i : Nat) (pre : List Fr) (w : Nd) (fs : Int) (p0 : List Fr), Pth h z l first (pre ++ [⟨some (c_tree_Node_int w), fs, ((0 : Nat) : Int)⟩]) i → wd z ≤ 6 → first + l.length ≤ 900000 → p0.length + h ≤ 400 →
    (0 < i → ∃ (pre2 : List Fr) (w2 : Nd) (fs2 : Int) (k2 : Nat), loop walk_stack_int_back.l1 (p0 ++ pre) = some (.ret (true, p0 ++ (pre2 ++ [⟨some (c_tree_Node_int w2), fs2, (k2 : Int)⟩]))) ∧ Pth h z l first (pre2 ++ [⟨some (c_tree_Node_int w2), fs2, ((k2 + 1 : Nat) : Int)⟩]) i) ∧
    (i = 0 → ∀ t, loop walk_stack_int_back.l1 p0 = some t → loop walk_stack_int_back.l1 (p0 ++ pre) = some t) := by
  intro h
  induction h with
  | zero =>
    intro z l first i pre w fs p0 hp hw hb hs
    obtain ⟨h1, h2, h3⟩ := hp
    obtain ⟨rfl, e⟩ := List.append_inj' (show pre ++ [_] = [] ++ [_] from h1) rfl
    simp only [List.cons.injEq, and_true, walk_frame_int.mk.injEq, Option.some.injEq] at e
    obtain ⟨e1, _, e3⟩ := e
    refine ⟨fun hi => by omega, fun _ t ht => by rw [List.append_nil]; exact ht⟩
  | succ h ih =>
    intro z l first i pre w fs p0 hp hw hb hs
    obtain ⟨k, u, la, m, lb, stk', k1, k2, k3, k4, rfl, k6, k7, k8, k9, k10⟩ := hp
    cases pre with
    | nil =>
      have := (Pth.le k10).2
      simp at k8
      rw [k8.2] at this
      simp at this
    | cons fr pre =>
      simp only [List.cons_append, List.cons.injEq] at k8
      obtain ⟨rfl, rfl⟩ := k8
      simp only [List.length_append] at hb
      have hle := (Pth.le k10).1
      obtain ⟨a1, a2⟩ := ih u m (first + la.length) (i - la.length) pre w fs (p0 ++ [⟨some (c_tree_Node_int z), ((first + la.length : Nat) : Int), (k : Int)⟩]) k10 k4 (by omega) (by simp; omega)
      have happ : p0 ++ ⟨some (c_tree_Node_int z), ((first + la.length : Nat) : Int), (k : Int)⟩ :: pre = (p0 ++ [⟨some (c_tree_Node_int z), ((first + la.length : Nat) : Int), (k : Int)⟩]) ++ pre := by simp
      by_cases c : 0 < i - la.length
      · obtain ⟨pre2, w2, fs2, j2, b1, b2⟩ := a1 c
        exact ⟨fun _ => ⟨⟨some (c_tree_Node_int z), ((first + la.length : Nat) : Int), (k : Int)⟩ :: pre2, w2, fs2, j2, by rw [happ, b1]; simp, k, u, la, m, lb, _, k1, k2, k3, k4, rfl, k6, k7, rfl, k9, b2⟩, fun hi => by omega⟩
      · have a2 := a2 (by omega)
        have hkl : k < z.fKids.length := (List.getElem?_eq_some_iff.1 k1).1
        have hz6 : z.fKids.length ≤ 6 := by unfold wd at hw; omega
        obtain ⟨g1, g2⟩ := top_eq p0 ⟨some (c_tree_Node_int z), ((first + la.length : Nat) : Int), (k : Int)⟩ (by omega)
        by_cases ck : 0 < k
        · obtain ⟨k, rfl⟩ : ∃ n, k = n + 1 := ⟨k - 1, by omega⟩
          rw [List.take_succ_eq_append_getElem (show k < z.fKids.length by omega)] at k6
          obtain ⟨la1, la2, rfl, u1, u2⟩ := k6.split
          obtain ⟨v, m2, r2, u3, u4, u5, u6, u7, u8⟩ := u2.cons_inv
          have := u8.nil_inv
          subst this
          rw [List.append_nil] at u7
          subst u7
          have hkv : z.fKids[k]? = some (c_tree_Node_int v) := by rw [List.getElem?_eq_getElem (show k < z.fKids.length by omega), u3]
          have hm2 := T_pos h v la2 u4 u5
          have hN := T_N u4
          simp only [List.length_append] at hb g1 g2 k9 c
          obtain ⟨g3, g4⟩ := top_eq p0 ⟨some (c_tree_Node_int z), ((first + (la1.length + la2.length) : Nat) : Int), (k : Int)⟩ (by omega)
          obtain ⟨g5, g6⟩ := top_eq p0 ⟨some (c_tree_Node_int z), ((first + la1.length : Nat) : Int), (k : Int)⟩ (by omega)
          obtain ⟨p, d1, d2, d3⟩ := down2_eq (first := first + la1.length) (i := la2.length - 1) (p0 ++ [⟨some (c_tree_Node_int z), ((first + la1.length : Nat) : Int), (k : Int)⟩]) u4 u6 (by omega) (by omega) (by simp; omega)
          obtain ⟨pre', w', fs', k', rfl, q1, q2⟩ := d2.top
          obtain ⟨pre3, w3, fs3, k3', hs3, q3⟩ := d3
          obtain ⟨rfl, e⟩ := List.append_inj' hs3 rfl
          simp only [List.cons.injEq, and_true, walk_frame_int.mk.injEq, Option.some.injEq] at e
          obtain ⟨e1, _, e3⟩ := e
          have := cN_inj _ _ e1
          subst this
          obtain rfl : k' = k3' := by omega
          obtain ⟨_, _, q4⟩ := q2 q3
          rw [show la2.length - 1 + 1 = la2.length by omega] at q4
          have hw1 : w64 (((k + 1 : Nat) : Int) - 1) = (k : Int) := by rw [w64_id ⟨by omega, by omega⟩]; omega
          have hw2 : w64 (((first + (la1.length + la2.length) : Nat) : Int) - v.fN) = ((first + la1.length : Nat) : Int) := by rw [hN, w64_id ⟨by omega, by omega⟩]; omega
          have hw3 : w64 (w64 (((first + la1.length : Nat) : Int) + v.fN) - 1) = ((first + la1.length + (la2.length - 1) : Nat) : Int) := by
            rw [hN, w64_id (x := ((first + la1.length : Nat) : Int) + (la2.length : Int)) ⟨by omega, by omega⟩, w64_id ⟨by omega, by omega⟩]; omega
          have hstep : walk_stack_int_back.l1 (p0 ++ [⟨some (c_tree_Node_int z), ((first + (la1.length + la2.length) : Nat) : Int), ((k + 1 : Nat) : Int)⟩]) = some (.done (.ret (true, p0 ++ [⟨some (c_tree_Node_int z), ((first + la1.length : Nat) : Int), (k : Int)⟩] ++ (pre' ++ [⟨some (c_tree_Node_int w'), fs', (k' : Int)⟩])))) := by
            unfold walk_stack_int_back.l1
            rw [if_pos (by simp <;> omega), g1, bnd_some', g2, bnd_some']
            dsimp only
            rw [if_pos (by omega), Int.toNat_natCast, set_top, hw1, g4, bnd_some']
            dsimp only
            rw [bnd_some']
            dsimp only
            rw [oN, bnd_some', idx_of hkv, bnd_some', oN, bnd_some', set_top, hw2, g6, bnd_some']
            dsimp only
            rw [hw3, d1, bnd_some']
          refine ⟨fun _ => ⟨⟨some (c_tree_Node_int z), ((first + la1.length : Nat) : Int), (k : Int)⟩ :: pre', w', fs', k', ?_, k, v, la1, la2, m ++ lb, _, hkv, u4, u5, u6, by simp, u1, ?_, rfl, by omega, ?_⟩, fun hi => by omega⟩
          · rw [happ]
            refine a2 _ (loop_done ?_)
            rw [List.length_append, hstep]; simp
          · rw [List.drop_eq_getElem_cons hkl]
            rw [List.getElem?_eq_getElem hkl] at k1
            rw [Option.some.inj k1]
            exact (Fo.one k2 k3 k4).app k7
          · rw [show i - la1.length = la2.length by omega]; exact q4
        · have : k = 0 := by omega
          subst this
          have := k6.nil_inv
          subst this
          refine ⟨fun hi => by simp at k9 c; omega, fun _ t ht => ?_⟩
          rw [happ]
          refine a2 t (loop_next ?_ ht)
          unfold walk_stack_int_back.l1
          have hl1 : (p0 ++ [(⟨some (c_tree_Node_int z), ((first + ([] : List El).length : Nat) : Int), ((0 : Nat) : Int)⟩ : Fr)]).length = p0.length + 1 := by simp
          rw [if_pos (by simp <;> omega), g1, bnd_some', g2, bnd_some']
          dsimp only
          rw [if_neg (by omega), hl1, w64_id ⟨by omega, by omega⟩, show ((p0.length + 1 : Nat) : Int) - 1 = (p0.length : Int) by omega, cut_of ⟨by omega, by omega, by simp; omega⟩, bnd_some', show ((0 : Int)).toNat = 0 from rfl, List.drop_zero, Int.toNat_natCast, List.take_left]
theorem back_eq {h : Nat} {z : Nd} {l : List El} {i : Nat} {pre : List Fr} {w : Nd} {fs e : Int} (hp : Pth h z l 0 (pre ++ [⟨some (c_tree_Node_int w), fs, ((0 : Nat) : Int)⟩]) i) (hw : wd z ≤ 6) (hi : 0 < i) (hb : l.length ≤ 900000) (hh : h ≤ 400) :
    ∃ (pre2 : List Fr) (w2 : Nd) (fs2 : Int) (k2 : Nat), walk_stack_int_back (pre ++ [⟨some (c_tree_Node_int w), fs, e⟩]) = some (true, pre2 ++ [⟨some (c_tree_Node_int w2), fs2, (k2 : Int)⟩]) ∧ Pth h z l 0 (pre2 ++ [⟨some (c_tree_Node_int w2), fs2, ((k2 + 1 : Nat) : Int)⟩]) i := by
  have hlen := hp.le.2
  obtain ⟨pre2, w2, fs2, k2, s1, s2⟩ := (backLoop h z l 0 i pre w fs [] hp hw (by omega) (by simp; omega)).1 hi
  rw [List.nil_append, List.nil_append] at s1
  refine ⟨pre2, w2, fs2, k2, ?_, s2⟩
  unfold walk_stack_int_back
  rw [List.length_append, List.length_singleton] at hlen ⊢
  rw [w64_id ⟨by omega, by omega⟩, show ((pre.length + 1 : Nat) : Int) - 1 = (pre.length : Int) by omega, cut_of ⟨by omega, by omega, by simp; omega⟩, bnd_some', show ((0 : Int)).toNat = 0 from rfl, List.drop_zero, Int.toNat_natCast, List.take_left, s1, bnd_some']
section
variable {R : Type}
noncomputable def btake (stk : List Fr) (K : El → List Fr → Option R) : Option R :=
  bnd (walk_stack_int_top stk) fun x25 => bnd (idx stk x25) fun x26 => bnd (some x26.fN) fun q27 => match q27 with
    | none => none
    | some z28 => bnd (o_tree_Node_int z28) fun x30 => bnd (idx x30.fItems x26.fNext) fun x32 => K x32 (stk.set x25.toNat (⟨x26.fN, x26.fFirst, w64 (x26.fNext - 1)⟩ : walk_frame_int))
noncomputable def bstep (stk : List Fr) (K : El → List Fr → Option R) : Option R :=
  bnd (walk_stack_int_top stk) fun x18 => bnd (idx stk x18) fun x19 =>
    bnd (if x19.fNext < 0 then bnd (walk_stack_int_back stk) fun x23 => some x23.2 else some stk : Option (List Fr)) fun t20 => btake t20 K
/-- A stack ahead of the i-th one: one less on top. -/
def Bth (h : Nat) (z : Nd) (l : List El) (stk : List Fr) (i : Nat) : Prop := ∃ (pre : List Fr) (w : Nd) (fs : Int) (k : Nat), stk = pre ++ [⟨some (c_tree_Node_int w), fs, (k : Int) - 1⟩] ∧ Pth h z l 0 (pre ++ [⟨some (c_tree_Node_int w), fs, (k : Int)⟩]) i
theorem btake_eq {h : Nat} {z : Nd} {l : List El} {i : Nat} {pre : List Fr} {w : Nd} {fs : Int} {k : Nat} (hp : Pth h z l 0 (pre ++ [⟨some (c_tree_Node_int w), fs, ((k + 1 : Nat) : Int)⟩]) (i + 1)) (hi : i < l.length) (hb : l.length ≤ 900000) (hh : h ≤ 400) (K : El → List Fr → Option R) :
    ∃ stk2, btake (pre ++ [⟨some (c_tree_Node_int w), fs, (k : Int)⟩]) K = K l[i] stk2 ∧ Bth h z l stk2 i := by
  have hlen := hp.le.2
  obtain ⟨h4, h5, h6⟩ := hp.topB (by omega)
  rw [show k + 1 - 1 = k by omega, show i + 1 - 1 = i by omega] at *
  have hwl := hp.items
  rw [List.length_append, List.length_singleton] at hlen
  obtain ⟨g1, g2⟩ := top_eq pre ⟨some (c_tree_Node_int w), fs, (k : Int)⟩ (by omega)
  have hkl := (List.getElem?_eq_some_iff.1 (h5.symm.trans (List.getElem?_eq_getElem hi))).1
  refine ⟨_, ?_, pre, w, fs, k, rfl, h6⟩
  unfold btake
  rw [g1, bnd_some', g2, bnd_some', bnd_some']
  dsimp only
  rw [oN, bnd_some', idx_of (h5.symm.trans (List.getElem?_eq_getElem hi)), bnd_some', Int.toNat_natCast, set_top, w64_id ⟨by omega, by omega⟩]
theorem bstep_eq {h : Nat} {z : Nd} {l : List El} {i : Nat} {stk : List Fr} (hp : Bth h z l stk (i + 1)) (hw : wd z ≤ 6) (hi : i < l.length) (hb : l.length ≤ 900000) (hh : h ≤ 400) (K : El → List Fr → Option R) :
    ∃ stk2, bstep stk K = K l[i] stk2 ∧ Bth h z l stk2 i := by
  obtain ⟨pre, w, fs, k, hs, h1⟩ := hp
  have hlen := h1.le.2
  rw [List.length_append, List.length_singleton] at hlen
  obtain ⟨g1, g2⟩ := top_eq pre ⟨some (c_tree_Node_int w), fs, (k : Int) - 1⟩ (by omega)
  unfold bstep
  rw [hs, g1, bnd_some', g2, bnd_some']
  dsimp only
  cases k with
  | zero =>
    obtain ⟨pre2, w2, fs2, k2, b1, b2⟩ := back_eq (e := ((0 : Nat) : Int) - 1) h1 hw (by omega) hb hh
    rw [if_pos (by omega), b1, bnd_some', bnd_some']
    exact btake_eq b2 hi hb hh K
  | succ k =>
    rw [if_neg (by omega), bnd_some', show ((k + 1 : Nat) : Int) - 1 = (k : Int) by omega]
    exact btake_eq h1 hi hb hh K
def goB {σ τ : Type} (y : Int → El → σ → Option (σ ⊕ τ)) (fin : σ → τ) : List El → Int → σ → Option τ
  | [], _, s => some (fin s)
  | x :: xs, i, s => bnd (y i x s) fun r => match r with
    | .inl s' => goB y fin xs (i - 1) s'
    | .inr t => some t
theorem back_loop {S σ τ : Type} {f : S → Option (Lp S τ)} (mk : Int → List Fr → σ → S) (y : Int → El → σ → Option (σ ⊕ τ)) (fin : σ → τ) (a : Nat) {h : Nat} {z : Nd} {l : List El} (hw : wd z ≤ 6) (hb : l.length ≤ 900000) (hh : h ≤ 400)
    (hf1 : ∀ (i : Nat) stk s, a ≤ i → f (mk (i : Int) stk s) = bstep stk fun x st' => bnd (y (i : Int) x s) fun r => match r with | .inl s' => some (.next (mk (w64 ((i : Int) - 1)) st' s')) | .inr t => some (.done t))
    (hf2 : ∀ stk s, f (mk ((a : Int) - 1) stk s) = some (.done (fin s))) : ∀ (n i : Nat) stk s t, a + n = i → i ≤ l.length → Bth h z l stk i → goB y fin ((l.take i).drop a).reverse ((i : Int) - 1) s = some t → loop f (mk ((i : Int) - 1) stk s) = some t := by
  intro n
  induction n with
  | zero =>
    intro i stk s t hn hil hp hg
    obtain rfl : i = a := by omega
    rw [List.drop_of_length_le (by rw [List.length_take]; omega)] at hg
    obtain rfl := Option.some.inj (show some (fin s) = some t from hg)
    exact loop_done (hf2 stk s)
  | succ n ih =>
    intro i stk s t hn hil hp hg
    obtain ⟨i, rfl⟩ : ∃ m, i = m + 1 := ⟨i - 1, by omega⟩
    have hd : ((l.take (i + 1)).drop a).reverse = l[i] :: ((l.take i).drop a).reverse := by
      rw [List.take_succ_eq_append_getElem (by omega), List.drop_append_of_le_length (by rw [List.length_take]; omega), List.reverse_append]; rfl
    rw [hd] at hg
    rw [show ((i + 1 : Nat) : Int) - 1 = (i : Int) by omega] at *
    obtain ⟨stk2, s1, s2⟩ := bstep_eq hp hw (by omega) hb hh (fun x st' => bnd (y (i : Int) x s) fun r => match r with | .inl s' => some (Lp.next (mk (w64 ((i : Int) - 1)) st' s')) | .inr t => some (Lp.done t) : El → List Fr → Option (Lp S τ))
    have e := hf1 i stk s (by omega)
    rw [s1, w64_id ⟨by omega, by omega⟩] at e
    unfold goB at hg
    cases hy : y (i : Int) l[i] s with
    | none => rw [hy] at hg; cases hg
    | some r =>
      rw [hy] at hg e
      cases r with
      | inl s' => exact loop_next e (ih i stk2 s' t (by omega) (by omega) s2 (by simpa using hg))
      | inr u =>
        obtain rfl := Option.some.inj (show some u = some t from hg)
        exact loop_done e
end
end Go.Proofs.Ytkmdfaodbiknlaa.S
