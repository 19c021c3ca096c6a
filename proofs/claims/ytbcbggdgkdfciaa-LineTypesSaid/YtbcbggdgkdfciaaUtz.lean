/- The document's boundaries, and chapter 30's places and words, told plainly. -/
import Derived.Test.YtbcbggdgkdfciaaG3xa
import Derived.Test.YtbcbggdgkdfciaaG3xb
import Derived.Test.YtbcbggdgkdfciaaUty
set_option linter.unusedVariables false
namespace Go.Proofs.Ytbcbggdgkdfciaa.S
open Go Go.Sm
abbrev nI (n : Nat) : Int := (n : Int)
theorem boundsLoop (s : List UInt8) (hs : s.length ≤ 1000000) : ∀ n i (l : List Nat), s.length ≤ i + n → i ≤ s.length → l.length ≤ i + 1 → loop (ref01_Bounds.l1 s) ((i : Int), l.map nI) = some ((l ++ bndA s i).map nI) := by
  intro n
  induction n with
  | zero =>
    intro i l h hi hl
    rw [bndA_no (by omega), List.append_nil]
    refine loop_done ?_
    unfold ref01_Bounds.l1
    dsimp only
    rw [if_neg (by omega)]
  | succ n ih =>
    intro i l h hi hl
    by_cases hlt : i < s.length
    · have hb := step_bd hlt
      have e1 : w64 ((i : Int) + (atS s (i : Int)).2) = ((i + (dec (s.drop i)).2.toNat : Nat) : Int) := by
        rw [atS, if_pos (by omega), Int.toNat_natCast, w64_id ⟨by omega, by omega⟩]; omega
      rw [bndA_yes hlt]
      have hn := ih (i + (dec (s.drop i)).2.toNat) (l ++ [i + (dec (s.drop i)).2.toNat]) (by omega) (by omega) (by simp; omega)
      refine loop_next (s' := (((i + (dec (s.drop i)).2.toNat : Nat) : Int), (l ++ [i + (dec (s.drop i)).2.toNat]).map nI)) ?_ (by rw [hn]; simp)
      unfold ref01_Bounds.l1
      dsimp only
      rw [if_pos (by omega), At_eqU s _ hs, bnd_some', e1, app_of (by simp; omega), bnd_some']
      simp
    · rw [bndA_no hlt, List.append_nil]
      refine loop_done ?_
      unfold ref01_Bounds.l1
      dsimp only
      rw [if_neg (by omega)]
theorem Bounds_eqU (s : List UInt8) (hs : s.length ≤ 1000000) : ref01_Bounds s = some ((allB s).map nI) := by
  have h := boundsLoop s hs s.length 0 [0] (by omega) (by omega) (by simp)
  unfold ref01_Bounds
  have h' : loop (ref01_Bounds.l1 s) (0, [0]) = some ((allB s).map nI) := h
  rw [h', bnd_some']
theorem prevB_snoc (a : Int) (x : Nat) : ∀ (L : List Nat) (p : Nat), prevB (L ++ [x]) a p = if (x : Int) < a then x else prevB L a p
  | [], p => rfl
  | y :: L, p => by
    show prevB (L ++ [x]) a _ = _
    rw [prevB_snoc a x L]; rfl
theorem idxI (L : List Nat) (pre : List Nat) (x : Nat) (suf : List Nat) (h : L = pre ++ x :: suf) : idx (L.map nI) (pre.length : Int) = some (x : Int) := by
  subst h
  rw [List.map_append, List.map_cons, show (pre.length : Int) = ((pre.map nI).length : Int) by simp]
  exact idx_at _ _ _
theorem refPrev_eqU (s : List UInt8) (a : Int) (hs : s.length ≤ 1000000) : ref01_Prev s a = some ((prevB (allB s) a 0 : Nat) : Int) := by
  have hL := allB_len (bs := s)
  unfold ref01_Prev
  rw [Bounds_eqU s hs, bnd_some']
  generalize allB s = L at hL
  have h := loop_fold (f := ref01_Prev.l1 a (L.map nI)) (fun j (p : Int) => (p, j)) L (fun pre => ((prevB pre a 0 : Nat) : Int)) (t := ((prevB L a 0 : Nat) : Int))
    (fun pre x suf hl => by
      have hpl : pre.length + 1 ≤ L.length := by rw [hl]; simp
      unfold ref01_Prev.l1
      dsimp only
      rw [if_pos (by simp; omega), idxI L pre x suf hl, bnd_some', prevB_snoc, w64_id ⟨by omega, by omega⟩]
      by_cases hx : (x : Int) < a
      · rw [if_pos hx, if_pos hx, bnd_some']
      · rw [if_neg hx, if_neg hx, bnd_some'])
    (by
      unfold ref01_Prev.l1
      dsimp only
      rw [if_neg (by simp)])
  have h' : loop (ref01_Prev.l1 a (L.map nI)) (0, 0) = some ((prevB L a 0 : Nat) : Int) := h
  rw [h', bnd_some']
def lastB (s : List UInt8) (a : Int) : Nat := prevB (allB s) (a + 1) 0
theorem refBound_eqU (s : List UInt8) (a : Int) (hs : s.length ≤ 1000000) : ref30_Bound s a = some ((lastB s a : Nat) : Int) := by
  have hL := allB_len (bs := s)
  unfold ref30_Bound lastB
  rw [Bounds_eqU s hs, bnd_some']
  generalize allB s = L at hL
  have h := loop_fold (f := ref30_Bound.l1 a (L.map nI)) (fun j (p : Int) => (p, j)) L (fun pre => ((prevB pre (a + 1) 0 : Nat) : Int)) (t := ((prevB L (a + 1) 0 : Nat) : Int))
    (fun pre x suf hl => by
      have hpl : pre.length + 1 ≤ L.length := by rw [hl]; simp
      unfold ref30_Bound.l1
      dsimp only
      rw [if_pos (by simp; omega), idxI L pre x suf hl, bnd_some', prevB_snoc, w64_id (x := (pre.length : Int) + 1) ⟨by omega, by omega⟩]
      by_cases hx : (x : Int) ≤ a
      · rw [if_pos hx, if_pos (by omega), bnd_some']
      · rw [if_neg hx, if_neg (by omega), bnd_some'])
    (by
      unfold ref30_Bound.l1
      dsimp only
      rw [if_neg (by simp)])
  have h' : loop (ref30_Bound.l1 a (L.map nI)) (0, 0) = some ((prevB L (a + 1) 0 : Nat) : Int) := h
  rw [h', bnd_some']
theorem nextB_app {a : Int} {x d : Nat} (hx : a < (x : Int)) (suf : List Nat) : ∀ {pre : List Nat}, (∀ y ∈ pre, ¬ a < (y : Int)) → nextB (pre ++ x :: suf) a d = x
  | [], _ => by simp [nextB, hx]
  | y :: pre, h => by
    show nextB (y :: (pre ++ x :: suf)) a d = x
    rw [nextB, if_neg (h y (by simp))]
    exact nextB_app hx suf (fun z hz => h z (by simp [hz]))
theorem refNext_eqU (s : List UInt8) (a : Int) (hs : s.length ≤ 1000000) : ref01_Next s a = some ((nextB (allB s) a s.length : Nat) : Int) := by
  have hL := allB_len (bs := s)
  unfold ref01_Next
  rw [Bounds_eqU s hs, bnd_some']
  generalize allB s = L at hL
  obtain ⟨t, t1, t2⟩ := loop_for (f := ref01_Next.l1 a (L.map nI)) (σ := Unit) (fun j _ => j) L (fun pre _ => ∀ y ∈ pre, ¬ a < (y : Int)) (fun t => match t with | .brk _ => nextB L a s.length = s.length | .ret v => v = ((nextB L a s.length : Nat) : Int))
    (fun pre x suf _ hl hI => by
      have hpl : pre.length + 1 ≤ L.length := by rw [hl]; simp
      unfold ref01_Next.l1
      rw [if_pos (by simp; omega), idxI L pre x suf hl, bnd_some']
      by_cases hx : (x : Int) > a
      · rw [if_pos hx]
        refine .inr ⟨_, rfl, ?_⟩
        dsimp only
        rw [hl, nextB_app hx suf hI]
      · rw [if_neg hx, w64_id ⟨by omega, by omega⟩]
        refine .inl ⟨(), rfl, fun y hy => ?_⟩
        rcases List.mem_append.1 hy with hy | hy
        · exact hI y hy
        · obtain rfl := List.mem_singleton.1 hy; omega)
    (fun _ hI => ⟨Ex.brk (), by unfold ref01_Next.l1; rw [if_neg (by simp)], nextB_none hI⟩) (s0 := ()) (fun y hy => by simp at hy)
  rw [t1, bnd_some']
  cases t with
  | brk u => dsimp only; rw [show nextB L a s.length = s.length from t2]
  | ret v => dsimp only; rw [show v = ((nextB L a s.length : Nat) : Int) from t2]
theorem prevB_congr {a b : Int} : ∀ {L : List Nat} {p : Nat}, (∀ x ∈ L, (x : Int) < a ↔ (x : Int) < b) → prevB L a p = prevB L b p
  | [], _, _ => rfl
  | x :: L, p, h => by
    rw [prevB, prevB]
    have hx := h x (by simp)
    by_cases c : (x : Int) < a
    · rw [if_pos c, if_pos (hx.1 c)]; exact prevB_congr fun y hy => h y (by simp [hy])
    · rw [if_neg c, if_neg (fun d => c (hx.2 d))]; exact prevB_congr fun y hy => h y (by simp [hy])
theorem prevB_mem {a : Int} : ∀ {L : List Nat} {p : Nat}, prevB L a p = p ∨ (prevB L a p ∈ L ∧ ((prevB L a p : Nat) : Int) < a)
  | [], _ => .inl rfl
  | x :: L, p => by
    rw [prevB]
    by_cases c : (x : Int) < a
    · rw [if_pos c]
      rcases prevB_mem (a := a) (L := L) (p := x) with h | ⟨h, h2⟩
      · rw [h]; exact .inr ⟨by simp, c⟩
      · exact .inr ⟨by simp [h], h2⟩
    · rw [if_neg c]
      rcases prevB_mem (a := a) (L := L) (p := p) with h | ⟨h, h2⟩
      · exact .inl h
      · exact .inr ⟨by simp [h], h2⟩
theorem prevB_in (s : List UInt8) (a : Int) : prevB (allB s) a 0 ∈ allB s := by
  rcases prevB_mem (a := a) (L := allB s) (p := 0) with h | ⟨h, _⟩
  · rw [h]; exact zero_allB s
  · exact h
theorem prevB_lt (s : List UInt8) {a : Int} (h : 0 < a) : ((prevB (allB s) a 0 : Nat) : Int) < a := by
  rcases prevB_mem (a := a) (L := allB s) (p := 0) with h1 | ⟨_, h1⟩
  · rw [h1]; simpa using h
  · exact h1
theorem lastB_in (s : List UInt8) (a : Int) : lastB s a ∈ allB s := prevB_in s (a + 1)
theorem lastB_le (s : List UInt8) (a : Int) : lastB s a ≤ s.length := allB_le (lastB_in s a)
theorem lastB_self {s : List UInt8} {p : Nat} (h : p ∈ allB s) : lastB s p = p :=
  prevB_is (allB_sorted s) h (by omega) (fun x _ hx => by omega)
/-- The program's place that is a boundary. -/
theorem lbound_eq (s : List UInt8) (a : Int) (hs : s.length ≤ 1000000) : line_bound s a = some ((lastB s a : Nat) : Int) := by
  unfold line_bound
  rw [bnd_some', Bound_eqU s _ hs, bnd_some']
  by_cases h0 : a < 0
  · have e : (if (s.length : Int) < (if 0 > a then 0 else a) then (s.length : Int) else (if 0 > a then 0 else a)) = 0 := by
      rw [if_pos h0]; split <;> omega
    rw [e]
    have hb : hasB (allB s) 0 = true := hasB_iff.2 ⟨by omega, zero_allB s⟩
    rw [hb, if_pos rfl]
    unfold lastB
    rw [prevB_none (fun x _ h => by omega)]; rfl
  · have e : (if (s.length : Int) < (if 0 > a then 0 else a) then (s.length : Int) else (if 0 > a then 0 else a)) = ((min a.toNat s.length : Nat) : Int) := by
      rw [if_neg h0]; split <;> omega
    rw [e]
    generalize ht : min a.toNat s.length = t
    have htl : t ≤ s.length ∧ (t : Int) ≤ a := by omega
    cases hb : hasB (allB s) (t : Int) with
    | true =>
      have hm := (hasB_iff.1 hb).2
      rw [Int.toNat_natCast] at hm
      rw [if_pos rfl]
      unfold lastB
      rw [prevB_is (allB_sorted s) hm (by omega) (fun x hx h => by have := allB_le hx; omega)]
    | false =>
      rw [if_neg (by simp), Prev_eqU s _ hs, bnd_some']
      unfold lastB
      rw [prevB_congr (a := (t : Int)) (b := a + 1) (fun x hx => by
        have h1 := allB_le hx
        have h2 : (x : Int) ≠ t := fun e => by
          have : hasB (allB s) (t : Int) = true := hasB_iff.2 ⟨by omega, by rw [← e]; simpa using hx⟩
          rw [hb] at this; cases this
        omega)]
/-! ### words -/
def cl (s : List UInt8) (a : Int) : Int := classS (atS s ((prevB (allB s) a 0 : Nat) : Int)).1
theorem lclass_eq (s : List UInt8) (a : Int) (hs : s.length ≤ 1000000) : line_word_1 a s = some (cl s a) := by
  unfold line_word_1
  rw [Prev_eqU s a hs, bnd_some', Rune_eqU s _ hs, bnd_some', Class_eqU, bnd_some']; rfl
theorem rclass_eq (s : List UInt8) (a : Int) (hs : s.length ≤ 1000000) : ref30_class s a = some (cl s a) := by
  unfold ref30_class
  rw [refPrev_eqU s a hs, bnd_some', At_eqU s _ hs, bnd_some', refClass_eqU, bnd_some']; rfl
/-- Back over characters of a class. -/
def back (s : List UInt8) (c : Int) : Nat → Nat → Nat
  | 0, p => p
  | n + 1, p => if 0 < p ∧ cl s p = c then back s c n (prevB (allB s) p 0) else p
theorem back_le (s : List UInt8) (c : Int) : ∀ n p, back s c n p ≤ p
  | 0, p => Nat.le_refl _
  | n + 1, p => by
    rw [back]
    split
    · rename_i h
      have h1 := prevB_lt s (a := (p : Int)) (by omega)
      have := back_le s c n (prevB (allB s) p 0)
      omega
    · exact Nat.le_refl _
theorem back_in (s : List UInt8) (c : Int) : ∀ n p, p ∈ allB s → back s c n p ∈ allB s
  | 0, p, h => h
  | n + 1, p, h => by
    rw [back]
    split
    · exact back_in s c n _ (prevB_in s p)
    · exact h
theorem backLoop (s : List UInt8) (hs : s.length ≤ 1000000) (c : Int) (f : Int → Option (Lp Int Int)) (hf : ∀ p : Nat, f (p : Int) = if 0 < p ∧ cl s p = c then some (.next ((prevB (allB s) p 0 : Nat) : Int)) else some (.done (p : Int))) : ∀ n (p : Nat), p ≤ n → loop f (p : Int) = some ((back s c n p : Nat) : Int) := by
  intro n
  induction n with
  | zero =>
    intro p hp
    refine loop_done ?_
    rw [hf, if_neg (by omega)]; rfl
  | succ n ih =>
    intro p hp
    rw [back]
    by_cases h : 0 < p ∧ cl s p = c
    · rw [if_pos h]
      have h1 := prevB_lt s (a := (p : Int)) (by omega)
      exact loop_next (by rw [hf, if_pos h]) (ih _ (by omega))
    · rw [if_neg h]
      exact loop_done (by rw [hf, if_neg h])
def wordB (s : List UInt8) (p : Nat) : Nat := let q := back s 0 s.length p; back s (cl s q) s.length q
theorem wordB_le (s : List UInt8) (p : Nat) : wordB s p ≤ p := Nat.le_trans (back_le s _ _ _) (back_le s _ _ _)
theorem lword_eq (s : List UInt8) (p : Nat) (hs : s.length ≤ 1000000) (hp : p ≤ s.length) : line_word s p = some ((wordB s p : Nat) : Int) := by
  unfold line_word
  have h1 := backLoop s hs 0 (line_word.l1 s) (fun q => by
    unfold line_word.l1
    by_cases h : 0 < q
    · rw [if_pos (by omega), lclass_eq s _ hs, bnd_some', bnd_some']
      by_cases hc : cl s q = 0
      · rw [if_pos (by simp [hc]), if_pos ⟨h, hc⟩, Prev_eqU s _ hs, bnd_some']
      · rw [if_neg (by simp [hc]), if_neg (fun x => hc x.2)]
    · rw [if_neg (by omega), bnd_some', if_neg (by simp), if_neg (fun x => h x.1)]) s.length p hp
  rw [h1, bnd_some']
  have hq := back_le s 0 s.length p
  unfold wordB
  dsimp only
  generalize back s 0 s.length p = q0 at hq
  have h2 := backLoop s hs (cl s q0) (line_word.l2 s (q0 : Int)) (fun q => by
    unfold line_word.l2
    by_cases h : 0 < q
    · rw [if_pos (by omega), lclass_eq s _ hs, bnd_some', lclass_eq s _ hs, bnd_some', bnd_some']
      by_cases hc : cl s q = cl s q0
      · rw [if_pos (by simp [hc]), if_pos ⟨h, hc⟩, Prev_eqU s _ hs, bnd_some']
      · rw [if_neg (by simp [hc]), if_neg (fun x => hc x.2)]
    · rw [if_neg (by omega), bnd_some', if_neg (by simp), if_neg (fun x => h x.1)]) s.length q0 (by omega)
  rw [h2, bnd_some']
theorem rword_eq (s : List UInt8) (p : Nat) (hs : s.length ≤ 1000000) (hp : p ≤ s.length) : ref30_word s p = some ((wordB s p : Nat) : Int) := by
  unfold ref30_word
  have h1 := backLoop s hs 0 (ref30_word.l1 s) (fun q => by
    unfold ref30_word.l1
    by_cases h : 0 < q
    · rw [if_pos (by omega), rclass_eq s _ hs, bnd_some', bnd_some']
      by_cases hc : cl s q = 0
      · rw [if_pos (by simp [hc]), if_pos ⟨h, hc⟩, refPrev_eqU s _ hs, bnd_some']
      · rw [if_neg (by simp [hc]), if_neg (fun x => hc x.2)]
    · rw [if_neg (by omega), bnd_some', if_neg (by simp), if_neg (fun x => h x.1)]) s.length p hp
  rw [h1, bnd_some']
  have hq := back_le s 0 s.length p
  unfold wordB
  dsimp only
  generalize back s 0 s.length p = q0 at hq
  by_cases h0 : q0 = 0
  · subst h0
    have hz := back_le s (cl s ((0 : Nat) : Int)) s.length 0
    rw [if_pos (show (((0 : Nat)) : Int) = 0 from rfl), show back s (cl s ((0 : Nat) : Int)) s.length 0 = 0 by omega]; rfl
  · rw [if_neg (by omega), rclass_eq s _ hs, bnd_some']
    have h2 := backLoop s hs (cl s q0) (ref30_word.l2 s (cl s q0)) (fun q => by
      unfold ref30_word.l2
      by_cases h : 0 < q
      · rw [if_pos (by omega), rclass_eq s _ hs, bnd_some', bnd_some']
        by_cases hc : cl s q = cl s q0
        · rw [if_pos (by simp [hc]), if_pos ⟨h, hc⟩, refPrev_eqU s _ hs, bnd_some']
        · rw [if_neg (by simp [hc]), if_neg (fun x => hc x.2)]
      · rw [if_neg (by omega), bnd_some', if_neg (by simp), if_neg (fun x => h x.1)]) s.length q0 (by omega)
    rw [h2, bnd_some']
end Go.Proofs.Ytbcbggdgkdfciaa.S
