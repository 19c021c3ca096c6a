/- Chapter 4's texts, told plainly: what the program's functions on spans compute is stretches side by side. -/
import Derived.Test.YtkjcogmngoogcaaG0
import Derived.Test.YtkjcogmngoogcaaG17xa
import Derived.Test.YtkjcogmngoogcaaG18xa
import Derived.Test.YtkjcogmngoogcaaCan
set_option linter.unusedVariables false
namespace Go.Proofs.Ytkjcogmngoogcaa.S
open Go Go.Sm
/-! ### the program's -/
theorem with_eq (s : arena_Span) (n : Int) (L : List arena_Span) (hL : ∀ k ∈ L, Good k) (hs : 1 ≤ s.fN → Good s) (hn : 0 ≤ n ∧ n ≤ 1073741824) (hlen : L.length ≤ 1073741824) :
    piece_Text_with_2 s n L = some (n + (s.fN.toNat : Int), addS L s) := by
  unfold piece_Text_with_2
  by_cases h : s.fN < 1
  · rw [if_pos h, addS_less h, show s.fN.toNat = 0 by omega]; simp
  · have hs' := hs (by omega)
    have hs2 := hs'
    simp only [Good] at hs2
    rw [if_neg h]
    have e1 : w64 (n + s.fN) = n + (s.fN.toNat : Int) := by rw [w64_id ⟨by omega, by omega⟩]; omega
    have happ : ∀ M : List arena_Span, M.length ≤ 1073741824 → app 16 M [s] = some (M ++ [s]) := fun M hM => app_of (by simp; omega)
    rcases snoc_cases L with rfl | ⟨M, k, rfl⟩
    · rw [addS_nil h]
      simp [show w64 (-1) = -1 from rfl, happ [] (by simp), e1]
    · have hlen' : M.length + 1 ≤ 1073741824 := by simpa using hlen
      have e2 : w64 (((M ++ [k]).length : Int) - 1) = (M.length : Int) := by simp [w64_id (x := (M.length : Int)) ⟨by omega, by omega⟩]
      rw [e2, if_pos (by omega), idx_at, bnd_some', join_eq k s (hL k (by simp)) hs', bnd_some', addS_snoc h, e1]
      by_cases hk : k.fAt + k.fN = s.fAt
      · rw [if_pos hk, if_pos hk]; simp
      · rw [if_neg hk, if_neg hk]; simp [happ (M ++ [k]) (by simpa using hlen)]
/-- What 'Few' lets in. -/
def FewS (s : arena_Span) : Prop := 0 ≤ s.fAt ∧ s.fAt < 1048576 ∧ s.fN ≤ 60
theorem few_good {s : arena_Span} (h : FewS s) : 1 ≤ s.fN → Good s := fun h1 => by simp only [FewS, Good] at *; omega
theorem few_len {L : List arena_Span} (h : ∀ s ∈ L, FewS s) : (expand L).length ≤ 60 * L.length := by
  induction L with
  | nil => simp [expand]
  | cons s L ih =>
    have h1 := h s (by simp)
    have h2 := ih fun x hx => h x (by simp [hx])
    rw [show expand (s :: L) = exp1 s ++ expand L by simp [expand]]
    simp only [FewS] at h1
    simp only [List.length_append, exp1, rangeI_len, List.length_cons]
    omega
theorem few_places {L : List arena_Span} (h : ∀ s ∈ L, FewS s) : GoodP (expand L) := by
  intro x hx
  obtain ⟨s, hs, hx⟩ := List.mem_flatMap.1 hx
  have := h s hs
  simp only [FewS] at this
  simp only [exp1, rangeI, List.mem_map, List.mem_range] at hx
  obtain ⟨i, hi, rfl⟩ := hx
  omega
theorem Few_eq (a : List arena_Span) (ha : a.length ≤ maxLen) : ∃ fa, law04_Few a = some (fa, fa.map toR) ∧ fa.length ≤ 40 ∧ ∀ s ∈ fa, FewS s := by
  simp only [maxLen] at ha
  obtain ⟨t, h1, fa, h2, h3, h4⟩ := loop_for (f := law04_Few.l1 a) (fun i s => (i, s)) a (fun pre s => ∃ fa, s = (fa, fa.map toR) ∧ fa.length ≤ pre.length ∧ fa.length ≤ 40 ∧ ∀ s ∈ fa, FewS s) (fun t => ∃ fa, t = (fa, fa.map toR) ∧ fa.length ≤ 40 ∧ ∀ s ∈ fa, FewS s)
    (fun pre x suf s hl hI => by
      obtain ⟨fa, rfl, h1, h2, h3⟩ := hI
      subst hl
      have hlt : pre.length + 1 ≤ 9223372036854775807 := by simp at ha; omega
      unfold law04_Few.l1
      simp only
      rw [if_pos (by simp; omega), idx_at, bnd_some', w64_id ⟨by omega, by omega⟩]
      by_cases c : (pre.length : Int) < 40 ∧ x.fAt ≥ 0 ∧ x.fAt < 1048576 ∧ x.fN ≤ 60
      · obtain ⟨c1, c2, c3, c4⟩ := c
        rw [if_pos c1, if_pos c2, if_pos c3, decide_eq_true c4, bnd_some', if_pos rfl, app_of (by simp; omega), bnd_some', app_of (by simp; omega), bnd_some', bnd_some']
        refine .inl ⟨_, rfl, fa ++ [x], by simp [toR], by simp; omega, by simp; omega, ?_⟩
        intro y hy
        rcases List.mem_append.1 hy with hy | hy
        · exact h3 y hy
        · simp at hy; subst hy; exact ⟨c2, c3, c4⟩
      · have e : (if (pre.length : Int) < 40 then if x.fAt ≥ 0 then if x.fAt < 1048576 then some (decide (x.fN ≤ 60)) else some false else some false else some false : Option Bool) = some false := by
          split
          · split
            · split
              · rename_i c1 c2 c3
                have : ¬ x.fN ≤ 60 := fun c4 => c ⟨c1, c2, c3, c4⟩
                rw [decide_eq_false this]
              · rfl
            · rfl
          · rfl
        rw [e, bnd_some', if_neg (by simp), bnd_some']
        exact .inl ⟨_, rfl, fa, rfl, by simp; omega, h2, h3⟩)
    (fun s hI => by
      obtain ⟨fa, rfl, h1, h2, h3⟩ := hI
      unfold law04_Few.l1
      simp only
      rw [if_neg (by omega)]
      exact ⟨_, rfl, fa, rfl, h2, h3⟩) (s0 := ([], [])) ⟨[], rfl, by simp, by simp, by simp⟩
  exact ⟨fa, by unfold law04_Few; rw [h1, bnd_some', h2], h3, h4⟩
theorem Of_eq (fa : List arena_Span) (h1 : fa.length ≤ 1000) (h2 : ∀ s ∈ fa, FewS s) : piece_Of fa = some (tOf (expand fa)) := by
  have h : loop (piece_Of.l1 fa) (0, 0, []) = some (((expand fa).length : Int), canon (expand fa)) := by
    refine loop_fold (f := piece_Of.l1 fa) (fun i (s : Int × List arena_Span) => (i, s)) fa (fun pre => (((expand pre).length : Int), canon (expand pre))) (t := (((expand fa).length : Int), canon (expand fa))) ?_ ?_
    · intro pre x suf hl
      subst hl
      have hp : ∀ s ∈ pre, FewS s := fun s hs => h2 s (by simp [hs])
      have hlen := few_len hp
      have h1' : pre.length + 1 ≤ 1000 := by simp at h1; omega
      have hc := canon_len (expand pre)
      unfold piece_Of.l1
      simp only
      rw [if_pos (by simp; omega), idx_at, bnd_some', with_eq x _ _ (canon_good _ (few_places hp)) (few_good (h2 x (by simp))) ⟨by omega, by omega⟩ (by omega), bnd_some', w64_id ⟨by omega, by omega⟩, expand_append, expand_one]
      simp only [addS_exp]
      rw [show (exp1 x).foldl addI (canon (expand pre)) = canon (expand pre ++ exp1 x) by simp [canon, List.foldl_append]]
      simp [exp1, rangeI_len]
    · unfold piece_Of.l1
      simp only
      rw [if_neg (by omega)]
  unfold piece_Of
  rw [h, bnd_some']
  rfl
end Go.Proofs.Ytkjcogmngoogcaa.S
