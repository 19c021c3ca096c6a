/- Chapter 6's right files, told plainly: what the automaton comes to behind a field. -/
import Derived.Test.YtkjcogmngoogcaaQuoC
set_option linter.unusedVariables false
namespace Go.Proofs.Ytkjcogmngoogcaa.S
open Go Go.Sm
def run (a : Int) (l : List UInt8) : Int := l.foldl stepN a
theorem run_append (a : Int) (l m : List UInt8) : run a (l ++ m) = run (run a l) m := by simp [run]
theorem run_one (a : Int) (x : UInt8) : run a [x] = stepN a x := rfl
theorem run5 (l : List UInt8) : run 5 l = 5 := by
  induction l with
  | nil => rfl
  | cons x l ih => show run (stepN 5 x) l = 5; rw [show stepN 5 x = 5 from rfl, ih]
def seg (w : List UInt8) (i j : Nat) : List UInt8 := (w.take j).drop i
theorem seg_self (w : List UInt8) (i : Nat) : seg w i i = [] := List.drop_eq_nil_of_le (by simp; omega)
theorem seg_succ (w : List UInt8) {i j : Nat} (h : i ≤ j) {x : UInt8} (hx : w[j]? = some x) : seg w i (j + 1) = seg w i j ++ [x] := by
  obtain ⟨hlt, hx'⟩ := List.getElem?_eq_some_iff.1 hx
  unfold seg
  rw [take_one w j hlt, List.drop_append_of_le_length (by simp; omega), hx']
theorem seg_split (w : List UInt8) {i j k : Nat} (h1 : i ≤ j) (h2 : j ≤ k) (h3 : k ≤ w.length) : seg w i k = seg w i j ++ seg w j k := by
  unfold seg
  have : w.take k = w.take j ++ (w.take k).drop j := by
    have : w.take j = (w.take k).take j := by rw [List.take_take, Nat.min_eq_left h2]
    rw [this, List.take_append_drop]
  conv => lhs; rw [this]
  rw [List.drop_append_of_le_length (by simp; omega)]
theorem at_get {w : List UInt8} {c : UInt8} {i : Nat} (h : at_ w c i = true) : w[i]? = some c := by simpa [at_] using h
theorem cls_letter {x : UInt8} (h1 : isMark x = false) (h2 : x ≠ 34) : cls x = 0 := by
  unfold isMark at h1
  simp only [Bool.or_eq_false_iff, beq_eq_false_iff_ne] at h1
  unfold cls
  rw [if_neg h1.1.1, if_neg h2, if_neg h1.1.2, if_neg h1.2]
theorem mk_get {w : List UInt8} {i : Nat} (h : mk w i = false) : ∃ x, w[i]? = some x ∧ isMark x = false := by
  have hi := mk_in h
  unfold mk at h
  rw [List.getElem?_eq_getElem hi] at h
  exact ⟨_, List.getElem?_eq_getElem hi, h⟩
theorem bare_run (w : List UInt8) (i : Nat) (h34 : at_ w 34 i = false) : ∀ n, (∀ k, i ≤ k → k < i + n → mk w k = false) → run 0 (seg w i (i + n)) = if n = 0 then 0 else if aq w i n = true then 5 else 1
  | 0, _ => by rw [Nat.add_zero, seg_self]; rfl
  | n + 1, hm => by
    have ih := bare_run w i h34 n (fun k h1 h2 => hm k h1 (by omega))
    obtain ⟨x, hx, hxm⟩ := mk_get (hm (i + n) (by omega) (by omega))
    rw [← Nat.add_assoc, seg_succ w (by omega) hx, run_append, ih, run_one, if_neg (show ¬ n + 1 = 0 by omega), aq_succ]
    by_cases hq : x = 34
    · subst hq
      have hat : at_ w 34 (i + n) = true := by unfold at_; rw [hx]; rfl
      rw [hat, Bool.or_true, if_pos rfl]
      cases n with
      | zero => rw [Nat.add_zero] at hat; rw [h34] at hat; cases hat
      | succ n =>
        rw [if_neg (show ¬ n + 1 = 0 by omega)]
        split <;> rfl
    · have hat : at_ w 34 (i + n) = false := by unfold at_; rw [hx]; simpa using hq
      have hc := cls_letter hxm hq
      rw [hat, Bool.or_false]
      by_cases hn : n = 0
      · subst hn
        rw [if_pos rfl, show aq w i 0 = false from rfl, if_neg (by simp)]
        simp [stepN, hc]
      · rw [if_neg hn]
        cases aq w i n with
        | true => rfl
        | false => show stepN 1 x = 1; simp [stepN, hc]
theorem rq_run (w : List UInt8) : ∀ n i acc, w.length ≤ i + n → i ≤ w.length → run 2 (seg w i (rq w n i acc).1) = 2 ∧ ((rq w n i acc).1 < w.length → at_ w 34 ((rq w n i acc).1 + 1) = false)
  | 0, i, acc, h, hi => by simp only [rq]; exact ⟨by rw [seg_self]; rfl, fun h' => by omega⟩
  | n + 1, i, acc, h, hi => by
    simp only [rq]
    by_cases c : i < w.length ∧ (at_ w 34 i = false ∨ at_ w 34 (i + 1) = true)
    · rw [if_pos c]
      obtain ⟨x, hx⟩ : ∃ x, w[i]? = some x := ⟨_, List.getElem?_eq_getElem c.1⟩
      cases hq : at_ w 34 i with
      | true =>
        have h2 : at_ w 34 (i + 1) = true := by
          rcases c.2 with h' | h'
          · rw [hq] at h'; cases h'
          · exact h'
        have hlt2 := at_in h2
        simp only [if_true]
        obtain ⟨g1, g2⟩ := rq_run w n (i + 2) (acc ++ [(i : Int)]) (by omega) (by omega)
        refine ⟨?_, g2⟩
        have hge : i + 2 ≤ (rq w n (i + 2) (acc ++ [(i : Int)])).1 ∧ (rq w n (i + 2) (acc ++ [(i : Int)])).1 ≤ w.length := rq_bounds w n (i + 2) _ (by omega) (by omega)
        rw [seg_split w (j := i + 2) (by omega) hge.1 hge.2, run_append]
        have : seg w i (i + 2) = [34, 34] := by
          rw [show i + 2 = (i + 1) + 1 from rfl, seg_succ w (by omega) (at_get h2), seg_succ w (Nat.le_refl _) (at_get hq), seg_self]; rfl
        rw [this, show run 2 [34, 34] = 2 from by decide, g1]
      | false =>
        simp only [Bool.false_eq_true, if_false]
        obtain ⟨g1, g2⟩ := rq_run w n (i + 1) (acc ++ [(i : Int)]) (by omega) (by omega)
        refine ⟨?_, g2⟩
        have hge : i + 1 ≤ (rq w n (i + 1) (acc ++ [(i : Int)])).1 ∧ (rq w n (i + 1) (acc ++ [(i : Int)])).1 ≤ w.length := rq_bounds w n (i + 1) _ (by omega) (by omega)
        rw [seg_split w (j := i + 1) (by omega) hge.1 hge.2, run_append, seg_succ w (Nat.le_refl _) hx, seg_self, List.nil_append, run_one]
        have hx34 : x ≠ 34 := by
          intro e; subst e
          have : at_ w 34 i = true := by unfold at_; rw [hx]; rfl
          rw [hq] at this; cases this
        have hc : cls x ≠ 2 := fun e => hx34 ((class2 x).1 e)
        rw [show stepN 2 x = 2 by simp [stepN, hc], g1]
    · rw [if_neg c]
      refine ⟨by rw [seg_self]; rfl, fun hlt => ?_⟩
      cases hq : at_ w 34 (i + 1) with
      | false => rfl
      | true => exact absurd ⟨hlt, .inr hq⟩ c
where
  rq_bounds (w : List UInt8) : ∀ n i acc, w.length ≤ i + n → i ≤ w.length → i ≤ (rq w n i acc).1 ∧ (rq w n i acc).1 ≤ w.length
  | 0, i, acc, h, hi => ⟨Nat.le_refl _, hi⟩
  | n + 1, i, acc, h, hi => by
    simp only [rq]
    by_cases c : i < w.length ∧ (at_ w 34 i = false ∨ at_ w 34 (i + 1) = true)
    · rw [if_pos c]
      have h2 : i + (if at_ w 34 i = true then 2 else 1) ≤ w.length := by
        split
        · rename_i hq
          rcases c.2 with h' | h'
          · rw [hq] at h'; cases h'
          · have := at_in h'; omega
        · omega
      have h1 : i + 1 ≤ i + (if at_ w 34 i = true then 2 else 1) := by split <;> omega
      have := rq_bounds w n _ (acc ++ [(i : Int)]) (by omega) h2
      exact ⟨by omega, this.2⟩
    · rw [if_neg c]; exact ⟨Nat.le_refl _, hi⟩
end Go.Proofs.Ytkjcogmngoogcaa.S
