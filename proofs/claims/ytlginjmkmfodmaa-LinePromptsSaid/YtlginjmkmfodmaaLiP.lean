/- The law LinePrompts. -/
import Derived.Test.YtlginjmkmfodmaaG2xa
import Derived.Test.YtlginjmkmfodmaaLin
set_option linter.unusedVariables false
namespace Go.Proofs.Ytlginjmkmfodmaa.S
open Go Go.Sm
theorem LinePrompts_holds (a0 : List UInt8) (a1 : Int) (a2 : List Int) (w0 : a0.length ≤ maxLen) (w1 : (Lit.int .i64 a1).wf = true) (w2 : a2.length ≤ maxLen ∧ ∀ a ∈ a2, (Lit.int .i64 a).wf = true) : law30_LinePrompts a0 a1 a2 = some true := by
  have w2' := w2.1
  simp only [maxLen] at w2'
  unfold law30_LinePrompts
  rw [show ((100 : Int)) = ((100 : Nat) : Int) from rfl, cut30_eq, bnd_some']
  generalize hs : a0.take 100 = s
  have hsl : s.length ≤ 100 := by rw [← hs]; simp; omega
  rw [refBound_eqU s a1 (by omega), bnd_some', bnd_some']
  obtain ⟨t, t1, t2⟩ := loop_for (f := law30_LinePrompts.l1 a2) (σ := List UInt8 × Nat) (fun k s => (k, s.1, (s.2 : Int), s.1, (s.2 : Int))) a2 (fun _ s => s.1.length ≤ 100 ∧ s.2 ∈ allB s.1) (fun t => match t with | .brk _ => True | .ret _ => False)
    (fun pre k suf st hl hI => by
      obtain ⟨s, p⟩ := st
      obtain ⟨i1, i2⟩ := hI
      dsimp only at i1 i2 ⊢
      have hpl : pre.length + 1 ≤ a2.length := by rw [hl]; simp
      unfold law30_LinePrompts.l1
      dsimp only
      rw [if_pos (by omega), show idx a2 (pre.length : Int) = some k by rw [hl]; exact idx_at pre k suf, bnd_some']
      by_cases h120 : (pre.length : Int) ≥ 120
      · rw [if_pos h120]; exact .inr ⟨_, rfl, trivial⟩
      · rw [if_neg h120, Key_eq s p k i1 i2, bnd_some', refKey_eq s p k (by omega) i2, bnd_some']
        by_cases h10 : k = 10
        · rw [if_pos h10, if_pos h10, bnd_some', txt0, if_neg (show ¬ 100 < s.length by omega), ed0]
          dsimp only
          rw [lastB_self i2, if_neg (show ¬ (s.length : Int) > 100 by omega), if_pos (show ((false == false) = true) from rfl), if_pos rfl, if_pos rfl, bnd_some', if_neg (by simp), w64_id ⟨by omega, by omega⟩]
          exact .inl ⟨(s, p), rfl, i1, i2⟩
        · rw [if_neg h10, if_neg h10, bnd_some']
          dsimp only
          have hl2 := txt_len (allB_le i2) k
          by_cases hbig : 100 < (txt s p k).length
          · rw [if_pos hbig, if_pos (show ((txt s p k).length : Int) > 100 by omega)]
            dsimp only
            rw [if_pos rfl, if_pos rfl, bnd_some', if_neg (by simp), w64_id ⟨by omega, by omega⟩]
            exact .inl ⟨(s, p), rfl, i1, i2⟩
          · rw [if_neg hbig, if_neg (show ¬ ((txt s p k).length : Int) > 100 by omega)]
            dsimp only
            rw [if_pos (by simp), if_pos rfl, if_pos rfl, bnd_some', if_neg (by simp), w64_id ⟨by omega, by omega⟩]
            exact .inl ⟨(txt s p k, lastB (txt s p k) (ed s p k).1.2.2.2), rfl, by dsimp only; omega, lastB_in _ _⟩)
    (fun st hI => ⟨Ex.brk (), by unfold law30_LinePrompts.l1; rw [if_neg (by simp)], trivial⟩) (s0 := (s, lastB s a1)) ⟨hsl, lastB_in _ _⟩
  dsimp only at t1
  rw [t1, bnd_some']
  cases t with
  | ret v => exact t2.elim
  | brk u => dsimp only; rw [awake30_eq, bnd_some']
end Go.Proofs.Ytlginjmkmfodmaa.S
