/- Chapter 4's texts, told plainly: a span more. -/
import Derived.Test.YtbcbggdgkdfciaaG0
import Derived.Test.YtbcbggdgkdfciaaG2xa
import Derived.Test.YtbcbggdgkdfciaaCan
set_option linter.unusedVariables false
namespace Go.Proofs.Ytbcbggdgkdfciaa.S
open Go Go.Sm
/-! ### the program's -/
theorem with_eq (s : arena_Span) (n : Int) (L : List arena_Span) (hL : ∀ k ∈ L, Good k) (hs : 1 ≤ s.fN → Good s) (hn : 0 ≤ n ∧ n ≤ 1073741824) (hlen : L.length ≤ 1073741824) :
    piece_Text_with_2 s n L = some (n + (s.fN.toNat : Int), addS L s) := by
  unfold piece_Text_with_2
  by_cases h : s.fN < 1
  · rw [if_pos h, addS_less h, show s.fN.toNat = 0 by omega]; simp
  · have hs' := hs (by omega)
    have hs2 := hs'
    simp only [Good] at hs2
    rw [if_neg h]
    have e1 : w64 (n + s.fN) = n + (s.fN.toNat : Int) := by rw [w64_id ⟨by omega, by omega⟩]; omega
    have happ : ∀ M : List arena_Span, M.length ≤ 1073741824 → app 16 M [s] = some (M ++ [s]) := fun M hM => app_of (by simp; omega)
    rcases snoc_cases L with rfl | ⟨M, k, rfl⟩
    · rw [addS_nil h]
      simp [show w64 (-1) = -1 from rfl, happ [] (by simp), e1]
    · have hlen' : M.length + 1 ≤ 1073741824 := by simpa using hlen
      have e2 : w64 (((M ++ [k]).length : Int) - 1) = (M.length : Int) := by simp [w64_id (x := (M.length : Int)) ⟨by omega, by omega⟩]
      rw [e2, if_pos (by omega), idx_at, bnd_some', join_eq k s (hL k (by simp)) hs', bnd_some', addS_snoc h, e1]
      by_cases hk : k.fAt + k.fN = s.fAt
      · rw [if_pos hk, if_pos hk]; simp
      · rw [if_neg hk, if_neg hk]; simp [happ (M ++ [k]) (by simpa using hlen)]
end Go.Proofs.Ytbcbggdgkdfciaa.S
