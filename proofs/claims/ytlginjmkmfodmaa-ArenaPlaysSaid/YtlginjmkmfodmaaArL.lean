/- Chapter 3's arena against the document's answer: what all laws need. -/
import Derived.Test.YtlginjmkmfodmaaG0
import Derived.Test.YtlginjmkmfodmaaG4xa
import Derived.Test.YtlginjmkmfodmaaG5xa
import Derived.Test.YtlginjmkmfodmaaG9xa
import Derived.Test.YtlginjmkmfodmaaAre
set_option linter.unusedVariables false
namespace Go.Proofs.Ytlginjmkmfodmaa.S
open Go Go.Sm
theorem awake3_eq : law03_awake = some true := by
  have h1 : addA [97, 98] [120] = (⟨1, 2⟩, 0, [120, 97, 98]) := by decide
  have h2 : keepA [98] [120, 97, 98] = (⟨2, 1⟩, 0, [120, 97, 98]) := by decide
  unfold law03_awake
  rw [New_eq [120] (by decide), bnd_some']
  dsimp only
  rw [if_pos rfl, Add_eq [97, 98] [120] (by decide) (by decide), bnd_some', h1]
  dsimp only
  rw [Keep_eq [98] [120, 97, 98] (by decide) (by decide), bnd_some', h2]
  dsimp only
  rw [if_pos rfl, if_pos rfl, if_pos rfl, if_pos rfl, Len_eq, bnd_some', if_pos (by decide), Bytes_eq _ _ (by decide), bnd_some', bnd_some', show bytesA ⟨1, 2⟩ [120, 97, 98] = [97, 98] from by decide]
  rfl
theorem cut3_eq (a : List UInt8) (n : Nat) : law03_cut a (n : Int) = some (a.take n) := by
  unfold law03_cut
  by_cases h : a.length > n
  · rw [if_pos (by omega), cut_of ⟨by omega, by omega, by omega⟩, bnd_some']; simp
  · rw [if_neg (by omega), List.take_of_length_le (by omega)]
abbrev ofS (s : arena_Span) : ref03_Span := ⟨s.fAt, s.fN⟩
theorem ours_eq (s : arena_Span) : law03_ours s = some (ofS s) := rfl
end Go.Proofs.Ytlginjmkmfodmaa.S
