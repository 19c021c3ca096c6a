/- The law KeysParse. -/
import Derived.Test.YtlginjmkmfodmaaDoorG4xa
import Derived.Test.YtlginjmkmfodmaaDoorKee
set_option linter.unusedVariables false
namespace Go.Proofs.YtlginjmkmfodmaaDoor.S
open Go Go.Sm
theorem KeysParse_holds (a0 : List UInt8) (w0 : a0.length ≤ maxLen) : law22_KeysParse a0 = some true := by
  unfold law22_KeysParse
  have hc : law22_cut a0 300 = some (a0.take 300) := by
    unfold law22_cut
    by_cases c : (a0.length : Int) > 300
    · rw [if_pos c, cut_of ⟨by omega, by omega, by omega⟩, bnd_some']; simp
    · rw [if_neg c, List.take_of_length_le (by omega)]
  rw [hc, bnd_some']
  have hl : (a0.take 300).length ≤ 300 := by rw [List.length_take]; omega
  generalize a0.take 300 = s at hl
  rw [Parse_eqK s (by omega), bnd_some', refParse_eq s (by omega), bnd_some']
  cases hp : parse s with
  | none =>
    dsimp only
    rw [Same_self [] (by simp), bnd_some', if_pos rfl, if_pos rfl, if_neg (by decide), awake22]
    rfl
  | some l =>
    obtain ⟨h1, h2⟩ := parse_print s.length s l (Nat.le_refl _) hp
    dsimp only
    rw [Same_self l (by omega), bnd_some', if_pos rfl, if_pos rfl, if_pos rfl, Print_eqK l (by omega), bnd_some', if_pos h1, awake22]
    rfl
end Go.Proofs.YtlginjmkmfodmaaDoor.S
