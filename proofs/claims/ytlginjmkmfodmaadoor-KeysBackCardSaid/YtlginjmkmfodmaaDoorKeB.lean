/- The law KeysBack. -/
import Derived.Test.YtlginjmkmfodmaaDoorG5xa
import Derived.Test.YtlginjmkmfodmaaDoorKee
set_option linter.unusedVariables false
namespace Go.Proofs.YtlginjmkmfodmaaDoor.S
open Go Go.Sm
theorem KeysBack_holds (a0 : List Int) (w0 : a0.length ≤ maxLen ∧ ∀ a ∈ a0, (Lit.int .i64 a).wf = true) : law22_KeysBack a0 = some true := by
  unfold law22_KeysBack
  have hc : (if (a0.length : Int) > 200 then bnd (cut a0 0 200) fun x3 => some x3 else some a0 : Option (List Int)) = some (a0.take 200) := by
    by_cases c : (a0.length : Int) > 200
    · rw [if_pos c, cut_of ⟨by omega, by omega, by omega⟩, bnd_some']; simp
    · rw [if_neg c, List.take_of_length_le (by omega)]
  rw [hc, bnd_some']
  have hl : (a0.take 200).length ≤ 200 := by rw [List.length_take]; omega
  generalize a0.take 200 = l at hl
  have hw : loop (law22_KeysBack.l1 l) (0, []) = some (l.filter isK) := by
    refine loop_fold (f := law22_KeysBack.l1 l) (fun i acc => (i, acc)) l (fun pre => pre.filter isK) (fun pre x suf h => ?_) ?_
    · unfold law22_KeysBack.l1
      dsimp only
      have hlen : pre.length < l.length := by rw [h]; simp
      have hfl : (pre.filter isK).length ≤ pre.length := List.length_filter_le _ _
      rw [if_pos (by omega), show idx l (pre.length : Int) = some x by rw [h]; exact idx_at pre x suf, bnd_some', refIs_eqK, bnd_some', w64_id ⟨by omega, by omega⟩, List.filter_append]
      by_cases c : isK x = true
      · rw [if_pos c, app_of (by simp; omega), bnd_some', bnd_some', List.filter_cons, if_pos c]; rfl
      · rw [if_neg c, bnd_some', List.filter_cons, if_neg c]; simp
    · unfold law22_KeysBack.l1
      dsimp only
      rw [if_neg (by omega)]
  have hb := flat_len7 l
  have hfl : (l.filter isK).length ≤ l.length := List.length_filter_le _ _
  rw [hw, bnd_some', Print_eqK l (by omega), bnd_some', Parse_eqK _ (by omega), bnd_some', parse_flat, refPrint_eqK l (by omega), bnd_some', if_pos rfl]
  dsimp only
  rw [if_pos rfl, Same_self _ (by omega), bnd_some', if_pos rfl, awake22]
  rfl
end Go.Proofs.YtlginjmkmfodmaaDoor.S
