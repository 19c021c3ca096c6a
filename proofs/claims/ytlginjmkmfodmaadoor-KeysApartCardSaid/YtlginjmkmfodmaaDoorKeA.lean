/- The law KeysApart. -/
import Derived.Test.YtlginjmkmfodmaaDoorG6xa
import Derived.Test.YtlginjmkmfodmaaDoorKee
set_option linter.unusedVariables false
namespace Go.Proofs.YtlginjmkmfodmaaDoor.S
open Go Go.Sm
theorem Parse2_eqK (s : List UInt8) (hs : s.length ≤ 100000) : keys_Parse_2 s = some (match parse s with | some l => (0, l) | none => (3, [])) := by
  unfold keys_Parse_2
  have h := pLoop ((3, []) : Int × List Int) s hs s.length 0 0 [] (by omega) (by omega) (by omega) (fun j hj a b => by omega) (by simp)
  have e : keys_Parse_2.l1 s = pRound (3, []) s := rfl
  rw [e]
  rw [show ((0 : Nat) : Int) = 0 from rfl, show max 0 0 = 0 from rfl, List.drop_zero] at h
  rw [h, bnd_some']
  cases parse s <;> rfl
theorem KeysApart_holds (a0 a1 : List Int) (w0 : a0.length ≤ maxLen ∧ ∀ a ∈ a0, (Lit.int .i64 a).wf = true) (w1 : a1.length ≤ maxLen ∧ ∀ a ∈ a1, (Lit.int .i64 a).wf = true) : law22_KeysApart a0 a1 = some true := by
  unfold law22_KeysApart
  by_cases c0 : (a0.length : Int) > 100
  · rw [if_pos c0, bnd_some', if_pos rfl, awake22]; rfl
  rw [if_neg c0, bnd_some']
  by_cases c1 : (a1.length : Int) > 100
  · rw [decide_eq_true c1, if_pos rfl, awake22]; rfl
  rw [decide_eq_false c1, if_neg (by decide)]
  have b0 := flat_len7 a0
  have b1 := flat_len7 a1
  have f0 : (a0.filter isK).length ≤ a0.length := List.length_filter_le _ _
  have f1 : (a1.filter isK).length ≤ a1.length := List.length_filter_le _ _
  have hfa : a0.flatMap keyT ++ a1.flatMap keyT = (a0 ++ a1).flatMap keyT := by rw [List.flatMap_append]
  rw [Print_eqK a0 (by omega), bnd_some', Parse2_eqK _ (by omega), bnd_some', parse_flat, Print_eqK a1 (by omega), bnd_some', Parse2_eqK _ (by omega), bnd_some', parse_flat, bnd_some', bnd_some', catS_of (by omega), bnd_some', Parse2_eqK _ (by rw [List.length_append]; omega), bnd_some', hfa, parse_flat, List.filter_append]
  dsimp only
  generalize a0.filter isK = A at f0
  generalize a1.filter isK = B at f1
  have hw : loop (law22_KeysApart.l1 ((0, B) : Int × List Int)) (0, A) = some (A ++ B) := by
    have := loop_fold (f := law22_KeysApart.l1 ((0, B) : Int × List Int)) (fun i acc => (i, acc)) B (fun pre => A ++ pre) (t := A ++ B) (fun pre x suf h => ?_) ?_
    · rwa [List.append_nil] at this
    · unfold law22_KeysApart.l1
      dsimp only
      have hlen : pre.length < B.length := by rw [h]; simp
      rw [if_pos (by omega), show idx B (pre.length : Int) = some x by rw [h]; exact idx_at pre x suf, bnd_some', app_of (by simp; omega), bnd_some', w64_id ⟨by omega, by omega⟩, List.append_assoc]
    · unfold law22_KeysApart.l1
      dsimp only
      rw [if_neg (by omega)]
  rw [hw, bnd_some', if_pos rfl, if_pos rfl, if_pos rfl, Same_self _ (by rw [List.length_append]; omega), bnd_some', if_pos rfl, awake22]
  rfl
end Go.Proofs.YtlginjmkmfodmaaDoor.S
