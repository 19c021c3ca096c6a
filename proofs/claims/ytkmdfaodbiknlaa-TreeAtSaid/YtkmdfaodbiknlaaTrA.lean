/- The law TreeAt. -/
import Derived.Test.YtkmdfaodbiknlaaG9xa
import Derived.Test.YtkmdfaodbiknlaaTrd
import Derived.Test.YtkmdfaodbiknlaaTsc
set_option linter.unusedVariables false
namespace Go.Proofs.Ytkmdfaodbiknlaa.S
open Go Go.Sm
theorem TreeAt_holds (a0 : List (List UInt8)) (a1 : Int) (w0 : a0.length ≤ maxLen ∧ ∀ a ∈ a0, a.length ≤ maxLen) (w1 : (Lit.int .i64 a1).wf = true) : law09_TreeAt a0 a1 = some true := by
  unfold law09_TreeAt
  have hc : (if (a0.length : Int) > 200 then bnd (cut a0 0 200) fun x3 => some x3 else some a0 : Option (List (List UInt8))) = some (a0.take 200) := by
    by_cases c : (a0.length : Int) > 200
    · rw [if_pos c, cut_of ⟨by omega, by omega, by omega⟩, bnd_some']; rfl
    · rw [if_neg c, List.take_of_length_le (by omega)]
  rw [hc, bnd_some']
  have hl : (a0.take 200).length ≤ 200 := by simp; omega
  generalize a0.take 200 = l at hl
  obtain ⟨t, t1, t2⟩ := Str.Of_eq l (by omega)
  rw [t1, bnd_some']
  by_cases c : 0 ≤ a1 ∧ a1 < (l.length : Int)
  · have hA := (Str.At_eq t l t2 (by omega) a1).2 c
    obtain ⟨u, u1, u2⟩ := (Str.Set_eq t l t2 (by omega) a1 [110, 101, 119]).2 c
    obtain ⟨d, d1, d2⟩ := (Str.Delete_eq t l t2 (by omega) a1).2 c
    have hul := Str.repL_len l (i := a1.toNat) (j := a1.toNat + 1) [[110, 101, 119]] (by omega) (by omega)
    have hdl := Str.repL_len l (i := a1.toNat) (j := a1.toNat + 1) [] (by omega) (by omega)
    simp only [List.length_cons, List.length_nil] at hul hdl
    have hB := (Str.At_eq u _ u2 (by omega) a1).2 ⟨c.1, by omega⟩
    have hLen := Str.Len_eq d _ d2
    have hget : (Str.repL l a1.toNat (a1.toNat + 1) [[110, 101, 119]])[a1.toNat]'(by omega) = [110, 101, 119] := by
      have h1 : (Str.repL l a1.toNat (a1.toNat + 1) [[110, 101, 119]])[a1.toNat]? = some [110, 101, 119] := by
        unfold Str.repL
        rw [List.append_assoc, List.getElem?_append_right (by simp; omega)]
        simp
        rw [show a1.toNat - min a1.toNat l.length = 0 by omega]; rfl
      rw [List.getElem?_eq_getElem (by omega)] at h1
      exact Option.some.inj h1
    rw [hA, bnd_some', if_pos c.1, decide_eq_true c.2, bnd_some']
    have hidx : idx l a1 = some (l[a1.toNat]'(by omega)) := by
      unfold idx
      rw [if_pos c.1]; exact List.getElem?_eq_getElem (by omega)
    have hw : w64 ((l.length : Int) - 1) = (l.length : Int) - 1 := w64_id ⟨by omega, by omega⟩
    have hn : ((Str.repL l a1.toNat (a1.toNat + 1) []).length : Int) = (l.length : Int) - 1 := by omega
    simp [hidx, bnd_some', u1, hB, d1, hLen, hget, awake9_eq, hw, hn]
  · have hA := (Str.At_eq t l t2 (by omega) a1).1 c
    have hS := (Str.Set_eq t l t2 (by omega) a1 [110, 101, 119]).1 c
    have hD := (Str.Delete_eq t l t2 (by omega) a1).1 c
    have hLen := Str.Len_eq t _ t2
    have hc7 : (if a1 ≥ 0 then some (decide (a1 < (l.length : Int))) else some false : Option Bool) = some false := by
      by_cases c0 : a1 ≥ 0
      · rw [if_pos c0, decide_eq_false (fun h => c ⟨c0, h⟩)]
      · rw [if_neg c0]
    rw [hA, bnd_some', hc7, bnd_some']
    simp [bnd_some', hS, hA, hD, hLen, awake9_eq]
    rfl
end Go.Proofs.Ytkmdfaodbiknlaa.S
