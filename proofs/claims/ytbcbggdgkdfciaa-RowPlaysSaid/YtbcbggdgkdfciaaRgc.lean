/- Rows that a law begins with, told plainly. -/
import Derived.Test.YtbcbggdgkdfciaaG0
import Derived.Test.YtbcbggdgkdfciaaG11xa
import Derived.Test.YtbcbggdgkdfciaaG1xa
import Derived.Test.YtbcbggdgkdfciaaG7xa
import Derived.Test.YtbcbggdgkdfciaaRgr
set_option linter.unusedVariables false
namespace Go.Proofs.Ytbcbggdgkdfciaa.S
open Go Go.Sm
theorem kc_good (w : List UInt8) (hb : w.length ≤ 16384) (j : Nat) (hj : j ≤ w.length) : Gd w (kc w j) := by
  obtain ⟨f1, f2, f3, f4, f5⟩ := fieldF_spec w (by omega) j hj
  exact ⟨_, _, _, rfl, f4, by omega, by unfold rightA; simp only [decide_eq_true_eq]; omega⟩
theorem ld_both (w : List UInt8) (hb : w.length ≤ 16384) (i : Nat) (hi : i ≤ w.length) (h : (ldP w i).2 = 0) : Both w (ldR w i).1 (ldP w i).1 ∧ ((ldR w i).1.fCells.length = (fs w i).1.length) := by
  obtain ⟨st1, st2⟩ := starts_spec w (by omega) i hi
  obtain ⟨l1, l2⟩ := ldPlain w hb i hi
  have key : GR w (ldR w i).1 ∧ (ldR w i).1.fCells.length ≤ 40 ∧ ((ldR w i).1.fCells.length = (fs w i).1.length) := by
    unfold ldP at h
    unfold ldR
    by_cases h40 : (fs w i).1.length > 40
    · rw [if_pos h40] at h; exact absurd h (by decide)
    · rw [if_neg h40] at h ⊢
      by_cases hs : (fs w i).1.all (short w) = true
      · rw [if_pos hs]
        refine ⟨fun c hc => ?_, by simp; omega, by simp⟩
        obtain ⟨j, hj, rfl⟩ := List.mem_map.1 hc
        exact kc_good w hb j (st1 j hj)
      · rw [if_neg hs] at h; exact absurd h (by decide)
  refine ⟨⟨key.1, ?_, key.2.1⟩, key.2.2⟩
  rw [plR_eq hb key.1 (by omega)] at l1
  exact Option.some.inj l1
theorem begun_eq (a0 : List UInt8) : ∃ R w ok a, law08_begun a0 = some (.inr (R, w, ok, a)) ∧ (ok = true → Both a R w ∧ a.length ≤ 600 ∧ 1 ≤ R.fCells.length) := by
  unfold law08_begun
  rw [show ((600 : Int)) = ((600 : Nat) : Int) from rfl, cut8_eq, bnd_some']
  generalize hw : a0.take 600 = w
  have hwl : w.length ≤ 600 := by rw [← hw]; simp; omega
  rw [New_eq w (by omega), bnd_some']
  dsimp only
  have none : ∃ R v ok a, (bnd (row_Fresh 1 0) fun x19 => bnd (ref08_Fresh 1 0) fun x20 => some (Sum.inr (x19, x20, false, w)) : Option ((row_Row × ref08_Row) ⊕ (row_Row × ref08_Row × Bool × (List UInt8)))) = some (.inr (R, v, ok, a)) ∧ (ok = true → Both a R v ∧ a.length ≤ 600 ∧ 1 ≤ R.fCells.length) := by
    rw [fresh_eq, bnd_some', rFresh_eq, bnd_some']
    exact ⟨_, _, _, _, rfl, fun h => by cases h⟩
  by_cases h0 : w.length = 0
  · obtain rfl := List.length_eq_zero_iff.1 h0
    rw [sOne_nil, bnd_some', rOne_nil, bnd_some', if_pos (show (((⟨[], 0⟩ : scan_Row), (0 : Int)).1.fFields.length : Int) = 0 from rfl), bnd_some', if_pos rfl]
    exact none
  · have hs := sOne_eq w (by omega) 0 (by omega)
    have hr := rRow_eq w (by omega) 0 (by omega)
    rw [show (((0 : Nat)) : Int) = 0 from rfl] at hs hr
    rw [hs, bnd_some', hr, bnd_some']
    dsimp only
    rw [show (sRow w 0).fFields.length = (fs w 0).1.length from List.length_map _, show (rRow w 0).fFields.length = (fs w 0).1.length from List.length_map _]
    by_cases hn : ((fs w 0).1.length : Int) = 0
    · rw [if_pos hn, bnd_some', if_pos rfl]; exact none
    · rw [if_neg hn, bnd_some', if_neg (by simpa using hn), rowLoad_eq w (by omega) 0 (by omega), bnd_some', refLoad_eq w (by omega) 0 (by omega), bnd_some']
      refine ⟨_, _, _, _, rfl, fun h => ?_⟩
      have h0' : (ldP w 0).2 = 0 := by simpa using h
      obtain ⟨b1, b2⟩ := ld_both w (by omega) 0 (by omega) h0'
      exact ⟨b1, hwl, by omega⟩
end Go.Proofs.Ytbcbggdgkdfciaa.S
