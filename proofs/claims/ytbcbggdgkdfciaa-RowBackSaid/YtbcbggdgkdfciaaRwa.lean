/- Chapter 8's example, told plainly. -/
import Derived.Test.YtbcbggdgkdfciaaG1xa
import Derived.Test.YtbcbggdgkdfciaaG1xb
import Derived.Test.YtbcbggdgkdfciaaRow
set_option linter.unusedVariables false
namespace Go.Proofs.Ytbcbggdgkdfciaa.S
open Go Go.Sm
theorem awake8_eq : law08_awake = some true := by
  obtain ⟨s, a', p1, p2, p3, p4, p5⟩ : ∃ s a', cell_Put [120] [] = some (⟨tOf (exp1 s), ⟨0, 0⟩, false⟩, 0, a') ∧ InA (exp1 s) a' ∧ bytesAt a' (exp1 s) = [120] ∧ a'.length ≤ 16384 ∧ (exp1 s).length = ([120] : List UInt8).length := by
    rcases CPut_eq [120] [] (by decide) (by decide) with h | ⟨_, h⟩
    · exact h
    · exact absurd h (by decide)
  have hput : put [120] = [120] := by decide
  have hr2 : row_Fresh 1 0 = some ⟨[zc], 0, false⟩ := by decide
  have hcl : slices_Clone_cell_Cell_cell_Cell [zc] = some [zc] := by decide
  have hp : ∀ e h, row_Row_Pad ⟨[zc], e, h⟩ 3 = some (e, h, [zc, zc, zc]) := fun e h => by
    unfold row_Row_Pad
    rw [hcl, bnd_some']
    have hl : loop (row_Row_Pad.l1 3) [zc] = some [zc, zc, zc] := by
      refine loop_next (s' := [zc, zc]) (by unfold row_Row_Pad.l1; rw [if_pos (by decide), app_of (by decide)]; rfl) (loop_next (s' := [zc, zc, zc]) (by unfold row_Row_Pad.l1; rw [if_pos (by decide), app_of (by decide)]; rfl) (loop_done (by unfold row_Row_Pad.l1; rw [if_neg (by decide)])))
    rw [hl]
    rfl
  unfold law08_awake
  rw [show arena_New_2 = some (0, []) from rfl, bnd_some', p1, bnd_some', hr2, bnd_some']
  have hset : row_Row_Set ⟨[zc], 0, false⟩ 2 ⟨tOf (exp1 s), ⟨0, 0⟩, false⟩ = some (⟨[zc, zc, ⟨tOf (exp1 s), ⟨0, 0⟩, false⟩], 0, false⟩, 0) := by
    unfold row_Row_Set
    rw [if_neg (by decide), show decide ((2 : Int) ≥ 40) = false from by decide, bnd_some', if_neg (by decide), show w64 (2 + 1) = 3 from by decide, hp, bnd_some']
    rfl
  rw [hset, bnd_some']
  have hat : row_Row_At ⟨[zc, zc, ⟨tOf (exp1 s), ⟨0, 0⟩, false⟩], 0, false⟩ 1 = some (zc, true) := rfl
  dsimp only
  rw [hat, bnd_some', if_pos rfl, show row_Row_Len ⟨[zc, zc, ⟨tOf (exp1 s), ⟨0, 0⟩, false⟩], 0, false⟩ = some 3 from rfl, bnd_some', if_pos rfl]
  dsimp only
  rw [if_pos rfl, show cell_Cell_Empty zc = some true from rfl, bnd_some', if_pos rfl]
  have hz : cell_Cell_Print zc a' = some [] := by
    have h := PrintW_eq [] ⟨0, 0⟩ a' (fun x hx => by simp at hx) p4 (by decide)
    rw [show (put (bytesAt a' []) : List UInt8) = [] from rfl] at h
    exact h
  have hx : cell_Cell_Print ⟨tOf (exp1 s), ⟨0, 0⟩, false⟩ a' = some [120] := by
    rw [PrintW_eq _ _ _ p2 p4 (by rw [p5]; decide), p3, hput]
  rw [rowPrint_of a' _ [[], [], [120]] 0 false (by simp) (fun k c hk => by
    match k with
    | 0 => simp only [List.getElem?_cons_zero, Option.some.injEq] at hk; subst hk; exact ⟨_, hz, rfl⟩
    | 1 => simp only [List.getElem?_cons_succ, List.getElem?_cons_zero, Option.some.injEq] at hk; subst hk; exact ⟨_, hz, rfl⟩
    | 2 => simp only [List.getElem?_cons_succ, List.getElem?_cons_zero, Option.some.injEq] at hk; subst hk; exact ⟨_, hx, rfl⟩
    | k + 3 => simp at hk) rfl (fun m hm => by simp at hm; rcases hm with rfl | rfl <;> decide)]
  rfl
end Go.Proofs.Ytbcbggdgkdfciaa.S
