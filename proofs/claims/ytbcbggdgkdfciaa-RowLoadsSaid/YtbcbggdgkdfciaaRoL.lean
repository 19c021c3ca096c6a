/- The law RowLoads. -/
import Derived.Test.YtbcbggdgkdfciaaG0
import Derived.Test.YtbcbggdgkdfciaaG1xb
import Derived.Test.YtbcbggdgkdfciaaG1xc
import Derived.Test.YtbcbggdgkdfciaaRow
set_option linter.unusedVariables false
namespace Go.Proofs.Ytbcbggdgkdfciaa.S
open Go Go.Sm
theorem awake8_eq : law08_awake = some true := by
  obtain ⟨s, a', p1, p2, p3, p4, p5⟩ : ∃ s a', cell_Put [120] [] = some (⟨tOf (exp1 s), ⟨0, 0⟩, false⟩, 0, a') ∧ InA (exp1 s) a' ∧ bytesAt a' (exp1 s) = [120] ∧ a'.length ≤ 16384 ∧ (exp1 s).length = ([120] : List UInt8).length := by
    rcases CPut_eq [120] [] (by decide) (by decide) with h | ⟨_, h⟩
    · exact h
    · exact absurd h (by decide)
  have hput : put [120] = [120] := by decide
  have hr2 : row_Fresh 1 0 = some ⟨[zc], 0, false⟩ := by decide
  have hcl : slices_Clone_cell_Cell_cell_Cell [zc] = some [zc] := by decide
  have hp : ∀ e h, row_Row_Pad ⟨[zc], e, h⟩ 3 = some (e, h, [zc, zc, zc]) := fun e h => by
    unfold row_Row_Pad
    rw [hcl, bnd_some']
    have hl : loop (row_Row_Pad.l1 3) [zc] = some [zc, zc, zc] := by
      refine loop_next (s' := [zc, zc]) (by unfold row_Row_Pad.l1; rw [if_pos (by decide), app_of (by decide)]; rfl) (loop_next (s' := [zc, zc, zc]) (by unfold row_Row_Pad.l1; rw [if_pos (by decide), app_of (by decide)]; rfl) (loop_done (by unfold row_Row_Pad.l1; rw [if_neg (by decide)])))
    rw [hl]
    rfl
  unfold law08_awake
  rw [show arena_New_2 = some (0, []) from rfl, bnd_some', p1, bnd_some', hr2, bnd_some']
  have hset : row_Row_Set ⟨[zc], 0, false⟩ 2 ⟨tOf (exp1 s), ⟨0, 0⟩, false⟩ = some (⟨[zc, zc, ⟨tOf (exp1 s), ⟨0, 0⟩, false⟩], 0, false⟩, 0) := by
    unfold row_Row_Set
    rw [if_neg (by decide), show decide ((2 : Int) ≥ 40) = false from by decide, bnd_some', if_neg (by decide), show w64 (2 + 1) = 3 from by decide, hp, bnd_some']
    rfl
  rw [hset, bnd_some']
  have hat : row_Row_At ⟨[zc, zc, ⟨tOf (exp1 s), ⟨0, 0⟩, false⟩], 0, false⟩ 1 = some (zc, true) := rfl
  dsimp only
  rw [hat, bnd_some', if_pos rfl, show row_Row_Len ⟨[zc, zc, ⟨tOf (exp1 s), ⟨0, 0⟩, false⟩], 0, false⟩ = some 3 from rfl, bnd_some', if_pos rfl]
  dsimp only
  rw [if_pos rfl, show cell_Cell_Empty zc = some true from rfl, bnd_some', if_pos rfl]
  have hz : cell_Cell_Print zc a' = some [] := by
    have h := PrintW_eq [] ⟨0, 0⟩ a' (fun x hx => by simp at hx) p4 (by decide)
    rw [show (put (bytesAt a' []) : List UInt8) = [] from rfl] at h
    exact h
  have hx : cell_Cell_Print ⟨tOf (exp1 s), ⟨0, 0⟩, false⟩ a' = some [120] := by
    rw [PrintW_eq _ _ _ p2 p4 (by rw [p5]; decide), p3, hput]
  rw [rowPrint_of a' _ [[], [], [120]] 0 false (by simp) (fun k c hk => by
    match k with
    | 0 => simp only [List.getElem?_cons_zero, Option.some.injEq] at hk; subst hk; exact ⟨_, hz, rfl⟩
    | 1 => simp only [List.getElem?_cons_succ, List.getElem?_cons_zero, Option.some.injEq] at hk; subst hk; exact ⟨_, hz, rfl⟩
    | 2 => simp only [List.getElem?_cons_succ, List.getElem?_cons_zero, Option.some.injEq] at hk; subst hk; exact ⟨_, hx, rfl⟩
    | k + 3 => simp at hk) rfl (fun m hm => by simp at hm; rcases hm with rfl | rfl <;> decide)]
  rfl
theorem loadsLoop (w : List UInt8) (hb : w.length ≤ 16384) (R : List scan_Row) (Q : List ref05_Row) : ∀ n (i : Nat) (pre : List Nat), w.length ≤ i + n → i ≤ w.length → R = (pre ++ rsF w n i).map (sRow w) → Q = (pre ++ rsF w n i).map (rRow w) → pre.length ≤ i → loop (law08_RowLoads.l2 w (0, w) R Q) ((i : Int), (pre.length : Int)) = some (Ex.brk ()) := by
  have stop : ∀ (L : List Nat) (i : Int), R = L.map (sRow w) → law08_RowLoads.l2 w (0, w) R Q (i, (L.length : Int)) = some (.done (Ex.brk ())) := fun L i hR => by
    unfold law08_RowLoads.l2
    rw [hR]
    simp only
    rw [if_neg (by simp)]
  intro n
  induction n with
  | zero =>
    intro i pre h hi hR hQ hpl
    exact loop_done (stop pre _ (by simpa [rsF] using hR))
  | succ n ih =>
    intro i pre h hi hR hQ hpl
    simp only [rsF] at hR hQ
    by_cases c : i < w.length
    · simp only [if_pos c] at hR hQ
      obtain ⟨n1, n2⟩ := nx_lt w (by omega) i c
      refine loop_next (s' := (((nx w i : Nat) : Int), (pre.length : Int) + 1)) ?_ ?_
      · obtain ⟨l1, l2⟩ := ldPlain w hb i hi
        have hcells : (ldP w i).1.fCells.length ≤ 1000000 := by
          unfold ldP
          split
          · simp
          · split
            · simp; omega
            · simp
        have e1 : (if (ldR w i).2 = (ldP w i).2 then bnd (law08_Plain (ldR w i).1 w) fun x68 => bnd (ref08_Same x68 (ldP w i).1) fun x69 => some (!x69) else some true : Option Bool) = some false := by
          rw [if_pos l2, l1, bnd_some', refRow_same _ _ hcells, bnd_some', decide_eq_true rfl]; rfl
        unfold law08_RowLoads.l2
        simp only
        rw [if_pos (by rw [hR]; simp; omega), show idx R (pre.length : Int) = some (sRow w i) by rw [hR, idx_map, idx_at]; rfl, bnd_some', rowLoad_eq w hb i hi, bnd_some', show idx Q (pre.length : Int) = some (rRow w i) by rw [hQ, idx_map, idx_at]; rfl, bnd_some', refLoad_eq w hb i hi, bnd_some', e1, bnd_some', if_neg (by simp), rRow_eq w (by omega) i c, bnd_some']
        have e2 : (if (ldR w i).2 = 0 then bnd (row_Row_Print (ldR w i).1 w) fun x76 => bnd (ref05_Mark (ldR w i).1.fEnd) fun x77 => bnd (catS x76 x77) fun x78 => bnd (cut w (i : Int) ((nx w i : Nat) : Int)) fun x79 => some (!(x78 == x79)) else some false : Option Bool) = some false := by
          by_cases h0 : (ldR w i).2 = 0
          · obtain ⟨p1, p2⟩ := ldPrint w hb i hi h0
            obtain ⟨m, m1, m2⟩ := ldEnd w (by omega) i hi
            have ml : m.length ≤ 2 := by
              unfold ref05_Mark at m1
              split at m1
              · cases m1; simp
              · split at m1
                · cases m1; simp
                · split at m1 <;> cases m1 <;> simp
            rw [if_pos h0, p1, bnd_some', p2, m1, bnd_some', catS, if_pos (by simp; omega), bnd_some', m2, cut_of ⟨by omega, by omega, by omega⟩, bnd_some', Int.toNat_natCast, Int.toNat_natCast, beq_self_eq_true]; rfl
          · rw [if_neg h0]
        rw [e2, bnd_some', if_neg (by simp), w64_id ⟨by omega, by omega⟩]
      · have := ih (nx w i) (pre ++ [i]) (by omega) n2 (by simpa using hR) (by simpa using hQ) (by simp; omega)
        simpa using this
    · simp only [if_neg c] at hR hQ
      exact loop_done (stop pre _ (by simpa using hR))
theorem RowLoads_holds (a0 : List UInt8) (w0 : a0.length ≤ maxLen) : law08_RowLoads a0 = some true := by
  unfold law08_RowLoads
  rw [show ((4000 : Int)) = ((4000 : Nat) : Int) from rfl, cut8_eq, bnd_some']
  generalize hw : a0.take 4000 = w
  have hwl : w.length ≤ 4000 := by rw [← hw]; simp; omega
  have hb : w.length ≤ 1000000 := by omega
  rw [New_eq w (by omega), bnd_some']
  dsimp only
  rw [sAll_eq w hb, bnd_some', rAll_eq w hb, bnd_some', if_pos (by simp), bnd_some', if_neg (by simp)]
  have h := loadsLoop w (by omega) ((rs w).map (sRow w)) ((rs w).map (rRow w)) w.length 0 [] (by omega) (by omega) rfl rfl (by simp)
  rw [show ((([] : List Nat).length : Nat) : Int) = 0 from rfl, show (((0 : Nat)) : Int) = 0 from rfl] at h
  rw [h, bnd_some']
  dsimp only
  rw [awake8_eq, bnd_some']
end Go.Proofs.Ytbcbggdgkdfciaa.S
