/- The law RowBack. -/
import Derived.Test.YtbcbggdgkdfciaaG0
import Derived.Test.YtbcbggdgkdfciaaG11xa
import Derived.Test.YtbcbggdgkdfciaaG13xa
import Derived.Test.YtbcbggdgkdfciaaG1xa
import Derived.Test.YtbcbggdgkdfciaaG8xa
import Derived.Test.YtbcbggdgkdfciaaRgc
set_option linter.unusedVariables false
namespace Go.Proofs.Ytbcbggdgkdfciaa.S
open Go Go.Sm
theorem RowBack_holds (a0 : List UInt8) (a1 a2 : Int) (w0 : a0.length ≤ maxLen) (w1 : (Lit.int .i64 a1).wf = true) (w2 : (Lit.int .i64 a2).wf = true) : law08_RowBack a0 a1 a2 = some true := by
  unfold law08_RowBack
  obtain ⟨R, w, ok, a, b1, b2⟩ := begun_eq a0
  rw [b1, bnd_some']
  dsimp only
  cases ok with
  | false => rw [if_neg (by simp), awake8_eq, bnd_some']
  | true =>
    obtain ⟨hB, ha, hn⟩ := b2 rfl
    have ha' : a.length ≤ 16384 := by omega
    have hf := hB.few
    obtain ⟨z1, z2⟩ := zc_good a ha'
    obtain ⟨L, e, hd⟩ := R
    have hg : ∀ c ∈ L, Gd a c := hB.good
    have hfl : L.length ≤ 40 := hf
    have hn' : 1 ≤ L.length := hn
    have hsame : row_Same ⟨L, e, hd⟩ ⟨L, e, hd⟩ a = some true := by
      rw [rowSame_eq ha' hB.good hB.good (by omega), decide_eq_true rfl]
    rw [if_pos rfl, show (⟨⟨[], 0⟩, ⟨0, 0⟩, false⟩ : cell_Cell) = zc from rfl, insert_eq L e hd a1 zc hfl, bnd_some']
    have p1 : ∀ (X : row_Row × Int), X = (if a1 < 0 ∨ (L.length : Int) < a1 then (⟨[], 0, false⟩, 5) else if 40 ≤ L.length then (⟨[], 0, false⟩, 6) else (⟨insL L a1.toNat zc, e, hd⟩, 0)) →
        (if X.2 = 0 then
          bnd (row_Row_Delete X.1 a1) fun x46 =>
          bnd (if x46.2 = 0 then
            bnd (row_Same ⟨L, e, hd⟩ x46.1 a) fun x51 =>
            if x51 = true then
              bnd (row_Row_Len X.1) fun x53 =>
              bnd (row_Row_Len ⟨L, e, hd⟩) fun x54 =>
              some (!(x53 == (w64 (x54 + 1))))
            else
              some true
          else
            some true : Option Bool) fun t48 =>
          if t48 = true then
            some (Ex.ret false)
          else
            some (Ex.brk ())
        else
          some (Ex.brk ()) : Option (Ex Unit Bool)) = some (Ex.brk ()) := fun X hX => by
      subst hX
      by_cases c1 : a1 < 0 ∨ (L.length : Int) < a1
      · rw [if_pos c1, if_neg (by decide)]
      · rw [if_neg c1]
        by_cases c2 : 40 ≤ L.length
        · rw [if_pos c2, if_neg (by decide)]
        · have hil := insL_len L zc (show a1.toNat ≤ L.length by omega)
          rw [if_neg c2, if_pos rfl, delete_eq _ e hd a1 (by omega), bnd_some', if_neg (show ¬ ¬ (0 ≤ a1 ∧ a1 < ((insL L a1.toNat zc).length : Int)) by omega), if_neg (show ¬ (insL L a1.toNat zc).length = 1 by omega), del_ins L zc (by omega), if_pos rfl, hsame, bnd_some', if_pos rfl, show row_Row_Len ⟨insL L a1.toNat zc, e, hd⟩ = some ((insL L a1.toNat zc).length : Int) from rfl, bnd_some', show row_Row_Len ⟨L, e, hd⟩ = some (L.length : Int) from rfl, bnd_some', w64_id ⟨by omega, by omega⟩, hil]
          simp
    rw [p1 _ rfl, bnd_some']
    dsimp only
    have p2 : (bnd (row_Row_Move ⟨L, e, hd⟩ a1 a2) fun x56 =>
            bnd (if x56.2 = 0 then
              bnd (row_Row_Move x56.1 a2 a1) fun x61 =>
              bnd (if x61.2 = 0 then
                bnd (row_Same ⟨L, e, hd⟩ x61.1 a) fun x65 =>
                some (!x65)
              else
                some true : Option Bool) fun t63 =>
              if t63 = true then
                some (Ex.ret false)
              else
                some (Ex.brk ())
            else
              some (Ex.brk ()) : Option (Ex Unit Bool)) fun t58 => some t58) = some (Ex.brk ()) := by
      rcases move_eq L e hd a1 a2 (by omega) with ⟨c, m1⟩ | ⟨c, x, hx, m1⟩
      · rw [m1, bnd_some', if_neg (by decide), bnd_some']
      · have hdl := delL_len L (show a1.toNat < L.length by omega)
        have hml : (movL L a1.toNat a2.toNat x).length = L.length := by unfold movL; rw [insL_len _ _ (by omega)]; omega
        rw [m1, bnd_some', if_pos rfl]
        dsimp only
        rcases move_eq (movL L a1.toNat a2.toNat x) e hd a2 a1 (by omega) with ⟨c', m2⟩ | ⟨c', y, hy, m2⟩
        · exact absurd ⟨⟨c.2.1, by omega⟩, ⟨c.1.1, by omega⟩⟩ c'
        · have e1 := ins_get (delL L a1.toNat) (i := a2.toNat) x (by omega)
          unfold movL at hy
          rw [e1] at hy
          obtain rfl := Option.some.inj hy
          have e2 : movL (movL L a1.toNat a2.toNat x) a2.toNat a1.toNat x = L := by
            unfold movL
            rw [del_ins _ x (by omega), ← ins_at hx]
          rw [m2, bnd_some', e2, if_pos rfl, hsame, bnd_some']
          rfl
    have hw : ref08_Same w w = some true := by
      have := congrArg List.length (cellsOf hB.same).1
      rw [List.length_map] at this
      rw [refRow_same _ _ (by dsimp only at this; omega), decide_eq_true rfl]
    have hpl := plR_eq ha' hB.good (by dsimp only; omega)
    rw [hB.same] at hpl
    cases hm : row_Row_Move ⟨L, e, hd⟩ a1 a2 with
    | none => rw [hm] at p2; cases p2
    | some X =>
      rw [hm, bnd_some'] at p2
      obtain ⟨E, hE, p2'⟩ := bnd_some p2
      cases Option.some.inj p2'
      rw [bnd_some', hE, bnd_some']
      dsimp only
      rw [hpl, bnd_some', hw, bnd_some', if_pos rfl, awake8_eq, bnd_some', bnd_some']
end Go.Proofs.Ytbcbggdgkdfciaa.S
