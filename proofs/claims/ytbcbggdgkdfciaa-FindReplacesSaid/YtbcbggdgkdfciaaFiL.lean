/- Chapter 17's laws of one text: plain. -/
import Derived.Test.YtbcbggdgkdfciaaG0
import Derived.Test.YtbcbggdgkdfciaaG1xa
import Derived.Test.YtbcbggdgkdfciaaG1xc
import Derived.Test.YtbcbggdgkdfciaaG2xa
import Derived.Test.YtbcbggdgkdfciaaG3xa
import Derived.Test.YtbcbggdgkdfciaaFiR
set_option linter.unusedVariables false
namespace Go.Proofs.Ytbcbggdgkdfciaa.S
open Go Go.Sm
theorem cut17_eq (a : List UInt8) (n : Nat) : law11_Cut a (n : Int) = some (a.take n) := by
  unfold law11_Cut
  by_cases h : a.length > n
  · rw [if_pos (by omega), cut_of ⟨by omega, by omega, by omega⟩, bnd_some']; simp
  · rw [if_neg (by omega), List.take_of_length_le (by omega)]
theorem same17_eq (a : List Int) (ha : a.length ≤ 2000000) : ref09_Same a a = some true := by
  unfold ref09_Same
  rw [if_pos rfl]
  obtain ⟨t, h1, h2⟩ := loop_same (f := ref09_Same.l1 a a) () a a (by omega) (by omega) (fun i => rfl)
  rw [h1, bnd_some']
  cases t with
  | brk u => rfl
  | ret v => simp only at h2; exact absurd rfl h2.2
theorem awake17_eq : law17_awake = some true := by decide +kernel
/-- P17.1: the places of any text in any other one. -/
theorem FindPlaces_holds (a0 a1 : List UInt8) (a2 : Int) (w0 : a0.length ≤ maxLen) (w1 : a1.length ≤ maxLen) (w2 : (Lit.int .i64 a2).wf = true) : law17_FindPlaces a0 a1 a2 = some true := by
  unfold law17_FindPlaces
  rw [show law11_Cut a0 300 = _ from cut17_eq a0 300, bnd_some', show law11_Cut a1 30 = _ from cut17_eq a1 30, bnd_some']
  have hb : (a0.take 300).length ≤ 300 := by simp; omega
  have hp : (a1.take 30).length ≤ 30 := by simp; omega
  generalize a0.take 300 = b at hb ⊢
  generalize a1.take 30 = p at hp ⊢
  have h1 := all_len p b
  have h2 := apF_len p.length (all p b)
  rw [every_all (by omega) (by omega), bnd_some', refEvery_eq (by omega) (by omega), bnd_some', same17_eq _ (by omega), bnd_some', if_pos rfl, apart_eq (by omega) (by omega), bnd_some', refApart_eq (by omega) (by omega), bnd_some', same17_eq _ (by omega), bnd_some', if_pos rfl, first_eq (by omega) (by omega), bnd_some', refFirst_eq (by omega) (by omega), bnd_some', if_pos rfl, last_eq (by omega) (by omega), bnd_some', refLast_eq (by omega) (by omega), bnd_some', if_pos rfl, awake17_eq, bnd_some', bnd_some']
/-- P17.2: another text in a text's place. -/
theorem FindReplaces_holds (a0 : List UInt8) (a1 : law17_Swap) (w0 : a0.length ≤ maxLen) (w1 : a1.fP.length ≤ maxLen ∧ a1.fWith.length ≤ maxLen ∧ True) : law17_FindReplaces a0 a1 = some true := by
  unfold law17_FindReplaces
  rw [show law11_Cut a0 300 = _ from cut17_eq a0 300, bnd_some', show law11_Cut a1.fP 30 = _ from cut17_eq a1.fP 30, bnd_some', show law11_Cut a1.fWith 30 = _ from cut17_eq a1.fWith 30, bnd_some']
  have hb : (a0.take 300).length ≤ 300 := by simp; omega
  have hp : (a1.fP.take 30).length ≤ 30 := by simp; omega
  have hw : (a1.fWith.take 30).length ≤ 30 := by simp; omega
  generalize a0.take 300 = b at hb ⊢
  generalize a1.fP.take 30 = p at hp ⊢
  generalize a1.fWith.take 30 = w at hw ⊢
  obtain ⟨k, hk⟩ := refSelf (b := b) (p := p) a1.fAll (by omega) (by omega)
  have hs := refReplace_eq (b := b) (p := p) (w := p) a1.fAll (by omega) (by omega) (by omega)
  rw [hk] at hs
  have hs' := congrArg Prod.fst (Option.some.inj hs)
  dsimp only at hs'
  rw [replace_eq a1.fAll (by omega) (by omega) (by omega), bnd_some', refReplace_eq a1.fAll (by omega) (by omega) (by omega), bnd_some', replace_eq (w := p) a1.fAll (by omega) (by omega) (by omega), bnd_some']
  dsimp only
  rw [if_pos rfl, if_pos rfl, if_pos hs'.symm, if_pos rfl, awake17_eq, bnd_some', bnd_some']
end Go.Proofs.Ytbcbggdgkdfciaa.S
