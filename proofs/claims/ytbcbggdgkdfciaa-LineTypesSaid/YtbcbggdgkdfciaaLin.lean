/- Chapter 30's prompts, told plainly: what a key does. -/
import Derived.Test.YtbcbggdgkdfciaaG3xa
import Derived.Test.YtbcbggdgkdfciaaG3xb
import Derived.Test.YtbcbggdgkdfciaaUtz
set_option linter.unusedVariables false
namespace Go.Proofs.Ytbcbggdgkdfciaa.S
open Go Go.Sm
def ty (k : Int) : Bool := decide (32 ≤ k ∧ k ≠ 127 ∧ putB k ≠ [])
theorem Types_eq (k : Int) : keys_Types k = some (ty k) := by
  unfold keys_Types ty
  by_cases h1 : 32 ≤ k
  · rw [if_pos h1]
    by_cases h2 : k = 127
    · rw [if_pos h2, bnd_some', decide_eq_false (by omega)]
    · rw [if_neg h2, Put_eqU, bnd_some', bnd_some']
      congr 1
      rw [Bool.eq_iff_iff]
      simp only [decide_eq_true_eq]
      have : ((putB k).length : Int) > 0 ↔ putB k ≠ [] := by
        rw [show ((putB k).length : Int) > 0 ↔ (putB k).length ≠ 0 by omega]
        simp
      rw [this]
      exact ⟨fun h => ⟨h1, h2, h⟩, fun h => h.2.2⟩
  · rw [if_neg h1, bnd_some', decide_eq_false (by omega)]
theorem refTypes_eq (k : Int) : ref22_Types k = some (ty k) := by
  unfold ref22_Types ty
  by_cases h1 : 32 ≤ k
  · rw [if_pos h1]
    by_cases h2 : k = 127
    · rw [if_pos h2, bnd_some', decide_eq_false (by omega)]
    · rw [if_neg h2, refPut_eqU, bnd_some', bnd_some']
      congr 1
      rw [Bool.eq_iff_iff]
      simp [h1, h2]
  · rw [if_neg h1, bnd_some', decide_eq_false (by omega)]
theorem ty_ge {k : Int} (h : ty k = true) : 32 ≤ k ∧ k ≠ 127 ∧ putB k ≠ [] := by unfold ty at h; exact of_decide_eq_true h
theorem putB_len (k : Int) : (putB k).length ≤ 4 := by
  by_cases h : scalar k = true
  · exact (dec_put h []).2.2.1
  · rw [putB_nil (by simpa using h)]; simp
/-- What a key does at a boundary. -/
def ed (s : List UInt8) (p : Nat) (k : Int) : (Nat × Nat × List UInt8 × Int) × Bool :=
  if (ty k || k == 10) = true then ((p, p, putB k, (p : Int) + (putB k).length), true)
  else if k = 8 then ((prevB (allB s) p 0, p, [], (prevB (allB s) p 0 : Nat)), true)
  else if k = 127 then ((p, nextB (allB s) p s.length, [], (p : Int)), true)
  else if k = 21 then ((0, p, [], 0), true)
  else if k = 23 then ((wordB s p, p, [], (wordB s p : Nat)), true)
  else if k = -1 then ((p, p, [], (prevB (allB s) p 0 : Nat)), true)
  else if k = -2 then ((p, p, [], (nextB (allB s) p s.length : Nat)), true)
  else if k = -5 then ((p, p, [], 0), true)
  else if k = -6 then ((p, p, [], (s.length : Int)), true)
  else ((p, p, [], (p : Int)), false)
theorem next_le {s : List UInt8} {a : Int} (h : a ≤ (s.length : Int)) : a ≤ ((nextB (allB s) a s.length : Nat) : Int) ∧ nextB (allB s) a s.length ≤ s.length := by
  have key : ∀ (L : List Nat), (∀ x ∈ L, x ≤ s.length) → a ≤ ((nextB L a s.length : Nat) : Int) ∧ nextB L a s.length ≤ s.length := by
    intro L
    induction L with
    | nil => intro _; exact ⟨h, Nat.le_refl _⟩
    | cons x L ih =>
      intro hx
      rw [nextB]
      split
      · rename_i c; exact ⟨by omega, hx x (by simp)⟩
      · exact ih fun y hy => hx y (by simp [hy])
  exact key _ fun x hx => allB_le hx
theorem prev_le (s : List UInt8) (p : Nat) : prevB (allB s) (p : Int) 0 ≤ p := by
  rcases Nat.eq_zero_or_pos p with rfl | h
  · rcases prevB_mem (a := ((0 : Nat) : Int)) (L := allB s) (p := 0) with h | ⟨_, h⟩
    · rw [h]; exact Nat.le_refl _
    · omega
  · have := prevB_lt s (a := (p : Int)) (by omega); omega
theorem ed_bd {s : List UInt8} {p : Nat} (hp : p ≤ s.length) (k : Int) : (ed s p k).1.1 ≤ (ed s p k).1.2.1 ∧ (ed s p k).1.2.1 ≤ s.length ∧ (ed s p k).1.2.2.1.length ≤ 4 := by
  have h1 := prev_le s p
  have h2 := next_le (s := s) (a := (p : Int)) (by omega)
  have h3 := putB_len k
  have h4 := wordB_le s p
  unfold ed
  repeat' split
  all_goals (dsimp only; try simp only [List.length_nil]
             omega)
theorem Plan_eq (s : List UInt8) (p : Nat) (k : Int) (hs : s.length ≤ 1000) (hp : p ∈ allB s) : line_Plan s (p : Int) k = some (⟨((ed s p k).1.1 : Int), ((ed s p k).1.2.1 : Int), (ed s p k).1.2.2.1, (ed s p k).1.2.2.2⟩, (ed s p k).2) := by
  have hpl := allB_le hp
  have h3 := putB_len k
  unfold line_Plan
  rw [lbound_eq s _ (by omega), lastB_self hp, bnd_some', Types_eq, bnd_some']
  have e : (if ty k = true then some (ty k) else some (k == 10) : Option Bool) = some (ty k || k == 10) := by
    cases ty k <;> rfl
  rw [e, bnd_some']
  unfold ed
  by_cases c0 : (ty k || k == 10) = true
  · rw [if_pos c0, if_pos c0, Put_eqU, bnd_some', w64_id ⟨by omega, by omega⟩]
  · rw [if_neg c0, if_neg c0]
    by_cases c1 : k = 8
    · rw [if_pos c1, if_pos c1, Prev_eqU s _ (by omega), bnd_some']; rfl
    · rw [if_neg c1, if_neg c1]
      by_cases c2 : k = 127
      · rw [if_pos c2, if_pos c2, Next_eqU s _ (by omega) (by omega), bnd_some']; rfl
      · rw [if_neg c2, if_neg c2, show keys_Ctrl 117 = some 21 from rfl, bnd_some']
        by_cases c3 : k = 21
        · rw [if_pos c3, if_pos c3]; rfl
        · rw [if_neg c3, if_neg c3, show keys_Ctrl 119 = some 23 from rfl, bnd_some']
          by_cases c4 : k = 23
          · rw [if_pos c4, if_pos c4, lword_eq s p (by omega) hpl, bnd_some']; rfl
          · rw [if_neg c4, if_neg c4]
            by_cases c5 : k = -1
            · rw [if_pos c5, if_pos c5, Prev_eqU s _ (by omega), bnd_some']; rfl
            · rw [if_neg c5, if_neg c5]
              by_cases c6 : k = -2
              · rw [if_pos c6, if_pos c6, Next_eqU s _ (by omega) (by omega), bnd_some']; rfl
              · rw [if_neg c6, if_neg c6]
                by_cases c7 : k = -5
                · rw [if_pos c7, if_pos c7]; rfl
                · rw [if_neg c7, if_neg c7]
                  by_cases c8 : k = -6
                  · rw [if_pos c8, if_pos c8]; rfl
                  · rw [if_neg c8, if_neg c8]; rfl
/-- A text behind a key. -/
def txt (s : List UInt8) (p : Nat) (k : Int) : List UInt8 := s.take (ed s p k).1.1 ++ (ed s p k).1.2.2.1 ++ s.drop (ed s p k).1.2.1
theorem txt_len {s : List UInt8} {p : Nat} (hp : p ≤ s.length) (k : Int) : (txt s p k).length ≤ s.length + 4 := by
  obtain ⟨h1, h2, h3⟩ := ed_bd hp k
  unfold txt
  simp only [List.length_append, List.length_take, List.length_drop]
  omega
theorem Key_eq (s : List UInt8) (p : Nat) (k : Int) (hs : s.length ≤ 100) (hp : p ∈ allB s) : line_Prompt_Key ⟨s, (p : Int)⟩ k = some (
    if 100 < (txt s p (if k = 10 then 0 else k)).length then (⟨s, (p : Int)⟩, true, 7)
    else (⟨txt s p (if k = 10 then 0 else k), ((lastB (txt s p (if k = 10 then 0 else k)) (ed s p (if k = 10 then 0 else k)).1.2.2.2 : Nat) : Int)⟩, (ed s p (if k = 10 then 0 else k)).2, 0)) := by
  have hpl := allB_le hp
  unfold line_Prompt_Key
  have e : (if k = 10 then some 0 else some k : Option Int) = some (if k = 10 then 0 else k) := by split <;> rfl
  rw [e, bnd_some']
  generalize (if k = 10 then 0 else k) = q
  obtain ⟨h1, h2, h3⟩ := ed_bd hpl q
  have hl := txt_len hpl q
  rw [Plan_eq s p q (by omega) hp, bnd_some']
  dsimp only
  rw [cut_of ⟨by omega, by omega, by omega⟩, bnd_some', catS, if_pos (by simp; omega), bnd_some', cut_of ⟨by omega, by omega, by omega⟩, bnd_some', catS, if_pos (by simp; omega), bnd_some']
  have et : (List.drop ((0 : Int)).toNat (List.take (((ed s p q).1.1 : Nat) : Int).toNat s) ++ (ed s p q).1.2.2.1 ++ List.drop (((ed s p q).1.2.1 : Nat) : Int).toNat (List.take ((s.length : Int)).toNat s)) = txt s p q := by
    unfold txt
    simp
  rw [et]
  by_cases c : 100 < (txt s p q).length
  · rw [if_pos (by omega), decide_eq_true (by omega), bnd_some', if_pos rfl, if_pos c]
  · rw [if_neg (by omega), bnd_some', if_neg (by simp), lbound_eq _ _ (by omega), bnd_some', if_neg c]
/-- The document's answer. -/
theorem Raw_eq (s : List UInt8) (p : Nat) (k : Int) (hs : s.length ≤ 1000) (hp : p ∈ allB s) : ref30_Raw ⟨s, (p : Int)⟩ k = some (⟨txt s p k, (ed s p k).1.2.2.2⟩, (ed s p k).2) := by
  have hpl := allB_le hp
  have h3 := putB_len k
  have hprev := prev_le s p
  have hnext := next_le (s := s) (a := (p : Int)) (by omega)
  have hword := wordB_le s p
  have e0 : cut s 0 (p : Int) = some (s.take p) := by rw [cut_of ⟨by omega, by omega, by omega⟩]; simp
  have e1 : cut s (p : Int) (s.length : Int) = some (s.drop p) := by rw [cut_of ⟨by omega, by omega, by omega⟩]; simp
  have same : s.take p ++ [] ++ s.drop p = s := by simp
  unfold ref30_Raw
  dsimp only
  rw [refBound_eqU s _ (by omega), lastB_self hp, bnd_some', e0, bnd_some', e1, bnd_some', refTypes_eq, bnd_some']
  have e : (if ty k = true then some true else some (k == 10) : Option Bool) = some (ty k || k == 10) := by
    cases ty k <;> rfl
  rw [e, bnd_some']
  unfold txt ed
  by_cases c0 : (ty k || k == 10) = true
  · rw [if_pos c0, if_pos c0, refPut_eqU, bnd_some', catS, if_pos (by simp; omega), bnd_some', catS, if_pos (by simp; omega), bnd_some', bnd_some', w64_id ⟨by omega, by omega⟩]
  · rw [if_neg c0, if_neg c0]
    by_cases c1 : k = 8
    · subst c1
      rw [if_pos rfl, refPrev_eqU s _ (by omega), bnd_some', bnd_some', if_neg (by decide), bnd_some', if_neg (by decide), bnd_some', if_pos rfl, bnd_some', if_pos rfl, cut_of ⟨by omega, by omega, by omega⟩, bnd_some', catS, if_pos (by simp; omega), bnd_some', if_pos rfl]
      simp
    · rw [if_neg c1, bnd_some']
      by_cases c3 : k = 21
      · subst c3
        rw [if_pos rfl, bnd_some', if_neg (by decide), bnd_some', if_neg (by decide), if_pos rfl, bnd_some', if_pos rfl, cut_of ⟨by omega, by omega, by omega⟩, bnd_some', catS, if_pos (by simp; omega), bnd_some', if_neg (by decide), if_neg (by decide), if_pos rfl]
        simp
      · rw [if_neg c3, bnd_some']
        by_cases c4 : k = 23
        · subst c4
          rw [if_pos rfl, rword_eq s p (by omega) hpl, bnd_some', bnd_some', if_neg (by decide), if_neg (by decide), bnd_some', if_pos (by decide), cut_of ⟨by omega, by omega, by omega⟩, bnd_some', catS, if_pos (by simp; omega), bnd_some', if_neg (by decide), if_neg (by decide), if_neg (by decide), if_pos rfl]
          simp
        · rw [if_neg c4, bnd_some', if_neg c1, if_neg c3, show ((k == 23) = false) by simpa using c4, bnd_some', if_neg (by simp)]
          by_cases c2 : k = 127
          · subst c2
            rw [if_pos rfl, refNext_eqU s _ (by omega), bnd_some', cut_of ⟨by omega, by omega, by omega⟩, bnd_some', catS, if_pos (by simp; omega), bnd_some', if_neg (by decide), if_pos rfl]
            simp
          · rw [if_neg c2]
            by_cases c5 : k = -1
            · subst c5
              rw [if_pos rfl, refPrev_eqU s _ (by omega), bnd_some', if_neg (by decide), if_neg (by decide), if_neg (by decide), if_neg (by decide), if_pos rfl]
              simp
            · rw [if_neg c5]
              by_cases c6 : k = -2
              · subst c6
                rw [if_pos rfl, refNext_eqU s _ (by omega), bnd_some', if_neg (by decide), if_neg (by decide), if_neg (by decide), if_neg (by decide), if_neg (by decide), if_pos rfl]
                simp
              · rw [if_neg c6]
                by_cases c7 : k = -5
                · subst c7
                  rw [if_pos rfl, if_neg (by decide), if_neg (by decide), if_neg (by decide), if_neg (by decide), if_neg (by decide), if_neg (by decide), if_pos rfl]
                  simp
                · rw [if_neg c7]
                  by_cases c8 : k = -6
                  · subst c8
                    rw [if_pos rfl, if_neg (by decide), if_neg (by decide), if_neg (by decide), if_neg (by decide), if_neg (by decide), if_neg (by decide), if_neg (by decide), if_pos rfl]
                    simp
                  · rw [if_neg c8, if_neg c1, if_neg c2, if_neg c3, if_neg c4, if_neg c5, if_neg c6, if_neg c7, if_neg c8]
                    simp
theorem refKey_eq (s : List UInt8) (p : Nat) (k : Int) (hs : s.length ≤ 1000) (hp : p ∈ allB s) : ref30_Key ⟨s, (p : Int)⟩ k = some (⟨txt s p k, ((lastB (txt s p k) (ed s p k).1.2.2.2 : Nat) : Int)⟩, (ed s p k).2) := by
  have hl := txt_len (allB_le hp) k
  unfold ref30_Key
  rw [Raw_eq s p k hs hp, bnd_some']
  dsimp only
  rw [refBound_eqU _ _ (by omega), bnd_some']
theorem ed0 (s : List UInt8) (p : Nat) : ed s p 0 = ((p, p, [], (p : Int)), false) := by
  unfold ed
  rw [if_neg (by decide), if_neg (by decide), if_neg (by decide), if_neg (by decide), if_neg (by decide), if_neg (by decide), if_neg (by decide), if_neg (by decide), if_neg (by decide)]
theorem txt0 (s : List UInt8) (p : Nat) : txt s p 0 = s := by unfold txt; rw [ed0]; simp
theorem cut30_eq (a : List UInt8) (n : Nat) : law30_cut a (n : Int) = some (a.take n) := by
  unfold law30_cut
  by_cases h : a.length > n
  · rw [if_pos (by omega), cut_of ⟨by omega, by omega, by omega⟩, bnd_some']; simp
  · rw [if_neg (by omega), List.take_of_length_le (by omega)]
theorem awake30_eq : law30_awake = some true := by
  have h5 : 5 ∈ allB [97, 98, 32, 99, 100] := by decide +kernel
  have h1 : 1 ∈ allB [97, 98] := by decide +kernel
  have k1 := Key_eq [97, 98, 32, 99, 100] 5 23 (by decide) h5
  have k2 := Plan_eq [97, 98] 1 120 (by decide) h1
  have t1 : txt [97, 98, 32, 99, 100] 5 23 = [97, 98, 32] := by decide +kernel
  have t2 : (ed [97, 98, 32, 99, 100] 5 23).1.2.2.2 = 3 := by decide +kernel
  have t3 : (ed [97, 98, 32, 99, 100] 5 23).2 = true := by decide +kernel
  have t4 : lastB [97, 98, 32] 3 = 3 := by decide +kernel
  have t5 : ed [97, 98] 1 120 = ((1, 1, [120], 2), true) := by decide +kernel
  rw [show (if (23 : Int) = 10 then (0 : Int) else 23) = 23 from rfl, t1, t2, t3, t4, if_neg (by decide)] at k1
  rw [t5] at k2
  unfold law30_awake
  rw [show ((5 : Int)) = ((5 : Nat) : Int) from rfl, k1, bnd_some']
  rw [show line_Plan [97, 98] 1 120 = _ from k2, bnd_some']
  rfl
end Go.Proofs.Ytbcbggdgkdfciaa.S
