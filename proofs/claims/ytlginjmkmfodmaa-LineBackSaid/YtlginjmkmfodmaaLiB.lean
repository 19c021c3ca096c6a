/- The law LineBack. -/
import Derived.Test.YtlginjmkmfodmaaG0
import Derived.Test.YtlginjmkmfodmaaG1xa
import Derived.Test.YtlginjmkmfodmaaG3xa
import Derived.Test.YtlginjmkmfodmaaLin
set_option linter.unusedVariables false
namespace Go.Proofs.Ytlginjmkmfodmaa.S
open Go Go.Sm
theorem ed_left (s : List UInt8) (p : Nat) : ed s p (-1) = ((p, p, [], ((prevB (allB s) p 0 : Nat) : Int)), true) := by
  unfold ed
  rw [if_neg (by decide), if_neg (by decide), if_neg (by decide), if_neg (by decide), if_neg (by decide), if_pos rfl]
theorem ed_right (s : List UInt8) (p : Nat) : ed s p (-2) = ((p, p, [], ((nextB (allB s) p s.length : Nat) : Int)), true) := by
  unfold ed
  rw [if_neg (by decide), if_neg (by decide), if_neg (by decide), if_neg (by decide), if_neg (by decide), if_neg (by decide), if_pos rfl]
theorem ed_end (s : List UInt8) (p : Nat) : ed s p (-6) = ((p, p, [], (s.length : Int)), true) := by
  unfold ed
  rw [if_neg (by decide), if_neg (by decide), if_neg (by decide), if_neg (by decide), if_neg (by decide), if_neg (by decide), if_neg (by decide), if_neg (by decide), if_pos rfl]
theorem ed_rub (s : List UInt8) (p : Nat) : ed s p 8 = ((prevB (allB s) p 0, p, [], ((prevB (allB s) p 0 : Nat) : Int)), true) := by
  unfold ed
  rw [if_neg (by decide), if_pos rfl]
theorem ed_type (s : List UInt8) (p : Nat) {k : Int} (h : ty k = true) : ed s p k = ((p, p, putB k, (p : Int) + (putB k).length), true) := by
  unfold ed
  rw [if_pos (by rw [h]; rfl)]
theorem len_in (s : List UInt8) : s.length ∈ allB s := by
  rw [mem_allB]
  have key : ∀ k p, s.length - p ≤ k → p ≤ s.length → isB s p s.length := by
    intro k
    induction k with
    | zero => intro p h1 h2; exact (isB_no (by omega)).2 (by omega)
    | succ k ih =>
      intro p h1 h2
      by_cases hp : p < s.length
      · have := sz_bd hp
        exact (isB_yes hp).2 (.inr (ih _ (by omega) (by omega)))
      · exact (isB_no hp).2 (by omega)
  exact key s.length 0 (by omega) (by omega)
/-- Right behind Left comes back. -/
theorem next_prev {s : List UInt8} {p : Nat} (hp : p ∈ allB s) (h0 : 0 < p) : nextB (allB s) ((prevB (allB s) p 0 : Nat) : Int) s.length = p := by
  have h1 := prevB_lt s (a := (p : Int)) (by omega)
  refine nextB_is (allB_sorted s) hp h1 (fun x hx hlt => ?_)
  -- nothing between
  rcases Nat.lt_or_ge x p with h | h
  · exfalso
    have key : ∀ (L : List Nat) (q : Nat), L.Pairwise (· < ·) → x ∈ L → x ≤ prevB L (p : Int) q := by
      intro L
      induction L with
      | nil => intro q _ hm; simp at hm
      | cons y L ih =>
        intro q hsrt hm
        rw [prevB]
        have hs2 := List.pairwise_cons.1 hsrt
        rcases List.mem_cons.1 hm with rfl | hm
        · rw [if_pos (by omega)]
          have gen : ∀ (M : List Nat) (r : Nat), (∀ z ∈ M, r < z) → r ≤ prevB M (p : Int) r := by
            intro M
            induction M with
            | nil => intro r _; exact Nat.le_refl _
            | cons z M ih2 =>
              intro r hz
              rw [prevB]
              split
              · have hz1 := hz z (by simp)
                -- from z on
                have : z ≤ prevB M (p : Int) z ∨ prevB M (p : Int) z ∈ M := by
                  rcases prevB_mem (a := (p : Int)) (L := M) (p := z) with e | ⟨e, _⟩
                  · exact .inl (by omega)
                  · exact .inr e
                rcases this with e | e
                · omega
                · have := hz _ (List.mem_cons_of_mem z e); omega
              · exact ih2 r fun w hw => hz w (by simp [hw])
          exact gen L _ hs2.1
        · exact ih _ hs2.2 hm
    have := key (allB s) 0 (allB_sorted s) hx
    omega
  · exact h
theorem take_drop_app (s : List UInt8) (p : Nat) (m : List UInt8) (hp : p ≤ s.length) : (s.take p ++ m ++ s.drop p).take p = s.take p ∧ (s.take p ++ m ++ s.drop p).drop (p + m.length) = s.drop p := by
  have hl : (s.take p).length = p := by rw [List.length_take]; omega
  refine ⟨?_, ?_⟩
  · rw [List.append_assoc, List.take_append_of_le_length (by omega), List.take_of_length_le (by omega)]
  · have : p + m.length = (s.take p ++ m).length := by rw [List.length_append, hl]
    rw [this, List.drop_left]
/-- What is typed at a boundary lies between boundaries. -/
theorem typed {s : List UInt8} {p : Nat} {k : Int} (hp : p ∈ allB s) (h : ty k = true) : txt s p k = s.take p ++ putB k ++ s.drop p ∧ p + (putB k).length ∈ allB (txt s p k) ∧ prevB (allB (txt s p k)) ((p : Int) + (putB k).length) 0 = p := by
  have hpl := allB_le hp
  have ht : txt s p k = s.take p ++ putB k ++ s.drop p := by unfold txt; rw [ed_type s p h]
  have hsc : scalar k = true := by
    cases hx : scalar k with
    | true => rfl
    | false => exact absurd (putB_nil hx) (ty_ge h).2.2
  have hl : (s.take p).length = p := by rw [List.length_take]; omega
  obtain ⟨b1, b2, b3⟩ := between hsc (s.take p) (s.drop p)
  have d1 := (dec_put hsc (s.drop p)).2.1
  rw [← ht, hl] at b1 b2 b3
  have hlen : p < (txt s p k).length := by rw [ht]; simp only [List.length_append, hl]; omega
  have hB : isB (txt s p k) 0 p := by
    have := (hasB_iff.1 b2).2
    rw [Int.toNat_natCast] at this
    exact mem_allB.1 this
  have hz : szB (txt s p k) p = (putB k).length := by
    rw [atS, if_pos (by omega), Int.toNat_natCast] at b1
    unfold szB
    rw [b1]; simp
  refine ⟨ht, ?_, ?_⟩
  · have := (hasB_iff.1 b3).2
    rwa [show ((p : Int) + ((putB k).length : Int)).toNat = p + (putB k).length by omega] at this
  · have := prev_is hB hlen
    rwa [hz] at this
theorem txt_same (s : List UInt8) (p : Nat) (k : Int) (h : k = -1 ∨ k = -2 ∨ k = -6) : txt s p k = s := by
  unfold txt
  rcases h with rfl | rfl | rfl
  · rw [ed_left]; simp
  · rw [ed_right]; simp
  · rw [ed_end]; simp
theorem KeyG_eq (s : List UInt8) (p : Nat) (k : Int) (hs : s.length ≤ 100) (hp : p ∈ allB s) (h10 : k ≠ 10) (hl : (txt s p k).length ≤ 100) : line_Prompt_Key ⟨s, (p : Int)⟩ k = some (⟨txt s p k, ((lastB (txt s p k) (ed s p k).1.2.2.2 : Nat) : Int)⟩, (ed s p k).2, 0) := by
  rw [Key_eq s p k hs hp, if_neg h10, if_neg (show ¬ 100 < (txt s p k).length by omega)]
theorem LineBack_holds (a0 : List UInt8) (a1 a2 : Int) (w0 : a0.length ≤ maxLen) (w1 : (Lit.int .i64 a1).wf = true) (w2 : (Lit.int .i64 a2).wf = true) : law30_LineBack a0 a1 a2 = some true := by
  unfold law30_LineBack
  rw [show ((90 : Int)) = ((90 : Nat) : Int) from rfl, cut30_eq, bnd_some']
  generalize hs : a0.take 90 = s
  have hsl : s.length ≤ 90 := by rw [← hs]; simp; omega
  rw [refBound_eqU s a1 (by omega), bnd_some', refTypes_eq, bnd_some']
  have hp := lastB_in s a1
  generalize lastB s a1 = p at hp
  have hpl := allB_le hp
  -- what is typed and rubbed out
  have h1 : (if ty a2 = true then bnd (line_Prompt_Key (⟨s, (p : Int)⟩ : line_Prompt) a2) fun x8 => bnd (line_Prompt_Key x8.1 8) fun x10 =>
      bnd (if x8.2.1 = true then if x10.2.1 = true then if x8.2.2 = 0 then if x10.2.2 = 0 then if x10.1 = (⟨s, (p : Int)⟩ : line_Prompt) then bnd (ref30_Bound x8.1.fS x8.1.fAt) fun x19 => some (!(x19 == x8.1.fAt)) else some true else some true else some true else some true else some true : Option Bool) fun t12 =>
      if t12 = true then some (Ex.ret false) else some (Ex.brk ()) else some (Ex.brk ()) : Option (Ex Unit Bool)) = some (Ex.brk ()) := by
    by_cases hty : ty a2 = true
    · obtain ⟨y1, y2, y3⟩ := typed hp hty
      have hl4 := txt_len hpl a2
      have hpl4 := putB_len a2
      have hk : a2 ≠ 10 := fun e => by have := (ty_ge hty).1; omega
      have k1 := KeyG_eq s p a2 (by omega) hp hk (by omega)
      rw [ed_type s p hty] at k1
      dsimp only at k1
      rw [show (p : Int) + ((putB a2).length : Int) = ((p + (putB a2).length : Nat) : Int) by omega, lastB_self y2] at k1
      have t2 : txt (txt s p a2) (p + (putB a2).length) 8 = s := by
        have e := ed_rub (txt s p a2) (p + (putB a2).length)
        rw [show (((p + (putB a2).length : Nat)) : Int) = (p : Int) + ((putB a2).length : Int) by omega, y3] at e
        rw [show txt (txt s p a2) (p + (putB a2).length) 8 = (txt s p a2).take (ed (txt s p a2) (p + (putB a2).length) 8).1.1 ++ (ed (txt s p a2) (p + (putB a2).length) 8).1.2.2.1 ++ (txt s p a2).drop (ed (txt s p a2) (p + (putB a2).length) 8).1.2.1 from rfl, e]
        dsimp only
        obtain ⟨z1, z2⟩ := take_drop_app s p (putB a2) hpl
        rw [y1, z1, z2]
        simp
      have k2 := KeyG_eq (txt s p a2) (p + (putB a2).length) 8 (by omega) y2 (by decide) (by rw [t2]; omega)
      rw [t2, ed_rub] at k2
      dsimp only at k2
      rw [show (((p + (putB a2).length : Nat)) : Int) = (p : Int) + ((putB a2).length : Int) by omega, y3, lastB_self hp] at k2
      rw [if_pos hty, k1, bnd_some']
      dsimp only
      rw [show (((p + (putB a2).length : Nat)) : Int) = (p : Int) + ((putB a2).length : Int) by omega, k2, bnd_some']
      dsimp only
      rw [if_pos rfl, if_pos rfl, if_pos rfl, if_pos rfl, if_pos rfl, refBound_eqU _ _ (by omega), bnd_some', show (p : Int) + ((putB a2).length : Int) = ((p + (putB a2).length : Nat) : Int) by omega, lastB_self y2, beq_self_eq_true, bnd_some', if_neg (by simp)]
    · rw [if_neg hty]
  rw [h1, bnd_some']
  dsimp only
  -- Left and Right
  have hpr := prevB_in s (p : Int)
  have hprl := prev_le s p
  have kl := KeyG_eq s p (-1) (by omega) hp (by decide) (by rw [txt_same s p _ (.inl rfl)]; omega)
  rw [txt_same s p _ (.inl rfl), ed_left] at kl
  dsimp only at kl
  rw [lastB_self hpr] at kl
  have kr := KeyG_eq s (prevB (allB s) p 0) (-2) (by omega) hpr (by decide) (by rw [txt_same s _ _ (.inr (.inl rfl))]; omega)
  rw [txt_same s _ _ (.inr (.inl rfl)), ed_right] at kr
  dsimp only at kr
  rw [kl, bnd_some']
  dsimp only
  rw [kr, bnd_some']
  dsimp only
  have h2 : (if (p : Int) > 0 then if (⟨s, ((lastB s ((nextB (allB s) ((prevB (allB s) p 0 : Nat) : Int) s.length : Nat) : Int) : Nat) : Int)⟩ : line_Prompt) = ⟨s, (p : Int)⟩ then if (p : Int) = 0 then some (!((⟨s, ((prevB (allB s) p 0 : Nat) : Int)⟩ : line_Prompt) == (⟨s, (p : Int)⟩ : line_Prompt))) else some false else some true
      else if (p : Int) = 0 then some (!((⟨s, ((prevB (allB s) p 0 : Nat) : Int)⟩ : line_Prompt) == (⟨s, (p : Int)⟩ : line_Prompt))) else some false : Option Bool) = some false := by
    by_cases h0 : 0 < p
    · rw [if_pos (by omega), next_prev hp h0, lastB_self hp, if_pos rfl, if_neg (by omega)]
    · have hp0 : p = 0 := by omega
      subst hp0
      rw [if_neg (by omega), if_pos (show (((0 : Nat)) : Int) = 0 from rfl), show prevB (allB s) ((0 : Nat) : Int) 0 = 0 by omega]
      simp
  rw [h2, bnd_some', if_neg (by simp)]
  -- the end
  have h3 : ∃ (T : List UInt8) (q : Nat) (ok : Bool), line_Prompt_Key ⟨s, (p : Int)⟩ a2 = some (⟨T, (q : Int)⟩, ok, 0) ∧ q ∈ allB T ∧ T.length ≤ 100 := by
    have hl4 := txt_len hpl (if a2 = 10 then 0 else a2)
    rw [Key_eq s p a2 (by omega) hp, if_neg (show ¬ 100 < (txt s p (if a2 = 10 then 0 else a2)).length by omega)]
    exact ⟨_, _, _, rfl, lastB_in _ _, by omega⟩
  obtain ⟨T, q, ok, g1, g2, g3⟩ := h3
  have ke := KeyG_eq T q (-6) (by omega) g2 (by decide) (by rw [txt_same T q _ (.inr (.inr rfl))]; omega)
  rw [txt_same T q _ (.inr (.inr rfl)), ed_end] at ke
  dsimp only at ke
  rw [lastB_self (len_in T)] at ke
  rw [g1, bnd_some']
  dsimp only
  rw [ke, bnd_some']
  dsimp only
  rw [refBound_eqU T _ (by omega), lastB_self g2, bnd_some', if_pos rfl, if_pos rfl, awake30_eq, bnd_some', bnd_some']
end Go.Proofs.Ytlginjmkmfodmaa.S
