/- Chapter 1's functions, told plainly. -/
import Derived.Test.YtlginjmkmfodmaaDoorG1xa
import Derived.Test.YtlginjmkmfodmaaDoorUpl
set_option linter.unusedVariables false
namespace Go.Proofs.YtlginjmkmfodmaaDoor.S
open Go Go.Sm
theorem ub31 (c : UInt8) : ((ub (iand .u8 (c.toNat : Int) 31)).toNat : Int) = ((c.toNat % 32 : Nat) : Int) := by rw [← ub_wrap]; exact and31 c.toNat c.toNat_lt
theorem ub15 (c : UInt8) : ((ub (iand .u8 (c.toNat : Int) 15)).toNat : Int) = ((c.toNat % 16 : Nat) : Int) := by rw [← ub_wrap]; exact and15 c.toNat c.toNat_lt
theorem ub7 (c : UInt8) : ((ub (iand .u8 (c.toNat : Int) 7)).toNat : Int) = ((c.toNat % 8 : Nat) : Int) := by rw [← ub_wrap]; exact and7 c.toNat c.toNat_lt
theorem ub63 (c : UInt8) : ((ub (iand .u8 (c.toNat : Int) 63)).toNat : Int) = ((c.toNat % 64 : Nat) : Int) := by rw [← ub_wrap]; exact and63 c.toNat c.toNat_lt
theorem ub192 (c : UInt8) : ((ub (iand .u8 (c.toNat : Int) 192)).toNat : Int) = 128 ↔ (128 ≤ c.toNat ∧ c.toNat < 192) := by rw [← ub_wrap]; exact and192 c.toNat c.toNat_lt
theorem lead_eq (c : UInt8) : utf_lead c = some (lead c.toNat) := by
  unfold utf_lead lead
  rw [ub31, ub15, ub7]
  by_cases h1 : c.toNat < 128
  · rw [if_pos (by omega), if_pos h1]
  · rw [if_neg (by omega), if_neg h1]
    by_cases h2 : 194 ≤ c.toNat ∧ c.toNat ≤ 223
    · rw [if_pos (by omega), decide_eq_true (by omega), bnd_some', if_pos rfl, if_pos h2]
    · have e2 : (if (c.toNat : Int) ≥ 194 then some (decide ((c.toNat : Int) ≤ 223)) else some false : Option Bool) = some false := by
        split
        · rw [decide_eq_false (by omega)]
        · rfl
      rw [e2, bnd_some', if_neg (by simp), if_neg h2]
      by_cases h3 : 224 ≤ c.toNat ∧ c.toNat ≤ 239
      · rw [if_pos (by omega), decide_eq_true (by omega), bnd_some', if_pos rfl, if_pos h3]
      · have e3 : (if (c.toNat : Int) ≥ 224 then some (decide ((c.toNat : Int) ≤ 239)) else some false : Option Bool) = some false := by
          split
          · rw [decide_eq_false (by omega)]
          · rfl
        rw [e3, bnd_some', if_neg (by simp), if_neg h3]
        by_cases h4 : 240 ≤ c.toNat ∧ c.toNat ≤ 244
        · rw [if_pos (by omega), decide_eq_true (by omega), bnd_some', if_pos rfl, if_pos h4]
        · have e4 : (if (c.toNat : Int) ≥ 240 then some (decide ((c.toNat : Int) ≤ 244)) else some false : Option Bool) = some false := by
            split
            · rw [decide_eq_false (by omega)]
            · rfl
          rw [e4, bnd_some', if_neg (by simp), if_neg h4]
theorem scalar_eq (r : Int) : utf_scalar r = some (scalar r) := by
  unfold utf_scalar scalar
  by_cases h1 : 0 ≤ r
  · by_cases h2 : r ≤ 1114111
    · by_cases h3 : r < 55296
      · rw [if_pos h1, if_pos h2, if_pos h3, bnd_some']; simp [h1, h2, h3]
      · rw [if_pos h1, if_pos h2, if_neg h3, bnd_some']; simp [h1, h2, h3]
    · rw [if_pos h1, if_neg h2, bnd_some']; simp [h2]
  · rw [if_neg h1, bnd_some']; simp [h1]
theorem least_eq (m : Int) : utf_least m = some (least m) := by
  unfold utf_least least
  repeat' split
  all_goals first | rfl | omega
theorem contLoop (L : List UInt8) (hL : L.length ≤ 3) : ∀ n (j : Nat) (r : Int), L.length ≤ j + n → j ≤ L.length → 0 ≤ r → r < 128 * 64 ^ j →
    loop (utf_decode.l1 L) (r, (j : Int)) = some (match cont r (L.drop j) with | none => Ex.ret (-1, 1) | some v => Ex.brk v) := by
  intro n
  induction n with
  | zero =>
    intro j r hj hj' h0 h1
    rw [List.drop_of_length_le (by omega)]
    refine loop_done ?_
    unfold utf_decode.l1
    dsimp only
    rw [if_neg (by omega)]; rfl
  | succ n ih =>
    intro j r hj hj' h0 h1
    by_cases hlt : j < L.length
    · have hc : L[j]? = some L[j] := List.getElem?_eq_getElem hlt
      have hp := pow64_le (j := j) (by omega)
      have hp' := pow64_le (j := j + 1) (by omega)
      generalize L[j] = c at hc
      rw [cont_drop hc]
      by_cases h4 : 128 ≤ c.toNat ∧ c.toNat < 192
      · rw [if_pos h4]
        have hc64 : c.toNat % 64 < 64 := Nat.mod_lt _ (by omega)
        have e : w64 (ior .i64 (w64 (ishl .i64 r 6)) (((ub (iand .u8 (c.toNat : Int) 63)).toNat : Int))) = r * 64 + ((c.toNat % 64 : Nat) : Int) := by
          rw [ub63]
          have := or64 (r := r) (c := c.toNat % 64) h0 (by omega) hc64
          rw [wrapI (x := ((c.toNat % 64 : Nat) : Int)) (by omega)] at this
          exact this
        have hn := ih (j + 1) (r * 64 + ((c.toNat % 64 : Nat) : Int)) (by omega) (by omega) (by omega) (by rw [Int.pow_succ]; omega)
        refine loop_next (s' := (r * 64 + ((c.toNat % 64 : Nat) : Int), (j : Int) + 1)) ?_ (by simpa using hn)
        unfold utf_decode.l1
        dsimp only
        rw [if_pos (by omega), idx_nat hc, bnd_some', if_pos ((ub192 c).2 h4), bnd_some', e, w64_id ⟨by omega, by omega⟩]
      · rw [if_neg h4]
        refine loop_done ?_
        unfold utf_decode.l1
        dsimp only
        rw [if_pos (by omega), idx_nat hc, bnd_some', if_neg (fun h => h4 ((ub192 c).1 h))]
    · rw [List.drop_of_length_le (by omega)]
      refine loop_done ?_
      unfold utf_decode.l1
      dsimp only
      rw [if_neg (by omega)]; rfl
theorem decode_eq (bs : List UInt8) (hne : bs ≠ []) (hl : bs.length ≤ 1000000) : utf_decode bs = some (dec bs) := by
  obtain ⟨b, bs, rfl⟩ := List.exists_cons_of_ne_nil hne
  have hb := lead_bd b.toNat b.toNat_lt
  obtain ⟨⟨m, r0⟩, hL⟩ : ∃ p, lead b.toNat = p := ⟨_, rfl⟩
  rw [hL] at hb
  simp only [List.length_cons] at hl
  dsimp only at hb
  unfold utf_decode
  rw [show idx (b :: bs) 0 = some b from rfl, bnd_some', lead_eq, hL, bnd_some']
  dsimp only
  by_cases h1 : m < 0 ∨ m ≥ (bs.length : Int) + 1
  · have e : (if m < 0 then some true else some (decide (m ≥ ((b :: bs).length : Int))) : Option Bool) = some true := by
      by_cases h2 : m < 0
      · rw [if_pos h2]
      · rw [if_neg h2, decide_eq_true (by simp only [List.length_cons]; omega)]
    rw [e, bnd_some', if_pos rfl, dec_no hL h1]
  · have e : (if m < 0 then some true else some (decide (m ≥ ((b :: bs).length : Int))) : Option Bool) = some false := by
      rw [if_neg (by omega), decide_eq_false (by simp only [List.length_cons]; omega)]
    have hyes := dec_yes (bs := bs) hL h1
    have hLlen : (bs.take m.toNat).length = m.toNat := by rw [List.length_take]; omega
    have hcut : cut (b :: bs) 1 (m + 1) = some (bs.take m.toNat) := by
      rw [cut_of ⟨by omega, by omega, by simp only [List.length_cons]; omega⟩, show (m + 1).toNat = m.toNat + 1 by omega]
      rfl
    rw [e, bnd_some', if_neg (by simp), w64_id ⟨by omega, by omega⟩, hcut, bnd_some']
    have hl0 := contLoop (bs.take m.toNat) (by omega) (bs.take m.toNat).length 0 r0 (by omega) (by omega) hb.2.2.1 (by simpa using hb.2.2.2)
    rw [show (((0 : Nat)) : Int) = 0 from rfl, List.drop_zero] at hl0
    rw [hl0, bnd_some', hyes]
    cases hcn : cont r0 (bs.take m.toNat) with
    | none => rfl
    | some v =>
      dsimp only
      rw [scalar_eq, bnd_some']
      cases hs : scalar v with
      | false => simp
      | true =>
        rw [if_pos rfl, least_eq, bnd_some', bnd_some']
        by_cases h3 : v < least m
        · simp [h3]
        · simp [h3]
theorem within_eqU (bs : List UInt8) (i : Int) : utf_within bs i = some (decide (0 ≤ i ∧ i < (bs.length : Int))) := by
  unfold utf_within
  by_cases h : 0 ≤ i
  · rw [if_pos h, bnd_some']; simp [h]
  · rw [if_neg h, bnd_some']; simp [h]
theorem drop_cut (bs : List UInt8) (i : Int) (h : 0 ≤ i ∧ i < (bs.length : Int)) : cut bs i (bs.length : Int) = some (bs.drop i.toNat) := by
  rw [cut_of ⟨by omega, by omega, by omega⟩]; simp
theorem Rune_eqU (bs : List UInt8) (i : Int) (hl : bs.length ≤ 1000000) : utf_Rune bs i = some (atS bs i).1 := by
  unfold utf_Rune
  rw [within_eqU, bnd_some']
  by_cases h : 0 ≤ i ∧ i < (bs.length : Int)
  · rw [decide_eq_true h, if_pos rfl, drop_cut bs i h, bnd_some', decode_eq _ (fun e => by have := congrArg List.length e; simp at this; omega) (by simp; omega), bnd_some', atS, if_pos h]
  · rw [decide_eq_false h, if_neg (by simp), atS, if_neg h]
end Go.Proofs.YtlginjmkmfodmaaDoor.S
