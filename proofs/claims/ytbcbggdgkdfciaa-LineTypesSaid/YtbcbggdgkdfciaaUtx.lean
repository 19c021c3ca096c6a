/- Chapter 1's functions, told plainly. -/
import Derived.Test.YtbcbggdgkdfciaaG3xa
import Derived.Test.YtbcbggdgkdfciaaG3xb
import Derived.Test.YtbcbggdgkdfciaaUpl
set_option linter.unusedVariables false
namespace Go.Proofs.Ytbcbggdgkdfciaa.S
open Go Go.Sm
theorem ub31 (c : UInt8) : ((ub (iand .u8 (c.toNat : Int) 31)).toNat : Int) = ((c.toNat % 32 : Nat) : Int) := by rw [← ub_wrap]; exact and31 c.toNat c.toNat_lt
theorem ub15 (c : UInt8) : ((ub (iand .u8 (c.toNat : Int) 15)).toNat : Int) = ((c.toNat % 16 : Nat) : Int) := by rw [← ub_wrap]; exact and15 c.toNat c.toNat_lt
theorem ub7 (c : UInt8) : ((ub (iand .u8 (c.toNat : Int) 7)).toNat : Int) = ((c.toNat % 8 : Nat) : Int) := by rw [← ub_wrap]; exact and7 c.toNat c.toNat_lt
theorem ub63 (c : UInt8) : ((ub (iand .u8 (c.toNat : Int) 63)).toNat : Int) = ((c.toNat % 64 : Nat) : Int) := by rw [← ub_wrap]; exact and63 c.toNat c.toNat_lt
theorem ub192 (c : UInt8) : ((ub (iand .u8 (c.toNat : Int) 192)).toNat : Int) = 128 ↔ (128 ≤ c.toNat ∧ c.toNat < 192) := by rw [← ub_wrap]; exact and192 c.toNat c.toNat_lt
theorem lead_eq (c : UInt8) : utf_lead c = some (lead c.toNat) := by
  unfold utf_lead lead
  rw [ub31, ub15, ub7]
  by_cases h1 : c.toNat < 128
  · rw [if_pos (by omega), if_pos h1]
  · rw [if_neg (by omega), if_neg h1]
    by_cases h2 : 194 ≤ c.toNat ∧ c.toNat ≤ 223
    · rw [if_pos (by omega), decide_eq_true (by omega), bnd_some', if_pos rfl, if_pos h2]
    · have e2 : (if (c.toNat : Int) ≥ 194 then some (decide ((c.toNat : Int) ≤ 223)) else some false : Option Bool) = some false := by
        split
        · rw [decide_eq_false (by omega)]
        · rfl
      rw [e2, bnd_some', if_neg (by simp), if_neg h2]
      by_cases h3 : 224 ≤ c.toNat ∧ c.toNat ≤ 239
      · rw [if_pos (by omega), decide_eq_true (by omega), bnd_some', if_pos rfl, if_pos h3]
      · have e3 : (if (c.toNat : Int) ≥ 224 then some (decide ((c.toNat : Int) ≤ 239)) else some false : Option Bool) = some false := by
          split
          · rw [decide_eq_false (by omega)]
          · rfl
        rw [e3, bnd_some', if_neg (by simp), if_neg h3]
        by_cases h4 : 240 ≤ c.toNat ∧ c.toNat ≤ 244
        · rw [if_pos (by omega), decide_eq_true (by omega), bnd_some', if_pos rfl, if_pos h4]
        · have e4 : (if (c.toNat : Int) ≥ 240 then some (decide ((c.toNat : Int) ≤ 244)) else some false : Option Bool) = some false := by
            split
            · rw [decide_eq_false (by omega)]
            · rfl
          rw [e4, bnd_some', if_neg (by simp), if_neg h4]
theorem scalar_eq (r : Int) : utf_scalar r = some (scalar r) := by
  unfold utf_scalar scalar
  by_cases h1 : 0 ≤ r
  · by_cases h2 : r ≤ 1114111
    · by_cases h3 : r < 55296
      · rw [if_pos h1, if_pos h2, if_pos h3, bnd_some']; simp [h1, h2, h3]
      · rw [if_pos h1, if_pos h2, if_neg h3, bnd_some']; simp [h1, h2, h3]
    · rw [if_pos h1, if_neg h2, bnd_some']; simp [h2]
  · rw [if_neg h1, bnd_some']; simp [h1]
theorem least_eq (m : Int) : utf_least m = some (least m) := by
  unfold utf_least least
  repeat' split
  all_goals first | rfl | omega
theorem contLoop (L : List UInt8) (hL : L.length ≤ 3) : ∀ n (j : Nat) (r : Int), L.length ≤ j + n → j ≤ L.length → 0 ≤ r → r < 128 * 64 ^ j →
    loop (utf_decode.l1 L) (r, (j : Int)) = some (match cont r (L.drop j) with | none => Ex.ret (-1, 1) | some v => Ex.brk v) := by
  intro n
  induction n with
  | zero =>
    intro j r hj hj' h0 h1
    rw [List.drop_of_length_le (by omega)]
    refine loop_done ?_
    unfold utf_decode.l1
    dsimp only
    rw [if_neg (by omega)]; rfl
  | succ n ih =>
    intro j r hj hj' h0 h1
    by_cases hlt : j < L.length
    · have hc : L[j]? = some L[j] := List.getElem?_eq_getElem hlt
      have hp := pow64_le (j := j) (by omega)
      have hp' := pow64_le (j := j + 1) (by omega)
      generalize L[j] = c at hc
      rw [cont_drop hc]
      by_cases h4 : 128 ≤ c.toNat ∧ c.toNat < 192
      · rw [if_pos h4]
        have hc64 : c.toNat % 64 < 64 := Nat.mod_lt _ (by omega)
        have e : w64 (ior .i64 (w64 (ishl .i64 r 6)) (((ub (iand .u8 (c.toNat : Int) 63)).toNat : Int))) = r * 64 + ((c.toNat % 64 : Nat) : Int) := by
          rw [ub63]
          have := or64 (r := r) (c := c.toNat % 64) h0 (by omega) hc64
          rw [wrapI (x := ((c.toNat % 64 : Nat) : Int)) (by omega)] at this
          exact this
        have hn := ih (j + 1) (r * 64 + ((c.toNat % 64 : Nat) : Int)) (by omega) (by omega) (by omega) (by rw [Int.pow_succ]; omega)
        refine loop_next (s' := (r * 64 + ((c.toNat % 64 : Nat) : Int), (j : Int) + 1)) ?_ (by simpa using hn)
        unfold utf_decode.l1
        dsimp only
        rw [if_pos (by omega), idx_nat hc, bnd_some', if_pos ((ub192 c).2 h4), bnd_some', e, w64_id ⟨by omega, by omega⟩]
      · rw [if_neg h4]
        refine loop_done ?_
        unfold utf_decode.l1
        dsimp only
        rw [if_pos (by omega), idx_nat hc, bnd_some', if_neg (fun h => h4 ((ub192 c).1 h))]
    · rw [List.drop_of_length_le (by omega)]
      refine loop_done ?_
      unfold utf_decode.l1
      dsimp only
      rw [if_neg (by omega)]; rfl
theorem decode_eq (bs : List UInt8) (hne : bs ≠ []) (hl : bs.length ≤ 1000000) : utf_decode bs = some (dec bs) := by
  obtain ⟨b, bs, rfl⟩ := List.exists_cons_of_ne_nil hne
  have hb := lead_bd b.toNat b.toNat_lt
  obtain ⟨⟨m, r0⟩, hL⟩ : ∃ p, lead b.toNat = p := ⟨_, rfl⟩
  rw [hL] at hb
  simp only [List.length_cons] at hl
  dsimp only at hb
  unfold utf_decode
  rw [show idx (b :: bs) 0 = some b from rfl, bnd_some', lead_eq, hL, bnd_some']
  dsimp only
  by_cases h1 : m < 0 ∨ m ≥ (bs.length : Int) + 1
  · have e : (if m < 0 then some true else some (decide (m ≥ ((b :: bs).length : Int))) : Option Bool) = some true := by
      by_cases h2 : m < 0
      · rw [if_pos h2]
      · rw [if_neg h2, decide_eq_true (by simp only [List.length_cons]; omega)]
    rw [e, bnd_some', if_pos rfl, dec_no hL h1]
  · have e : (if m < 0 then some true else some (decide (m ≥ ((b :: bs).length : Int))) : Option Bool) = some false := by
      rw [if_neg (by omega), decide_eq_false (by simp only [List.length_cons]; omega)]
    have hyes := dec_yes (bs := bs) hL h1
    have hLlen : (bs.take m.toNat).length = m.toNat := by rw [List.length_take]; omega
    have hcut : cut (b :: bs) 1 (m + 1) = some (bs.take m.toNat) := by
      rw [cut_of ⟨by omega, by omega, by simp only [List.length_cons]; omega⟩, show (m + 1).toNat = m.toNat + 1 by omega]
      rfl
    rw [e, bnd_some', if_neg (by simp), w64_id ⟨by omega, by omega⟩, hcut, bnd_some']
    have hl0 := contLoop (bs.take m.toNat) (by omega) (bs.take m.toNat).length 0 r0 (by omega) (by omega) hb.2.2.1 (by simpa using hb.2.2.2)
    rw [show (((0 : Nat)) : Int) = 0 from rfl, List.drop_zero] at hl0
    rw [hl0, bnd_some', hyes]
    cases hcn : cont r0 (bs.take m.toNat) with
    | none => rfl
    | some v =>
      dsimp only
      rw [scalar_eq, bnd_some']
      cases hs : scalar v with
      | false => simp
      | true =>
        rw [if_pos rfl, least_eq, bnd_some', bnd_some']
        by_cases h3 : v < least m
        · simp [h3]
        · simp [h3]
theorem within_eqU (bs : List UInt8) (i : Int) : utf_within bs i = some (decide (0 ≤ i ∧ i < (bs.length : Int))) := by
  unfold utf_within
  by_cases h : 0 ≤ i
  · rw [if_pos h, bnd_some']; simp [h]
  · rw [if_neg h, bnd_some']; simp [h]
theorem drop_cut (bs : List UInt8) (i : Int) (h : 0 ≤ i ∧ i < (bs.length : Int)) : cut bs i (bs.length : Int) = some (bs.drop i.toNat) := by
  rw [cut_of ⟨by omega, by omega, by omega⟩]; simp
theorem Size_eqU (bs : List UInt8) (i : Int) (hl : bs.length ≤ 1000000) : utf_Size bs i = some (atS bs i).2 := by
  unfold utf_Size
  rw [within_eqU, bnd_some']
  by_cases h : 0 ≤ i ∧ i < (bs.length : Int)
  · rw [decide_eq_true h, if_pos rfl, drop_cut bs i h, bnd_some', decode_eq _ (fun e => by have := congrArg List.length e; simp at this; omega) (by simp; omega), bnd_some', atS, if_pos h]
  · rw [decide_eq_false h, if_neg (by simp), atS, if_neg h]
theorem Rune_eqU (bs : List UInt8) (i : Int) (hl : bs.length ≤ 1000000) : utf_Rune bs i = some (atS bs i).1 := by
  unfold utf_Rune
  rw [within_eqU, bnd_some']
  by_cases h : 0 ≤ i ∧ i < (bs.length : Int)
  · rw [decide_eq_true h, if_pos rfl, drop_cut bs i h, bnd_some', decode_eq _ (fun e => by have := congrArg List.length e; simp at this; omega) (by simp; omega), bnd_some', atS, if_pos h]
  · rw [decide_eq_false h, if_neg (by simp), atS, if_neg h]
theorem boundLoop (bs : List UInt8) (a : Int) (hl : bs.length ≤ 1000000) (h3 : 0 ≤ a ∧ a ≤ (bs.length : Int)) : ∀ n (k : Nat), 4 ≤ k + n → 1 ≤ k → k ≤ 4 → (∀ j, 1 ≤ j → j < k → j ≤ a.toNat → szB bs (a.toNat - j) ≤ j) →
    ∃ t, loop (utf_Bound.l1 bs a) (k : Int) = some t ∧ (match t with | .brk _ => hasB (allB bs) a = true | .ret v => v = false ∧ hasB (allB bs) a = false) := by
  have hin : hasB (allB bs) a = true ↔ ∀ k, 1 ≤ k → k < 4 → k ≤ a.toNat → szB bs (a.toNat - k) ≤ k := by
    rw [hasB_iff, mem_allB, bound_iff (by omega)]
    exact ⟨fun h => h.2, fun h => ⟨h3.1, h⟩⟩
  have stop : ∀ k : Nat, 1 ≤ k → k ≤ 4 → ¬ (k < 4 ∧ k ≤ a.toNat) → (∀ j, 1 ≤ j → j < k → j ≤ a.toNat → szB bs (a.toNat - j) ≤ j) → ∃ t, loop (utf_Bound.l1 bs a) (k : Int) = some t ∧ (match t with | .brk _ => hasB (allB bs) a = true | .ret v => v = false ∧ hasB (allB bs) a = false) := fun k k1 k4 hk hj => by
    refine ⟨Ex.brk (), loop_done ?_, hin.2 fun j j1 j2 j3 => hj j j1 (by omega) j3⟩
    have e : (if (k : Int) < 4 then some (decide ((k : Int) ≤ a)) else some false : Option Bool) = some false := by
      by_cases h : (k : Int) < 4
      · rw [if_pos h, decide_eq_false (by omega)]
      · rw [if_neg h]
    unfold utf_Bound.l1
    rw [e, bnd_some', if_neg (by simp)]
  intro n
  induction n with
  | zero => intro k hk k1 k4 hj; exact stop k k1 k4 (by omega) hj
  | succ n ih =>
    intro k hk k1 k4 hj
    by_cases h : k < 4 ∧ k ≤ a.toNat
    · have hsz : (atS bs (a - k)).2 = (szB bs (a.toNat - k) : Nat) := by
        have hlt : a.toNat - k < bs.length := by omega
        have := (step_bd hlt).1
        rw [atS, if_pos (by omega), show (a - k).toNat = a.toNat - k by omega]
        unfold szB
        omega
      have e : (if (k : Int) < 4 then some (decide ((k : Int) ≤ a)) else some false : Option Bool) = some true := by
        rw [if_pos (by omega), decide_eq_true (by omega)]
      by_cases hb : szB bs (a.toNat - k) ≤ k
      · obtain ⟨t, t1, t2⟩ := ih (k + 1) (by omega) (by omega) (by omega) (fun j j1 j2 j3 => by
          by_cases hjk : j = k
          · subst hjk; exact hb
          · exact hj j j1 (by omega) j3)
        refine ⟨t, loop_next (s' := (k : Int) + 1) ?_ (by simpa using t1), t2⟩
        unfold utf_Bound.l1
        rw [e, bnd_some', if_pos rfl, w64_id (x := a - (k : Int)) ⟨by omega, by omega⟩, Size_eqU bs _ hl, bnd_some', hsz, if_neg (by omega), w64_id ⟨by omega, by omega⟩]
      · refine ⟨Ex.ret false, loop_done ?_, rfl, ?_⟩
        · unfold utf_Bound.l1
          rw [e, bnd_some', if_pos rfl, w64_id (x := a - (k : Int)) ⟨by omega, by omega⟩, Size_eqU bs _ hl, bnd_some', hsz, if_pos (by omega)]
        · cases hbb : hasB (allB bs) a
          · rfl
          · exact absurd (hin.1 hbb k k1 h.1 h.2) hb
    · exact stop k k1 k4 h hj
theorem Bound_eqU (bs : List UInt8) (a : Int) (hl : bs.length ≤ 1000000) : utf_Bound bs a = some (hasB (allB bs) a) := by
  have hout : ¬ (0 ≤ a ∧ a ≤ (bs.length : Int)) → hasB (allB bs) a = false := fun h => by
    cases hb : hasB (allB bs) a
    · rfl
    · have := hasB_iff.1 hb
      have h2 := allB_le this.2
      omega
  unfold utf_Bound
  by_cases h : 0 ≤ a ∧ a ≤ (bs.length : Int)
  · rw [if_neg (by omega), decide_eq_false (by omega), bnd_some', if_neg (by simp)]
    obtain ⟨t, t1, t2⟩ := boundLoop bs a hl h 3 1 (by omega) (by omega) (by omega) (fun j j1 j2 => by omega)
    rw [show (((1 : Nat)) : Int) = 1 from rfl] at t1
    rw [t1, bnd_some']
    cases t with
    | brk u => dsimp only; rw [show hasB (allB bs) a = true from t2]
    | ret v => dsimp only; rw [t2.2, t2.1]
  · have e : (if a < 0 then some true else some (decide (a > (bs.length : Int))) : Option Bool) = some true := by
      by_cases h0 : a < 0
      · rw [if_pos h0]
      · rw [if_neg h0, decide_eq_true (by omega)]
    rw [e, bnd_some', if_pos rfl, hout h]
theorem Next_eqU (bs : List UInt8) (a : Int) (hl : bs.length ≤ 1000000) (ha : a ≤ 9000000000000000000) : utf_Next bs a = some ((nextB (allB bs) a bs.length : Nat) : Int) := by
  unfold utf_Next
  by_cases h0 : a < 0
  · rw [if_pos h0, nextB_is (allB_sorted bs) (zero_allB bs) (by omega) (fun x _ _ => Nat.zero_le _)]; rfl
  · rw [if_neg h0]
    have key : ∀ n (c : Int), 0 ≤ c → a ≤ c → c ≤ 9000000000000000000 → bs.length ≤ c.toNat + n → (∀ x ∈ allB bs, a < (x : Int) → c < x) → ∃ t, loop (utf_Next.l1 bs) c = some t ∧ (match t with | .brk _ => nextB (allB bs) a bs.length = bs.length | .ret v => v = ((nextB (allB bs) a bs.length : Nat) : Int)) := by
      intro n
      induction n with
      | zero =>
        intro c c0 c1 c3 hn hc
        refine ⟨Ex.brk (), loop_done ?_, nextB_none (fun x hx h => by have := hc x hx h; have := allB_le hx; omega)⟩
        unfold utf_Next.l1
        rw [if_neg (by omega)]
      | succ n ih =>
        intro c c0 c1 c3 hn hc
        by_cases hlt : c < (bs.length : Int)
        · cases hb : hasB (allB bs) (c + 1) with
          | true =>
            have hm := hasB_iff.1 hb
            refine ⟨Ex.ret (c + 1), loop_done ?_, ?_⟩
            · unfold utf_Next.l1
              rw [if_pos hlt, w64_id ⟨by omega, by omega⟩, Bound_eqU bs _ hl, bnd_some', hb, if_pos rfl]
            · dsimp only
              rw [nextB_is (r := (c + 1).toNat) (allB_sorted bs) hm.2 (by omega) (fun x hx h => by have := hc x hx h; omega)]
              omega
          | false =>
            obtain ⟨t, t1, t2⟩ := ih (c + 1) (by omega) (by omega) (by omega) (by omega) (fun x hx h => by
              have h1 := hc x hx h
              have h2 : (x : Int) ≠ c + 1 := fun e => by
                have : hasB (allB bs) (c + 1) = true := hasB_iff.2 ⟨by omega, by rw [← e]; simpa using hx⟩
                rw [hb] at this; cases this
              omega)
            refine ⟨t, loop_next (s' := c + 1) ?_ t1, t2⟩
            unfold utf_Next.l1
            rw [if_pos hlt, w64_id ⟨by omega, by omega⟩, Bound_eqU bs _ hl, bnd_some', hb, if_neg (by simp)]
        · refine ⟨Ex.brk (), loop_done ?_, nextB_none (fun x hx h => by have := hc x hx h; have := allB_le hx; omega)⟩
          unfold utf_Next.l1
          rw [if_neg hlt]
    obtain ⟨t, t1, t2⟩ := key bs.length a (by omega) (Int.le_refl _) ha (by omega) (fun _ _ h => h)
    rw [t1, bnd_some']
    cases t with
    | brk u => dsimp only; rw [show nextB (allB bs) a bs.length = bs.length from t2]
    | ret v => dsimp only; rw [show v = ((nextB (allB bs) a bs.length : Nat) : Int) from t2]
theorem Prev_eqU (bs : List UInt8) (a : Int) (hl : bs.length ≤ 1000000) : utf_Prev bs a = some ((prevB (allB bs) a 0 : Nat) : Int) := by
  have key : ∀ (n : Nat) (c : Int), c ≤ n → c ≤ a → c ≤ bs.length + 1 → (∀ x ∈ allB bs, (x : Int) < a → (x : Int) < c) → ∃ t, loop (utf_Prev.l1 bs) c = some t ∧ (match t with | .brk _ => prevB (allB bs) a 0 = 0 | .ret v => v = ((prevB (allB bs) a 0 : Nat) : Int)) := by
    intro n
    induction n with
    | zero =>
      intro c hn c0 c1 hc
      refine ⟨Ex.brk (), loop_done ?_, prevB_none (fun x hx h => by have := hc x hx h; omega)⟩
      unfold utf_Prev.l1
      rw [if_neg (by omega)]
    | succ n ih =>
      intro c hn c0 c1 hc
      by_cases hlt : c > 0
      · cases hb : hasB (allB bs) (c - 1) with
        | true =>
          have hm := hasB_iff.1 hb
          refine ⟨Ex.ret (c - 1), loop_done ?_, ?_⟩
          · unfold utf_Prev.l1
            rw [if_pos hlt, w64_id ⟨by omega, by omega⟩, Bound_eqU bs _ hl, bnd_some', hb, if_pos rfl]
          · dsimp only
            rw [prevB_is (r := (c - 1).toNat) (allB_sorted bs) hm.2 (by omega) (fun x hx h => by have := hc x hx h; omega)]
            omega
        | false =>
          obtain ⟨t, t1, t2⟩ := ih (c - 1) (by omega) (by omega) (by omega) (fun x hx h => by
            have h1 := hc x hx h
            have h2 : (x : Int) ≠ c - 1 := fun e => by
              have : hasB (allB bs) (c - 1) = true := hasB_iff.2 ⟨by omega, by rw [← e]; simpa using hx⟩
              rw [hb] at this; cases this
            omega)
          refine ⟨t, loop_next (s' := c - 1) ?_ t1, t2⟩
          unfold utf_Prev.l1
          rw [if_pos hlt, w64_id ⟨by omega, by omega⟩, Bound_eqU bs _ hl, bnd_some', hb, if_neg (by simp)]
      · refine ⟨Ex.brk (), loop_done ?_, prevB_none (fun x hx h => by have := hc x hx h; omega)⟩
        unfold utf_Prev.l1
        rw [if_neg hlt]
  unfold utf_Prev
  rw [w64_id ⟨by omega, by omega⟩, bnd_some']
  obtain ⟨t, t1, t2⟩ := key (bs.length + 1) (if (bs.length : Int) + 1 < a then (bs.length : Int) + 1 else a) (by split <;> omega) (by split <;> omega) (by split <;> omega) (fun x hx h => by
    have := allB_le hx
    split <;> omega)
  rw [t1, bnd_some']
  cases t with
  | brk u => dsimp only; rw [show prevB (allB bs) a 0 = 0 from t2]; rfl
  | ret v => dsimp only; rw [show v = ((prevB (allB bs) a 0 : Nat) : Int) from t2]
theorem Class_eqU (r : Int) : utf_Class r = some (classS r) := by
  unfold utf_Class classS
  by_cases h1 : r = 32
  · subst h1; rfl
  · rw [if_neg h1]
    by_cases h2 : 9 ≤ r ∧ r ≤ 13
    · rw [if_pos h2.1, decide_eq_true h2.2, bnd_some', if_pos rfl, if_pos (.inr h2)]
    · have e : (if r ≥ 9 then some (decide (r ≤ 13)) else some false : Option Bool) = some false := by
        split
        · rw [decide_eq_false (by omega)]
        · rfl
      rw [e, bnd_some', if_neg (show ¬ (false = true) by simp), if_neg (show ¬ (r = 32 ∨ (9 ≤ r ∧ r ≤ 13)) by omega)]
      by_cases h3 : r > 127
      · rw [if_pos h3, decide_eq_true h3, bnd_some', if_pos rfl, if_pos (.inl h3)]
      · rw [if_neg h3]
        by_cases h4 : r = 95
        · subst h4; rfl
        · rw [if_neg h4]
          by_cases h5 : 48 ≤ r ∧ r ≤ 57
          · rw [if_pos h5.1, decide_eq_true h5.2, bnd_some', if_pos rfl, if_pos (by omega)]
          · have e5 : (if r ≥ 48 then some (decide (r ≤ 57)) else some false : Option Bool) = some false := by
              split
              · rw [decide_eq_false (by omega)]
              · rfl
            rw [e5, bnd_some', if_neg (by simp)]
            by_cases h6 : 97 ≤ r ∧ r ≤ 122
            · rw [if_pos h6.1, decide_eq_true h6.2, bnd_some', if_pos rfl, bnd_some', if_pos rfl, if_pos (by omega)]
            · have e6 : (if r ≥ 97 then some (decide (r ≤ 122)) else some false : Option Bool) = some false := by
                split
                · rw [decide_eq_false (by omega)]
                · rfl
              rw [e6, bnd_some', if_neg (by simp)]
              by_cases h7 : 65 ≤ r ∧ r ≤ 90
              · rw [if_pos h7.1, decide_eq_true h7.2, bnd_some', if_pos rfl, if_pos (by omega)]
              · have e7 : (if r ≥ 65 then some (decide (r ≤ 90)) else some false : Option Bool) = some false := by
                  split
                  · rw [decide_eq_false (by omega)]
                  · rfl
                rw [e7, bnd_some', if_neg (by simp), if_neg (by omega)]
theorem refClass_eqU (r : Int) : ref01_Class r = some (classS r) := by
  unfold ref01_Class classS
  by_cases h1 : r = 32
  · subst h1; rfl
  · rw [if_neg h1]
    by_cases h2 : 9 ≤ r ∧ r ≤ 13
    · rw [if_pos h2.1, decide_eq_true h2.2, bnd_some', if_pos rfl, if_pos (.inr h2)]
    · have e : (if r ≥ 9 then some (decide (r ≤ 13)) else some false : Option Bool) = some false := by
        split
        · rw [decide_eq_false (by omega)]
        · rfl
      rw [e, bnd_some', if_neg (show ¬ (false = true) by simp), if_neg (show ¬ (r = 32 ∨ (9 ≤ r ∧ r ≤ 13)) by omega)]
      refine (bnd_eq (a := decide (r > 127 ∨ r = 95 ∨ (48 ≤ r ∧ r ≤ 57) ∨ (65 ≤ r ∧ r ≤ 90) ∨ (97 ≤ r ∧ r ≤ 122))) ?_ _).trans ?_
      · repeat' split
        all_goals first
          | (rw [decide_eq_true (by omega)]; done)
          | (rw [decide_eq_false (by omega)]; done)
          | (congr 1; rw [Bool.eq_iff_iff]; simp only [decide_eq_true_eq]; omega)
      · by_cases h3 : r > 127 ∨ r = 95 ∨ (48 ≤ r ∧ r ≤ 57) ∨ (65 ≤ r ∧ r ≤ 90) ∨ (97 ≤ r ∧ r ≤ 122)
        · rw [decide_eq_true h3, if_pos rfl, if_pos h3]
        · rw [decide_eq_false h3, if_neg (by simp), if_neg h3]
end Go.Proofs.Ytbcbggdgkdfciaa.S
