/- Chapter 6's fields, told plainly: a text that was put is read as it was; the law QuoteBack. -/
import Derived.Test.YtkjcogmngoogcaaG10xa
import Derived.Test.YtkjcogmngoogcaaG11xa
import Derived.Test.YtkjcogmngoogcaaG1xa
import Derived.Test.YtkjcogmngoogcaaG3xa
import Derived.Test.YtkjcogmngoogcaaQuoB
set_option linter.unusedVariables false
namespace Go.Proofs.Ytkjcogmngoogcaa.S
open Go Go.Sm
theorem tl_is (w : List UInt8) (i e : Nat) (h1 : i ≤ e) (h2 : mk w e = true) (h3 : ∀ k, i ≤ k → k < e → mk w k = false) : tl w i = e := by
  obtain ⟨t1, t2, t3, _⟩ := tl_spec w i
  rcases Nat.lt_trichotomy (tl w i) e with h | h | h
  · have := h3 _ t1 h; rw [t2] at this; cases this
  · exact h
  · have := t3 _ h1 h; rw [h2] at this; cases this
/-- A mark stands there, or nothing. -/
def Ends (rest : List UInt8) : Prop := rest = [] ∨ ∃ m r, rest = m :: r ∧ isMark m = true
theorem ends_mk {pre rest : List UInt8} (h : Ends rest) : mk (pre ++ rest) pre.length = true := by
  rcases h with rfl | ⟨m, r, rfl, hm⟩
  · exact mk_out (by simp)
  · unfold mk
    rw [List.getElem?_append_right (Nat.le_refl _)]
    simpa using hm
theorem mark_not34 {m : UInt8} (h : isMark m = true) : m ≠ 34 := by
  intro e; subst e; cases h
theorem ends_at {pre rest : List UInt8} (h : Ends rest) : at_ (pre ++ rest) 34 pre.length = false := by
  unfold at_
  rw [List.getElem?_append_right (Nat.le_refl _)]
  rcases h with rfl | ⟨m, r, rfl, hm⟩
  · simp
  · have := mark_not34 hm
    simpa using this
theorem letter {x : UInt8} (h : isQ x = false) : isMark x = false ∧ x ≠ 34 := by
  unfold isQ at h
  unfold isMark
  simp only [Bool.or_eq_false_iff, beq_eq_false_iff_ne] at h ⊢
  exact ⟨⟨⟨h.1.1.1, h.1.2⟩, h.2⟩, h.1.1.2⟩
theorem needs_mem {b : List UInt8} (h : needs b = false) {k : Nat} (hk : k < b.length) : isQ b[k] = false := by
  unfold needs at h
  rw [List.any_eq_false] at h
  have := h b[k] (List.getElem_mem hk)
  simpa using this
theorem rq_put (rest : List UInt8) (hr : Ends rest) : ∀ (b pre : List UInt8) (acc : List Int) (n : Nat), (pre ++ (esc b ++ 34 :: rest)).length ≤ pre.length + n →
    ∃ pl, rq (pre ++ (esc b ++ 34 :: rest)) n pre.length acc = (pre.length + (esc b).length, acc ++ pl) ∧ bytesAt (pre ++ (esc b ++ 34 :: rest)) pl = b
  | [], pre, acc, n, hn => by
    refine ⟨[], ?_, rfl⟩
    cases n with
    | zero => simp [esc] at hn; omega
    | succ n =>
      simp only [rq]
      have h1 : at_ (pre ++ (esc [] ++ 34 :: rest)) 34 pre.length = true := by
        unfold at_; rw [List.getElem?_append_right (Nat.le_refl _)]; simp [esc]
      have h2 : at_ (pre ++ (esc [] ++ 34 :: rest)) 34 (pre.length + 1) = false := by
        have := ends_at (pre := pre ++ [34]) hr
        simpa [esc] using this
      rw [if_neg]
      · simp [esc]
      · rintro ⟨_, h | h⟩
        · rw [h1] at h; cases h
        · rw [h2] at h; cases h
  | x :: b, pre, acc, n, hn => by
    have hesc : esc (x :: b) = esc1 x ++ esc b := by simp [esc]
    have hw : pre ++ (esc (x :: b) ++ 34 :: rest) = (pre ++ esc1 x) ++ (esc b ++ 34 :: rest) := by rw [hesc]; simp
    have hpos : 0 < (esc1 x).length := by unfold esc1; split <;> simp
    cases n with
    | zero => rw [hw] at hn; simp at hn; omega
    | succ n =>
      have hlt : pre.length < (pre ++ (esc (x :: b) ++ 34 :: rest)).length := by rw [hw]; simp; omega
      have hget : (pre ++ (esc (x :: b) ++ 34 :: rest))[pre.length]? = some x := by
        rw [List.getElem?_append_right (Nat.le_refl _), hesc]
        unfold esc1
        split
        · rename_i h; subst h; simp
        · simp
      have hstep : rq (pre ++ (esc (x :: b) ++ 34 :: rest)) (n + 1) pre.length acc = rq (pre ++ (esc (x :: b) ++ 34 :: rest)) n (pre ++ esc1 x).length (acc ++ [(pre.length : Int)]) := by
        simp only [rq]
        by_cases hx : x = 34
        · subst hx
          have h1 : at_ (pre ++ (esc (34 :: b) ++ 34 :: rest)) 34 pre.length = true := by unfold at_; rw [hget]; rfl
          have h2 : at_ (pre ++ (esc (34 :: b) ++ 34 :: rest)) 34 (pre.length + 1) = true := by
            unfold at_; rw [List.getElem?_append_right (by omega), hesc]; simp [esc1]
          rw [if_pos ⟨hlt, .inr h2⟩, h1, if_pos rfl]
          congr 1
          simp [esc1]
        · have h1 : at_ (pre ++ (esc (x :: b) ++ 34 :: rest)) 34 pre.length = false := by
            unfold at_; rw [hget]; simpa using hx
          rw [if_pos ⟨hlt, .inl h1⟩, h1, if_neg (by simp)]
          congr 1
          simp [esc1, hx]
      obtain ⟨pl, g1, g2⟩ := rq_put rest hr b (pre ++ esc1 x) (acc ++ [(pre.length : Int)]) n (by rw [hw] at hn; simp only [List.length_append] at hn ⊢; omega)
      rw [← hw] at g1 g2
      refine ⟨(pre.length : Int) :: pl, ?_, ?_⟩
      · rw [hstep, g1, hesc]
        simp only [List.length_append, List.append_assoc, List.cons_append, List.nil_append]
        congr 1; omega
      · rw [show (pre.length : Int) :: pl = [(pre.length : Int)] ++ pl from rfl, bytesAt_append, g2]
        simp [bytesAt, hget]
theorem field_put (pre b rest : List UInt8) (hr : Ends rest) : ∃ pl, fieldF (pre ++ (put b ++ rest)) pre.length = ((if needs b = true then 1 else 0), pl, pre.length + (put b).length) ∧ bytesAt (pre ++ (put b ++ rest)) pl = b := by
  unfold fieldF
  cases hn : needs b with
  | false =>
    have hp : put b = b := by simp [put, hn]
    rw [hp]
    have hget : ∀ k, k < b.length → (pre ++ (b ++ rest))[pre.length + k]? = b[k]? := fun k hk => by
      rw [List.getElem?_append_right (by omega), Nat.add_sub_cancel_left, List.getElem?_append_left hk]
    have hq : ∀ k, k < b.length → at_ (pre ++ (b ++ rest)) 34 (pre.length + k) = false := fun k hk => by
      unfold at_
      rw [hget k hk, List.getElem?_eq_getElem hk]
      have := (letter (needs_mem hn hk)).2
      simpa using this
    have hm : ∀ k, pre.length ≤ k → k < pre.length + b.length → mk (pre ++ (b ++ rest)) k = false := fun k h1 h2 => by
      obtain ⟨q, rfl⟩ : ∃ q, k = pre.length + q := ⟨k - pre.length, by omega⟩
      have hk : q < b.length := by omega
      unfold mk
      rw [hget q hk, List.getElem?_eq_getElem hk]
      exact (letter (needs_mem hn hk)).1
    have he : mk (pre ++ (b ++ rest)) (pre.length + b.length) = true := by
      have := ends_mk (pre := pre ++ b) hr
      rwa [List.append_assoc, List.length_append] at this
    have ht := tl_is _ _ _ (Nat.le_add_right _ _) he hm
    have h34 : at_ (pre ++ (b ++ rest)) 34 pre.length = false := by
      cases b with
      | nil => simpa using ends_at (pre := pre) hr
      | cons x b => simpa using hq 0 (by simp)
    have haq : aq (pre ++ (b ++ rest)) pre.length b.length = false := by
      unfold aq
      rw [List.any_eq_false]
      intro k hk
      rw [List.mem_range] at hk
      rw [hq k hk]; simp
    refine ⟨rangeI (pre.length : Int) b.length, ?_, ?_⟩
    · rw [h34, if_neg (by simp), ht, Nat.add_sub_cancel_left, haq]
      simp
    · rw [← bytes_range _ _ _ (by simp)]
      rw [← List.append_assoc, List.take_append_of_le_length (by simp), ← List.length_append, List.take_length, List.drop_left]
  | true =>
    have hp : put b = 34 :: (esc b ++ [34]) := by simp [put, hn]
    have hw : pre ++ (put b ++ rest) = (pre ++ [34]) ++ (esc b ++ 34 :: rest) := by rw [hp]; simp
    have h34 : at_ (pre ++ (put b ++ rest)) 34 pre.length = true := by
      unfold at_; rw [List.getElem?_append_right (Nat.le_refl _), hp]; simp
    obtain ⟨pl, g1, g2⟩ := rq_put rest hr b (pre ++ [34]) [] (pre ++ (put b ++ rest)).length (by rw [hw]; omega)
    rw [← hw] at g1 g2
    have hlen : (pre ++ [34] : List UInt8).length = pre.length + 1 := by simp
    rw [hlen] at g1
    refine ⟨pl, ?_, g2⟩
    have hlt : ¬ (pre ++ (put b ++ rest)).length ≤ pre.length + 1 + (esc b).length := by rw [hw]; simp; omega
    have he : mk (pre ++ (put b ++ rest)) (pre.length + 1 + (esc b).length + 1) = true := by
      have := ends_mk (pre := pre ++ put b) hr
      rw [List.append_assoc, List.length_append, hp] at this
      rw [hp]
      rw [show pre.length + 1 + (esc b).length + 1 = pre.length + (34 :: (esc b ++ [34])).length by simp; omega]
      exact this
    have ht := tl_is (pre ++ (put b ++ rest)) (pre.length + 1 + (esc b).length + 1) _ (Nat.le_refl _) he (fun k h1 h2 => by omega)
    rw [h34, if_pos rfl, g1, qEnd, if_neg hlt]
    simp only
    rw [ht, if_neg (by omega), Nat.sub_self]
    rw [hp]
    simp [rangeI]
    omega
theorem read_put (b rest : List UInt8) (hr : Ends rest) (hne : put b ++ rest = [] → b = []) : read (put b ++ rest) = (b, if needs b = true then 1 else 0) := by
  unfold read
  by_cases h : put b ++ rest = []
  · have := hne h
    subst this
    rw [if_pos h]; rfl
  · obtain ⟨pl, g1, g2⟩ := field_put [] b rest hr
    simp only [List.nil_append, List.length_nil] at g1 g2
    rw [if_neg h, g1, g2]
theorem put_nil {b : List UInt8} (h : put b = []) : b = [] := by
  unfold put at h
  split at h
  · cases h
  · exact h
theorem QuoteBack_holds (a0 a1 : List UInt8) (w0 : a0.length ≤ maxLen) (w1 : a1.length ≤ maxLen) : law06_QuoteBack a0 a1 = some true := by
  unfold law06_QuoteBack
  rw [show ((400 : Int)) = ((400 : Nat) : Int) from rfl, show ((100 : Int)) = ((100 : Nat) : Int) from rfl, cut6_eq, bnd_some']
  generalize hbb : a0.take 400 = b
  generalize hmm : a1.take 100 = m
  have hb : b.length ≤ 400 := by rw [← hbb]; simp; omega
  have hm : m.length ≤ 100 := by rw [← hmm]; simp; omega
  have hp := put_len b
  have r1 : read (put b) = (b, if needs b = true then 1 else 0) := by
    have := read_put b [] (.inl rfl) (by simpa using put_nil)
    simpa using this
  have r2 : read ((put b ++ [44]) ++ m) = (b, if needs b = true then 1 else 0) := by
    have := read_put b (44 :: m) (.inr ⟨44, m, rfl, rfl⟩) (by simp)
    simpa using this
  rw [put_eq b (by omega), bnd_some', read_eq _ (by omega), bnd_some', r1, catS, if_pos (by simp; omega), bnd_some', cut6_eq, hmm, bnd_some', catS, if_pos (by simp; omega), bnd_some', read_eq _ (by simp; omega), bnd_some', r2]
  have e : ∀ v : Bool, needs b = v → (bnd (scan_Fine (if needs b = true then 1 else 0)) fun x13 => if x13 = true then bnd (quote_Needs b) fun x15 => if (((if needs b = true then 1 else (0 : Int)) == 1) == x15) = true then bnd law06_awake fun x17 => some x17 else some false else some false) = some true := fun v hv => by
    rw [needs_eq b (by omega), hv]
    cases v with
    | false =>
      have hf : scan_Fine (if false = true then 1 else 0) = some true := rfl
      rw [hf, bnd_some', if_pos rfl, bnd_some', if_pos (by rfl), awake6_eq]; rfl
    | true =>
      have hf : scan_Fine (if true = true then 1 else 0) = some true := rfl
      rw [hf, bnd_some', if_pos rfl, bnd_some', if_pos (by rfl), awake6_eq]; rfl
  rw [if_pos (rfl : b = b), if_pos (rfl : b = b)]
  simp only [if_true]
  rw [e (needs b) rfl]
  rfl
end Go.Proofs.Ytkjcogmngoogcaa.S
