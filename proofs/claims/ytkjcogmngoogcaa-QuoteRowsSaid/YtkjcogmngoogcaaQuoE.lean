/- Chapter 6's right files, told plainly: the automaton behind fields, rows, files; the law QuoteRight. -/
import Derived.Test.YtkjcogmngoogcaaQuoD
set_option linter.unusedVariables false
namespace Go.Proofs.Ytkjcogmngoogcaa.S
open Go Go.Sm
theorem field_run (w : List UInt8) (hb : w.length ≤ 1000000) (i : Nat) (hi : i ≤ w.length) :
    ((fieldF w i).1 = 0 ∧ run 0 (seg w i (fe w i)) = (if fe w i = i then 0 else 1)) ∨ ((fieldF w i).1 = 1 ∧ run 0 (seg w i (fe w i)) = 3) ∨ (((fieldF w i).1 = 2 ∨ (fieldF w i).1 = 3) ∧ run 0 (seg w i (fe w i)) = 5) ∨ ((fieldF w i).1 = 4 ∧ run 0 (seg w i (fe w i)) = 2 ∧ fe w i = w.length) := by
  unfold fe
  unfold fieldF
  cases hq : at_ w 34 i with
  | false =>
    simp only [Bool.false_eq_true, if_false]
    obtain ⟨t1, t2, t3, t4⟩ := tl_spec w i
    have hr := bare_run w i hq (tl w i - i) (fun k h1 h2 => t3 k h1 (by omega))
    rw [show i + (tl w i - i) = tl w i by omega] at hr
    rw [hr]
    by_cases h0 : tl w i - i = 0
    · have : tl w i = i := by omega
      rw [h0, this]
      exact .inl ⟨rfl, by rw [if_pos rfl, if_pos rfl]⟩
    · cases haq : aq w i (tl w i - i) with
      | false => exact .inl ⟨rfl, by rw [if_neg h0, if_neg (by simp), if_neg (by omega)]⟩
      | true => exact .inr (.inr (.inl ⟨.inl rfl, by rw [if_neg h0, if_pos rfl]⟩))
  | true =>
    simp only [if_true]
    have hlt := at_in hq
    obtain ⟨g1, g2, g3, g4, g5⟩ := rq_spec w w.length (i + 1) [] (by omega) (by omega) (by simp) (by simp)
    obtain ⟨q1, q2⟩ := rq_run w w.length (i + 1) [] (by omega) (by omega)
    generalize rq w w.length (i + 1) [] = r at *
    have hr1 : run 0 (seg w i r.1) = 2 := by
      rw [seg_split w (j := i + 1) (by omega) g1 g2, run_append, seg_succ w (Nat.le_refl _) (at_get hq), seg_self, List.nil_append, run_one, show stepN 0 34 = 2 by decide, q1]
    unfold qEnd
    by_cases d : w.length ≤ r.1
    · rw [if_pos d]
      exact .inr (.inr (.inr ⟨rfl, hr1, by show r.1 = w.length; omega⟩))
    · rw [if_neg d]
      have hlt1 : r.1 < w.length := by omega
      have h34 := g5 hlt1
      have hn34 := q2 hlt1
      obtain ⟨t1, t2, t3, t4⟩ := tl_spec w (r.1 + 1)
      have t4' := t4 (by omega)
      have hr2 : run 0 (seg w i (r.1 + 1)) = 3 := by
        rw [seg_succ w (by omega) (at_get h34), run_append, hr1, run_one]; decide
      simp only
      by_cases c : r.1 + 1 < tl w (r.1 + 1)
      · rw [if_pos c]
        refine .inr (.inr (.inl ⟨.inr rfl, ?_⟩))
        obtain ⟨x, hx, hxm⟩ := mk_get (t3 (r.1 + 1) (Nat.le_refl _) c)
        have hx34 : x ≠ 34 := by
          intro e; subst e
          have : at_ w 34 (r.1 + 1) = true := by unfold at_; rw [hx]; rfl
          rw [hn34] at this; cases this
        rw [seg_split w (j := r.1 + 2) (by omega) (by omega) t4', run_append, show r.1 + 2 = (r.1 + 1) + 1 from rfl, seg_succ w (by omega) hx, run_append, hr2, run_one, show stepN 3 x = 5 by simp [stepN, cls_letter hxm hx34], run5]
      · have : tl w (r.1 + 1) = r.1 + 1 := by omega
        rw [if_neg c, this]
        exact .inr (.inl ⟨rfl, hr2⟩)
theorem rowRun (w : List UInt8) (hb : w.length ≤ 1000000) : ∀ n j, w.length ≤ j + n → j ≤ w.length →
    ((∀ x ∈ (fsF w n j).1, (fieldF w x).1 ≤ 1) ∧ (run 0 (seg w j (fsF w n j).2) = 0 ∨ run 0 (seg w j (fsF w n j).2) = 1 ∨ run 0 (seg w j (fsF w n j).2) = 3)) ∨
    ((∃ x ∈ (fsF w n j).1, 1 < (fieldF w x).1) ∧ (run 0 (seg w j (fsF w n j).2) = 5 ∨ (run 0 (seg w j (fsF w n j).2) = 2 ∧ (fsF w n j).2 = w.length))) := by
  have one : ∀ j, j ≤ w.length → ((fieldF w j).1 ≤ 1 ∧ (run 0 (seg w j (fe w j)) = 0 ∨ run 0 (seg w j (fe w j)) = 1 ∨ run 0 (seg w j (fe w j)) = 3)) ∨ (1 < (fieldF w j).1 ∧ (run 0 (seg w j (fe w j)) = 5 ∨ (run 0 (seg w j (fe w j)) = 2 ∧ fe w j = w.length))) := fun j hj => by
    rcases field_run w hb j hj with ⟨h1, h2⟩ | ⟨h1, h2⟩ | ⟨h1, h2⟩ | ⟨h1, h2, h3⟩
    · refine .inl ⟨by omega, ?_⟩
      rw [h2]; split <;> simp
    · exact .inl ⟨by omega, .inr (.inr h2)⟩
    · exact .inr ⟨by rcases h1 with h | h <;> omega, .inl h2⟩
    · exact .inr ⟨by omega, .inr ⟨h2, h3⟩⟩
  intro n
  induction n with
  | zero =>
    intro j h hj
    simp only [fsF]
    rcases one j hj with ⟨h1, h2⟩ | ⟨h1, h2⟩
    · exact .inl ⟨by simpa using h1, h2⟩
    · exact .inr ⟨by simpa using h1, h2⟩
  | succ n ih =>
    intro j h hj
    obtain ⟨s1, s2, s3, s4, s5⟩ := fieldF_spec w hb j hj
    have h0 : j ≤ fe w j := s1
    simp only [fsF]
    by_cases c : at_ w 44 (fe w j) = true
    · have hlt := at_in c
      simp only [if_pos c]
      obtain ⟨f1, f2, f3, f4, f5, f6⟩ := fsF_spec w hb n (fe w j + 1) (by omega) (by omega)
      have hsplit : run 0 (seg w j (fsF w n (fe w j + 1)).2) = run (stepN (run 0 (seg w j (fe w j))) 44) (seg w (fe w j + 1) (fsF w n (fe w j + 1)).2) := by
        rw [seg_split w (j := fe w j + 1) (by omega) f1 f2, run_append, seg_succ w h0 (at_get c), run_append, run_one]
      rw [hsplit]
      rcases one j hj with ⟨h1, h2⟩ | ⟨h1, h2⟩
      · have hz : stepN (run 0 (seg w j (fe w j))) 44 = 0 := by rcases h2 with h | h | h <;> rw [h] <;> decide
        rw [hz]
        rcases ih (fe w j + 1) (by omega) (by omega) with ⟨g1, g2⟩ | ⟨⟨x, g1, g1'⟩, g2⟩
        · exact .inl ⟨fun x hx => by rcases List.mem_cons.1 hx with rfl | hx
                                     · exact h1
                                     · exact g1 x hx, g2⟩
        · exact .inr ⟨⟨x, List.mem_cons_of_mem _ g1, g1'⟩, g2⟩
      · have hz : run 0 (seg w j (fe w j)) = 5 := by
          rcases h2 with h | ⟨_, h⟩
          · exact h
          · omega
        rw [hz, show stepN 5 44 = 5 by decide, run5]
        exact .inr ⟨⟨j, List.mem_cons_self, h1⟩, .inl rfl⟩
    · simp only [if_neg c]
      rcases one j hj with ⟨h1, h2⟩ | ⟨h1, h2⟩
      · exact .inl ⟨by simpa using h1, h2⟩
      · exact .inr ⟨by simpa using h1, h2⟩
def fineRow (w : List UInt8) (i : Nat) : Bool := (fs w i).1.all (fun x => decide ((fieldF w x).1 ≤ 1)) && ((endF w (fs w i).2).1 == 2 || (endF w (fs w i).2).1 == 0)
def okR (w : List UInt8) : Nat → Nat → Bool
  | 0, _ => true
  | n + 1, i => if i < w.length then fineRow w i && okR w n (nx w i) else true
theorem okR_end (w : List UInt8) (n : Nat) : okR w n w.length = true := by
  cases n with
  | zero => rfl
  | succ n => simp [okR]
theorem cls4 {x : UInt8} (h : x ≠ 10) : cls x ≠ 4 := by
  unfold cls
  by_cases c1 : x = 44
  · simp [c1]
  · by_cases c2 : x = 34
    · simp [c2]
    · by_cases c3 : x = 13
      · simp [c3]
      · simp [c1, c2, c3, h]
theorem accept_ok (w : List UInt8) (hb : w.length ≤ 1000000) : ∀ n i, w.length ≤ i + n → i ≤ w.length → accept (run 0 (seg w i w.length)) = okR w n i := by
  intro n
  induction n with
  | zero =>
    intro i h hi
    have : i = w.length := by omega
    subst this
    rw [seg_self]; rfl
  | succ n ih =>
    intro i h hi
    simp only [okR]
    by_cases hlt : i < w.length
    · rw [if_pos hlt]
      obtain ⟨f1, f2, f3, f4, f5, f6⟩ := fsF_spec w hb w.length i (by omega) hi
      obtain ⟨n1, n2⟩ := nx_lt w hb i hlt
      have hrow := rowRun w hb w.length i (by omega) hi
      rw [show fsF w w.length i = fs w i from rfl] at f1 f2 f3 f4 f5 f6 hrow
      have hsp : ∀ j, (fs w i).2 ≤ j → j ≤ w.length → run 0 (seg w i j) = run (run 0 (seg w i (fs w i).2)) (seg w (fs w i).2 j) := fun j h1 h2 => by rw [seg_split w f1 h1 h2, run_append]
      rcases hrow with ⟨hfine, hs⟩ | ⟨⟨x, hx, hx'⟩, hs⟩
      · have hall : (fs w i).1.all (fun x => decide ((fieldF w x).1 ≤ 1)) = true := by
          rw [List.all_eq_true]; intro x hx; exact decide_eq_true (hfine x hx)
        unfold fineRow nx
        rw [hall, Bool.true_and, hsp _ f2 (Nat.le_refl _)]
        unfold nx at n1 n2
        generalize (fs w i).2 = E at *
        generalize run 0 (seg w i E) = s at *
        by_cases c1 : at_ w 10 E = true
        · have hE := at_in c1
          have he : endF w E = (1, E + 1) := by unfold endF; rw [if_pos c1]
          rw [he, seg_split w (j := E + 1) (by omega) (by omega) (Nat.le_refl _), seg_succ w (Nat.le_refl _) (at_get c1), seg_self, List.nil_append, run_append, run_one]
          have : stepN s 10 = 5 := by rcases hs with h | h | h <;> rw [h] <;> decide
          rw [this, run5]; rfl
        · by_cases c2 : at_ w 13 E = true
          · have hE := at_in c2
            have h4 : stepN s 13 = 4 := by rcases hs with h | h | h <;> rw [h] <;> decide
            have hsg : seg w E (E + 1) = [13] := by rw [seg_succ w (Nat.le_refl _) (at_get c2), seg_self]; rfl
            by_cases c3 : at_ w 10 (E + 1) = true
            · have hE2 := at_in c3
              have he : endF w E = (2, E + 2) := by unfold endF; rw [if_neg c1, if_pos c2, if_pos c3]
              rw [he] at n2 ⊢
              have hsg2 : seg w E (E + 2) = [13, 10] := by rw [show E + 2 = (E + 1) + 1 from rfl, seg_succ w (by omega) (at_get c3), hsg]; rfl
              rw [seg_split w (j := E + 2) (by omega) (by omega) (Nat.le_refl _), hsg2, run_append]
              have : run s [13, 10] = 0 := by show stepN (stepN s 13) 10 = 0; rw [h4]; decide
              rw [this]
              have := ih (E + 2) (by omega) (by omega)
              rw [this]; rfl
            · have he : endF w E = (3, E + 1) := by unfold endF; rw [if_neg c1, if_pos c2, if_neg c3]
              rw [he, seg_split w (j := E + 1) (by omega) (by omega) (Nat.le_refl _), hsg, run_append, run_one, h4]
              rcases Nat.lt_or_ge (E + 1) w.length with hl | hl
              · obtain ⟨x, hx⟩ : ∃ x, w[E + 1]? = some x := ⟨_, List.getElem?_eq_getElem hl⟩
                have hx10 : x ≠ 10 := by
                  intro e; subst e
                  exact c3 (by unfold at_; rw [hx]; rfl)
                rw [seg_split w (j := E + 2) (by omega) (by omega) (Nat.le_refl _), show E + 2 = (E + 1) + 1 from rfl, seg_succ w (Nat.le_refl _) hx, seg_self, List.nil_append, run_append, run_one]
                have : stepN 4 x = 5 := by simp [stepN, cls4 hx10]
                rw [this, run5]; rfl
              · have : E + 1 = w.length := by omega
                rw [← this, seg_self]; rfl
          · have he : endF w E = (0, E) := by unfold endF; rw [if_neg c1, if_neg c2]
            have hEl : E = w.length := by
              rcases Nat.lt_or_ge E w.length with hl | hl
              · obtain ⟨_, _, g3⟩ := endF_spec w E f2
                have := g3 f3 f4 hl
                rw [he] at this
                simp at this
              · omega
            rw [he, hEl, seg_self, okR_end]
            rcases hs with h | h | h <;> rw [h] <;> rfl
      · have hall : (fs w i).1.all (fun x => decide ((fieldF w x).1 ≤ 1)) = false := by
          rw [List.all_eq_false]
          exact ⟨x, hx, by simpa using hx'⟩
        unfold fineRow
        rw [hall, Bool.false_and, Bool.false_and, hsp _ f2 (Nat.le_refl _)]
        rcases hs with h | ⟨h, h'⟩
        · rw [h, run5]; rfl
        · rw [h, h', seg_self]; rfl
    · have : i = w.length := by omega
      subst this
      rw [if_neg hlt, seg_self]; rfl
end Go.Proofs.Ytkjcogmngoogcaa.S
