/- Chapter 6's files of joined rows, told plainly; the law QuoteRows. -/
import Derived.Test.YtkjcogmngoogcaaQuoF
set_option linter.unusedVariables false
namespace Go.Proofs.Ytkjcogmngoogcaa.S
open Go Go.Sm
def tlJ (t : List (List UInt8)) : List UInt8 := t.flatMap fun y => 44 :: put y
theorem jn_cons (x : List UInt8) (t : List (List UInt8)) : jn (x :: t) = put x ++ tlJ t := by
  induction t using snoc_ind with
  | nil => simp [jn, tlJ]
  | snoc t y ih =>
    rw [show x :: (t ++ [y]) = (x :: t) ++ [y] from rfl, jn_snoc, if_pos (by simp), ih]
    simp [tlJ]
theorem at_pre {pre rest : List UInt8} {m c : UInt8} {k : Nat} (hk : k = pre.length) : at_ (pre ++ m :: rest) c k = decide (m = c) := by
  subst hk
  unfold at_
  rw [List.getElem?_append_right (Nat.le_refl _), Nat.sub_self]
  by_cases h : m = c
  · subst h; simp
  · simp [h]
/-- A row's fields, where it stands. -/
theorem rowAt (w rest : List UInt8) (m : UInt8) (hm : isMark m = true) (h44 : m ≠ 44) : ∀ (t : List (List UInt8)) (x pre : List UInt8) (n : Nat), w = pre ++ (put x ++ (tlJ t ++ m :: rest)) → w.length ≤ pre.length + n →
    ∃ ps, fsF w n pre.length = (ps, pre.length + (put x ++ tlJ t).length) ∧ ps.map (fun p => bytesAt w (fieldF w p).2.1) = x :: t ∧ ∀ p ∈ ps, (fieldF w p).1 ≤ 1 := by
  intro t
  induction t with
  | nil =>
    intro x pre n hw hn
    have hw' : w = pre ++ (put x ++ m :: rest) := by rw [hw]; simp [tlJ]
    obtain ⟨pl, h1, h2⟩ := field_put pre x (m :: rest) (.inr ⟨m, rest, rfl, hm⟩)
    rw [← hw'] at h1 h2
    have hat : at_ w 44 (fe w pre.length) = false := by
      show at_ w 44 (fieldF w pre.length).2.2 = false
      rw [h1, hw', ← List.append_assoc, at_pre (by simp)]
      exact decide_eq_false h44
    refine ⟨[pre.length], ?_, ?_, ?_⟩
    · cases n with
      | zero => simp only [fsF, fe]; rw [h1]; simp [tlJ]
      | succ n => simp only [fsF]; rw [if_neg (by rw [hat]; exact Bool.false_ne_true)]; simp only [fe]; rw [h1]; simp [tlJ]
    · simp only [List.map_cons, List.map_nil]; rw [h1, h2]
    · intro p hp
      obtain rfl := List.mem_singleton.1 hp
      rw [h1]; simp only; split <;> omega
  | cons y t ih =>
    intro x pre n hw hn
    have hw' : w = pre ++ (put x ++ 44 :: (put y ++ (tlJ t ++ m :: rest))) := by rw [hw]; simp [tlJ]
    obtain ⟨pl, h1, h2⟩ := field_put pre x (44 :: (put y ++ (tlJ t ++ m :: rest))) (.inr ⟨44, _, rfl, by decide⟩)
    rw [← hw'] at h1 h2
    have hat : at_ w 44 (fe w pre.length) = true := by
      show at_ w 44 (fieldF w pre.length).2.2 = true
      rw [h1, hw', ← List.append_assoc, at_pre (by simp)]
      exact decide_eq_true rfl
    cases n with
    | zero => rw [hw'] at hn; simp at hn; omega
    | succ n =>
      have hl : (pre ++ put x ++ [44]).length = pre.length + (put x).length + 1 := by simp; omega
      obtain ⟨ps, g1, g2, g3⟩ := ih y (pre ++ put x ++ [44]) n (by rw [hw']; simp) (by rw [hl]; omega)
      rw [hl] at g1
      refine ⟨pre.length :: ps, ?_, ?_, ?_⟩
      · simp only [fsF]
        rw [if_pos hat]
        simp only [fe]
        rw [h1]
        simp only
        rw [g1]
        simp [tlJ]; omega
      · rw [List.map_cons, g2, h1, h2]
      · intro p hp
        rcases List.mem_cons.1 hp with rfl | hp
        · rw [h1]; simp only; split <;> omega
        · exact g3 p hp
def fileOf (W : List (List (List UInt8))) : List UInt8 := W.flatMap fun r => jn r ++ [13, 10]
theorem fileAt (w : List UInt8) (hb : w.length ≤ 1000000) : ∀ (W : List (List (List UInt8))) (pre : List UInt8) (n : Nat), w = pre ++ fileOf W → w.length ≤ pre.length + n → (∀ r ∈ W, r ≠ []) →
    (rsF w n pre.length).map (fun i => (fs w i).1.map fun p => bytesAt w (fieldF w p).2.1) = W ∧ (∀ i ∈ rsF w n pre.length, i ≤ w.length ∧ (endF w (fs w i).2).1 = 2) ∧ okR w n pre.length = true := by
  intro W
  induction W with
  | nil =>
    intro pre n hw hn _
    have hl : ¬ pre.length < w.length := by rw [hw]; simp [fileOf]
    cases n with
    | zero => exact ⟨rfl, by simp [rsF], rfl⟩
    | succ n => simp only [rsF, okR]; rw [if_neg hl, if_neg hl]; exact ⟨rfl, by simp, rfl⟩
  | cons r W ih =>
    intro pre n hw hn hW
    obtain ⟨x, t, rfl⟩ : ∃ x t, r = x :: t := by
      cases r with
      | nil => exact absurd rfl (hW [] (by simp))
      | cons x t => exact ⟨x, t, rfl⟩
    have hw1 : w = pre ++ (put x ++ (tlJ t ++ 13 :: (10 :: fileOf W))) := by rw [hw]; simp [fileOf, jn_cons]
    have hw2 : w = (pre ++ (put x ++ tlJ t)) ++ 13 :: (10 :: fileOf W) := by rw [hw1]; simp
    have hw3 : w = (pre ++ (put x ++ tlJ t) ++ [13]) ++ 10 :: fileOf W := by rw [hw1]; simp
    have hw4 : w = (pre ++ (put x ++ tlJ t) ++ [13, 10]) ++ fileOf W := by rw [hw1]; simp
    obtain ⟨ps, h1, h2, h3⟩ := rowAt w (10 :: fileOf W) 13 (by decide) (by decide) t x pre w.length hw1 (by omega)
    have hfs : fs w pre.length = (ps, pre.length + (put x ++ tlJ t).length) := h1
    have hlt : pre.length < w.length := by rw [hw1]; simp; omega
    have e1 : at_ w 10 (pre.length + (put x ++ tlJ t).length) = false := by
      rw [hw2, at_pre (by simp)]; decide
    have e2 : at_ w 13 (pre.length + (put x ++ tlJ t).length) = true := by
      rw [hw2, at_pre (by simp)]; decide
    have e3 : at_ w 10 (pre.length + (put x ++ tlJ t).length + 1) = true := by
      rw [hw3, at_pre (by simp; omega)]; decide
    have hend : endF w (fs w pre.length).2 = (2, pre.length + (put x ++ tlJ t).length + 2) := by
      rw [hfs]; unfold endF
      rw [if_neg (by rw [e1]; exact Bool.false_ne_true), if_pos e2, if_pos e3]
    have hl : (pre ++ (put x ++ tlJ t) ++ [13, 10]).length = pre.length + (put x ++ tlJ t).length + 2 := by simp; omega
    cases n with
    | zero => omega
    | succ n =>
      obtain ⟨g1, g2, g3⟩ := ih (pre ++ (put x ++ tlJ t) ++ [13, 10]) n hw4 (by rw [hl]; omega) (fun r hr => hW r (by simp [hr]))
      have hnx : nx w pre.length = (pre ++ (put x ++ tlJ t) ++ [13, 10]).length := by unfold nx; rw [hend, hl]
      simp only [rsF, okR]
      rw [if_pos hlt, if_pos hlt, hnx]
      refine ⟨?_, ?_, ?_⟩
      · rw [List.map_cons, g1, hfs, h2]
      · intro i hi
        rcases List.mem_cons.1 hi with rfl | hi
        · exact ⟨by omega, by rw [hend]⟩
        · exact g2 i hi
      · rw [g3]
        unfold fineRow
        rw [hend, hfs]
        simp only [Bool.and_true, beq_self_eq_true, Bool.true_or, List.all_eq_true, decide_eq_true_eq]
        exact h3
/-- The rows of texts that count. -/
def tx (r : List (List UInt8)) : List (List UInt8) := (r.take 12).map (List.take 60)
def rowsOf (l : List (List (List UInt8))) : List (List (List UInt8)) := ((l.take 5).map tx).filter fun r => !r.isEmpty
theorem rowsOf_ge (l : List (List (List UInt8))) (x : List (List UInt8)) (h : 5 ≤ l.length) : rowsOf (l ++ [x]) = rowsOf l := by
  unfold rowsOf; rw [List.take_append_of_le_length h]
theorem rowsOf_lt (l : List (List (List UInt8))) (x : List (List UInt8)) (h : l.length < 5) : rowsOf (l ++ [x]) = if tx x = [] then rowsOf l else rowsOf l ++ [tx x] := by
  unfold rowsOf
  rw [List.take_of_length_le (by simp; omega), List.take_of_length_le (by omega), List.map_append, List.filter_append]
  by_cases hx : tx x = []
  · rw [if_pos hx]; simp [hx]
  · rw [if_neg hx]
    have : (tx x).isEmpty = false := by simpa using hx
    simp [this]
theorem rowsOf_small (l : List (List (List UInt8))) : (rowsOf l).length ≤ 5 ∧ ∀ r ∈ rowsOf l, r ≠ [] ∧ r.length ≤ 12 ∧ ∀ x ∈ r, x.length ≤ 60 := by
  refine ⟨Nat.le_trans (List.length_filter_le _ _) (by simp; omega), fun r hr => ?_⟩
  obtain ⟨h1, h2⟩ := List.mem_filter.1 hr
  obtain ⟨y, _, rfl⟩ := List.mem_map.1 h1
  refine ⟨by intro h; rw [h] at h2; simp at h2, by simp [tx]; omega, fun x hx => ?_⟩
  obtain ⟨z, _, rfl⟩ := List.mem_map.1 hx
  simp; omega
theorem fileOf_len : ∀ (W : List (List (List UInt8))), (∀ r ∈ W, r.length ≤ 12 ∧ ∀ x ∈ r, x.length ≤ 60) → (fileOf W).length ≤ 1480 * W.length
  | [], _ => by simp [fileOf]
  | r :: W, h => by
    have h1 := fileOf_len W (fun r hr => h r (by simp [hr]))
    have h2 := jn_len r (h r (by simp)).2
    have h3 := (h r (by simp)).1
    have : fileOf (r :: W) = jn r ++ [13, 10] ++ fileOf W := by simp [fileOf]
    rw [this]
    simp only [List.length_append, List.length_cons, List.length_nil]; omega
theorem rows_loop (a : List (List (List UInt8))) (ha : a.length ≤ maxLen) (he : ∀ r ∈ a, r.length ≤ maxLen) : loop (law06_QuoteRows.l1 a) ([], 0, []) = some (fileOf (rowsOf a), rowsOf a) := by
  simp only [maxLen] at ha
  refine loop_fold (f := law06_QuoteRows.l1 a) (fun i (s : List UInt8 × List (List (List UInt8))) => (s.1, i, s.2)) a (fun pre => (fileOf (rowsOf pre), rowsOf pre)) (fun pre x suf hs => ?_) ?_
  · have hpl : pre.length + 1 ≤ a.length := by rw [hs]; simp
    have hx : x.length ≤ maxLen := he x (by rw [hs]; simp)
    obtain ⟨l, k1, k2⟩ := texts_eq x hx
    obtain ⟨k3, k4⟩ := texts_small k2
    have k2' : l = tx x := k2
    obtain ⟨s1, s2⟩ := rowsOf_small pre
    have s3 := fileOf_len (rowsOf pre) (fun r hr => (s2 r hr).2)
    have hj := jn_len l k4
    unfold law06_QuoteRows.l1
    simp only
    rw [if_pos (by omega), show idx a (pre.length : Int) = some x by rw [hs]; exact idx_at pre x suf, bnd_some', k1, bnd_some', w64_id ⟨by omega, by omega⟩]
    by_cases c : pre.length < 5
    · rw [if_neg (by omega), bnd_some']
      by_cases c0 : l = []
      · rw [if_pos (by simp [c0]), bnd_some', rowsOf_lt pre x c, if_pos (by rw [← k2', c0])]
      · have c1 : ((l.length : Int) == 0) = false := by
          have : l.length ≠ 0 := fun h => c0 (List.length_eq_zero_iff.1 h)
          exact beq_eq_false_iff_ne.2 (by omega)
        rw [if_neg (by simp only; rw [c1]; exact Bool.false_ne_true)]
        rw [join_eq6 l k4 (by omega), bnd_some']
        rw [catS, if_pos (by omega), bnd_some', catS, if_pos (by simp; omega), bnd_some', app_of (by simp; omega), bnd_some', bnd_some', rowsOf_lt pre x c, if_neg (by rw [← k2']; exact c0), ← k2']
        simp [fileOf]
    · rw [if_pos (by omega), bnd_some', if_pos rfl, bnd_some', rowsOf_ge pre x (by omega)]
  · unfold law06_QuoteRows.l1
    simp only
    rw [if_neg (by omega)]
theorem QuoteRows_holds (a0 : List (List (List UInt8))) (w0 : a0.length ≤ maxLen ∧ ∀ r ∈ a0, r.length ≤ maxLen ∧ ∀ x ∈ r, x.length ≤ maxLen) : law06_QuoteRows a0 = some true := by
  unfold law06_QuoteRows
  rw [rows_loop a0 w0.1 (fun r hr => (w0.2 r hr).1), bnd_some']
  obtain ⟨s1, s2⟩ := rowsOf_small a0
  have s3 := fileOf_len (rowsOf a0) (fun r hr => (s2 r hr).2)
  generalize hW : rowsOf a0 = W at s1 s2 s3
  generalize hw : fileOf W = w at s3
  dsimp only
  have hb : w.length ≤ 1000000 := by omega
  obtain ⟨g1, g2, g3⟩ := fileAt w hb W [] w.length (by simp [hw]) (by simp) (fun r hr => (s2 r hr).1)
  rw [show ([] : List UInt8).length = 0 from rfl] at g1 g2 g3
  rw [show rsF w w.length 0 = rs w from rfl] at g1 g2
  rw [sAll_eq w hb, bnd_some']
  have hlen : (rs w).length = W.length := by rw [← g1]; simp
  rw [if_pos (by simp [hlen]), right_eq w hb, bnd_some']
  have hacc := accept_ok w hb w.length 0 (by omega) (by omega)
  rw [show seg w 0 w.length = w by simp [seg], show run 0 w = auto w from rfl, g3] at hacc
  rw [hacc, bnd_some', if_neg (by simp)]
  have hfin : ∃ t, loop (law06_QuoteRows.l3 (w, W) ((rs w).map (sRow w))) 0 = some t ∧ (match t with | .brk _ => True | .ret _ => False) := by
    refine loop_for (f := law06_QuoteRows.l3 (w, W) ((rs w).map (sRow w))) (σ := Unit) (fun k _ => k) (rs w) (fun _ _ => True) _ (fun pre i suf _ hs _ => ?_) (fun _ _ => ?_) (s0 := ()) trivial
    · have hpl : pre.length + 1 ≤ (rs w).length := by rw [hs]; simp
      obtain ⟨i1, i2⟩ := g2 i (by rw [hs]; simp)
      have hWi : W[pre.length]? = some ((fs w i).1.map fun p => bytesAt w (fieldF w p).2.1) := by
        rw [← g1, hs]; simp
      obtain ⟨st1, st2⟩ := starts_spec w hb i i1
      have hin : ∃ t, loop (law06_QuoteRows.l2 (w, W) (pre.length : Int) (sRow w i)) 0 = some t ∧ (match t with | .brk _ => True | .ret _ => False) := by
        refine loop_for (f := law06_QuoteRows.l2 (w, W) (pre.length : Int) (sRow w i)) (σ := Unit) (fun k _ => k) (fs w i).1 (fun _ _ => True) _ (fun pre2 p suf2 _ hs2 _ => ?_) (fun _ _ => ?_) (s0 := ()) trivial
        · have hpl2 : pre2.length + 1 ≤ (fs w i).1.length := by rw [hs2]; simp
          refine .inl ⟨(), ?_, trivial⟩
          unfold law06_QuoteRows.l2
          rw [show (sRow w i).fFields = (fs w i).1.map (sField w) from rfl, if_pos (by simp; omega), idx_map, show idx (fs w i).1 (pre2.length : Int) = some p by rw [hs2]; exact idx_at pre2 p suf2]
          simp only [Option.map_some, bnd_some']
          rw [value_eq w hb p (st1 p (by rw [hs2]; simp)), bnd_some', idx_nat hWi, bnd_some', idx_map, show idx (fs w i).1 (pre2.length : Int) = some p by rw [hs2]; exact idx_at pre2 p suf2]
          simp only [Option.map_some, bnd_some']
          rw [if_pos trivial, w64_id ⟨by omega, by omega⟩]
        · refine ⟨Ex.brk (), ?_, trivial⟩
          unfold law06_QuoteRows.l2
          rw [show (sRow w i).fFields = (fs w i).1.map (sField w) from rfl, if_neg (by simp)]
      obtain ⟨t, t1, t2⟩ := hin
      cases t with
      | ret v => exact t2.elim
      | brk u =>
        refine .inl ⟨(), ?_, trivial⟩
        have hend : (sRow w i).fEnd = 2 := i2
        unfold law06_QuoteRows.l3
        rw [if_pos (by simp; omega), idx_map, show idx (rs w) (pre.length : Int) = some i by rw [hs]; exact idx_at pre i suf]
        simp only [Option.map_some, bnd_some']
        rw [idx_nat hWi, bnd_some', show (sRow w i).fFields = (fs w i).1.map (sField w) from rfl, if_pos (by simp), hend, bnd_some', if_neg (by decide), t1, bnd_some']
        simp only
        rw [w64_id ⟨by omega, by omega⟩]
    · refine ⟨Ex.brk (), ?_, trivial⟩
      unfold law06_QuoteRows.l3
      rw [if_neg (by simp)]
  obtain ⟨t, t1, t2⟩ := hfin
  rw [t1, bnd_some']
  cases t with
  | ret v => exact t2.elim
  | brk u => simp only; rw [awake6_eq]; rfl
end Go.Proofs.Ytkjcogmngoogcaa.S
