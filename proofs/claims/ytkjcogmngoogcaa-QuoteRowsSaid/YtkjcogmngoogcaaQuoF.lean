/- Chapter 6's right files, told plainly: the document's answer, rows of texts; the law QuoteRight. -/
import Derived.Test.YtkjcogmngoogcaaQuoE
set_option linter.unusedVariables false
namespace Go.Proofs.Ytkjcogmngoogcaa.S
open Go Go.Sm
theorem kindsLoop (w : List UInt8) (hb : w.length ≤ 1000000) (i : Nat) (hi : i ≤ w.length) : ∃ t, loop (ref06_Right.l1 (rRow w i)) 0 = some t ∧ (match t with | .brk _ => (fs w i).1.all (fun x => decide ((fieldF w x).1 ≤ 1)) = true | .ret v => v = false ∧ (fs w i).1.all (fun x => decide ((fieldF w x).1 ≤ 1)) = false) := by
  obtain ⟨h1, h2⟩ := starts_spec w hb i hi
  refine loop_for (f := ref06_Right.l1 (rRow w i)) (σ := Unit) (fun k _ => k) (fs w i).1 (fun pre _ => pre.all (fun x => decide ((fieldF w x).1 ≤ 1)) = true) _ (fun pre j suf _ hs hI => ?_) (fun _ hI => ?_) (s0 := ()) rfl
  · have hpl : pre.length + 1 ≤ (fs w i).1.length := by rw [hs]; simp
    unfold ref06_Right.l1
    rw [show (rRow w i).fFields = (fs w i).1.map (rField w) from rfl, if_pos (by simp; omega), idx_map, show idx (fs w i).1 (pre.length : Int) = some j by rw [hs]; exact idx_at pre j suf]
    simp only [Option.map_some, bnd_some']
    rw [show (rField w j).fKind = (fieldF w j).1 from rfl]
    by_cases c : (fieldF w j).1 > 1
    · rw [if_pos c]
      refine .inr ⟨_, rfl, rfl, ?_⟩
      rw [List.all_eq_false]
      exact ⟨j, by rw [hs]; simp, by simpa using c⟩
    · rw [if_neg c, w64_id ⟨by omega, by omega⟩]
      refine .inl ⟨(), rfl, ?_⟩
      rw [List.all_append, hI]
      simp; omega
  · refine ⟨Ex.brk (), ?_, hI⟩
    unfold ref06_Right.l1
    rw [show (rRow w i).fFields = (fs w i).1.map (rField w) from rfl, if_neg (by simp)]
theorem refRightLoop (w : List UInt8) (hb : w.length ≤ 1000000) (R : List ref05_Row) : ∀ n i (pre : List Nat), w.length ≤ i + n → i ≤ w.length → R = (pre ++ rsF w n i).map (rRow w) → pre.length ≤ i →
    ∃ t, loop (ref06_Right.l2 R) (pre.length : Int) = some t ∧ (match t with | .brk _ => okR w n i = true | .ret v => v = false ∧ okR w n i = false) := by
  have stop : ∀ (L : List Nat), R = L.map (rRow w) → ref06_Right.l2 R (L.length : Int) = some (.done (Ex.brk ())) := fun L hR => by
    unfold ref06_Right.l2
    rw [hR, if_neg (by simp)]
  intro n
  induction n with
  | zero =>
    intro i pre h hi hR hpl
    exact ⟨_, loop_done (stop pre (by simpa [rsF] using hR)), rfl⟩
  | succ n ih =>
    intro i pre h hi hR hpl
    simp only [rsF] at hR
    simp only [okR]
    by_cases c : i < w.length
    · simp only [if_pos c] at hR ⊢
      obtain ⟨n1, n2⟩ := nx_lt w hb i c
      obtain ⟨f1, f2, f3, f4, f5, f6⟩ := fsF_spec w hb w.length i (by omega) hi
      rw [show fsF w w.length i = fs w i from rfl] at f1 f2 f3 f4
      have hget : idx R (pre.length : Int) = some (rRow w i) := by rw [hR, idx_map, idx_at]; rfl
      have hlen : R.length = pre.length + 1 + (rsF w n (nx w i)).length := by rw [hR]; simp; omega
      have hrl := (rsF_spec w hb n (nx w i) n2).2
      have hlastE : (endF w (fs w i).2).1 = 0 → rsF w n (nx w i) = [] := fun h0 => by
        have hx : (endF w (fs w i).2).2 = (fs w i).2 := by
          unfold endF at h0 ⊢
          by_cases c1 : at_ w 10 (fs w i).2 = true
          · rw [if_pos c1] at h0; cases h0
          · by_cases c2 : at_ w 13 (fs w i).2 = true
            · rw [if_neg c1, if_pos c2] at h0; split at h0 <;> cases h0
            · rw [if_neg c1, if_neg c2]
        have hEl : (fs w i).2 = w.length := by
          rcases Nat.lt_or_ge (fs w i).2 w.length with hl | hl
          · obtain ⟨_, _, g3⟩ := endF_spec w (fs w i).2 f2
            have := g3 f3 f4 hl
            omega
          · omega
        have : nx w i = w.length := by unfold nx; rw [hx, hEl]
        rw [this]
        cases n with
        | zero => rfl
        | succ n => simp [rsF]
      have hbound : (pre.length : Int) + 1 ≤ 9223372036854775807 := by omega
      have ht : (if (rRow w i).fEnd = 2 then some false else if (rRow w i).fEnd = 0 then some (decide ((pre.length : Int) < (w64 ((R.length : Int) - 1)))) else some true : Option Bool) = some (!((endF w (fs w i).2).1 == 2 || (endF w (fs w i).2).1 == 0)) := by
        rw [show (rRow w i).fEnd = (endF w (fs w i).2).1 from rfl]
        by_cases e2 : (endF w (fs w i).2).1 = 2
        · rw [if_pos e2, e2]; rfl
        · by_cases e0 : (endF w (fs w i).2).1 = 0
          · rw [if_neg e2, if_pos e0, e0]
            have hz := hlastE e0
            rw [hz] at hlen
            simp only [List.length_nil] at hlen
            rw [hlen, w64_id ⟨by omega, by omega⟩, decide_eq_false (by omega)]; rfl
          · rw [if_neg e2, if_neg e0]
            have h2 : ((endF w (fs w i).2).1 == 2) = false := by simpa using e2
            have h0 : ((endF w (fs w i).2).1 == 0) = false := by simpa using e0
            rw [h2, h0]; rfl
      obtain ⟨t, k1, k2⟩ := kindsLoop w hb i hi
      unfold fineRow
      cases hend : ((endF w (fs w i).2).1 == 2 || (endF w (fs w i).2).1 == 0) with
      | false =>
        refine ⟨_, loop_done (t := Ex.ret false) ?_, rfl, by simp⟩
        unfold ref06_Right.l2
        rw [if_pos (by omega), hget, bnd_some', ht, bnd_some', hend, if_pos (by rfl)]
      | true =>
        cases t with
        | ret v =>
          obtain ⟨rfl, k2⟩ := k2
          refine ⟨_, loop_done (t := Ex.ret false) ?_, rfl, by rw [k2]; rfl⟩
          unfold ref06_Right.l2
          rw [if_pos (by omega), hget, bnd_some', ht, bnd_some', hend, if_neg (by simp), k1, bnd_some']
        | brk u =>
          have k2' : (fs w i).1.all (fun x => decide ((fieldF w x).1 ≤ 1)) = true := k2
          obtain ⟨t', g1, g2⟩ := ih (nx w i) (pre ++ [i]) (by omega) n2 (by simpa using hR) (by simp; omega)
          refine ⟨t', loop_next (s' := (pre.length : Int) + 1) ?_ (by simpa using g1), ?_⟩
          · unfold ref06_Right.l2
            rw [if_pos (by omega), hget, bnd_some', ht, bnd_some', hend, if_neg (by simp), k1, bnd_some']
            simp only
            rw [w64_id ⟨by omega, by omega⟩]
          · rw [k2']
            simpa using g2
    · simp only [if_neg c] at hR ⊢
      exact ⟨_, loop_done (stop pre (by simpa using hR)), trivial⟩
theorem refRight_eq (w : List UInt8) (hb : w.length ≤ 1000000) : ref06_Right w = some (accept (auto w)) := by
  unfold ref06_Right
  rw [rAll_eq w hb, bnd_some']
  obtain ⟨t, g1, g2⟩ := refRightLoop w hb ((rs w).map (rRow w)) w.length 0 [] (by omega) (by omega) rfl (by simp)
  have hacc := accept_ok w hb w.length 0 (by omega) (by omega)
  rw [show seg w 0 w.length = w by simp [seg], show run 0 w = auto w from rfl] at hacc
  rw [show (([] : List Nat).length : Int) = 0 from rfl] at g1
  rw [g1, bnd_some', hacc]
  cases t with
  | brk u => simp only at g2 ⊢; rw [g2]
  | ret v => simp only at g2 ⊢; rw [g2.1, g2.2]
/-- Texts as a row. -/
def jn (l : List (List UInt8)) : List UInt8 := (l.foldl (fun (s : Nat × List UInt8) x => (s.1 + 1, (if s.1 > 0 then s.2 ++ [44] else s.2) ++ put x)) (0, [])).2
theorem jn_pair (l : List (List UInt8)) : l.foldl (fun (s : Nat × List UInt8) x => (s.1 + 1, (if s.1 > 0 then s.2 ++ [44] else s.2) ++ put x)) (0, []) = (l.length, jn l) := by
  induction l using snoc_ind with
  | nil => rfl
  | snoc l x ih => unfold jn; rw [List.foldl_append, ih]; simp
theorem jn_snoc (l : List (List UInt8)) (x : List UInt8) : jn (l ++ [x]) = (if l.length > 0 then jn l ++ [44] else jn l) ++ put x := by
  rw [show jn (l ++ [x]) = ((l ++ [x]).foldl (fun (s : Nat × List UInt8) x => (s.1 + 1, (if s.1 > 0 then s.2 ++ [44] else s.2) ++ put x)) (0, [])).2 from rfl, List.foldl_append, jn_pair]; rfl
theorem jn_len (l : List (List UInt8)) (h : ∀ x ∈ l, x.length ≤ 60) : (jn l).length ≤ 123 * l.length := by
  induction l using snoc_ind with
  | nil => simp [jn]
  | snoc l x ih =>
    have h1 := ih (fun y hy => h y (by simp [hy]))
    have h2 := put_len x
    have h3 := h x (by simp)
    rw [jn_snoc]
    simp only [List.length_append, List.length_cons, List.length_nil]
    split
    · simp only [List.length_append, List.length_cons, List.length_nil]; omega
    · omega
theorem join_eq6 (l : List (List UInt8)) (h : ∀ x ∈ l, x.length ≤ 60) (hl : l.length ≤ 1000) : quote_Join l = some (jn l) := by
  have hh := loop_fold (f := quote_Join.l1 l) (fun i (s : List UInt8) => (i, s)) l (fun pre => jn pre) (t := jn l)
    (fun pre x suf hs => by
      have hpl : pre.length + 1 ≤ l.length := by rw [hs]; simp
      have hx := h x (by rw [hs]; simp)
      have hj := jn_len pre (fun y hy => h y (by rw [hs]; simp [hy]))
      have hp := put_len x
      unfold quote_Join.l1
      simp only
      rw [if_pos (by omega), show idx l (pre.length : Int) = some x by rw [hs]; exact idx_at pre x suf, bnd_some', jn_snoc]
      by_cases c : pre.length > 0
      · rw [if_pos (by omega), if_pos c, app_of (by simp; omega), bnd_some', bnd_some', put_eq x (by omega), bnd_some', app_of (by simp; omega), bnd_some', w64_id ⟨by omega, by omega⟩]
      · rw [if_neg (by omega), if_neg c, bnd_some', put_eq x (by omega), bnd_some', app_of (by omega), bnd_some', w64_id ⟨by omega, by omega⟩])
    (by
      unfold quote_Join.l1
      simp only
      rw [if_neg (by omega)])
  unfold quote_Join
  have h' : loop (quote_Join.l1 l) (0, []) = some (jn l) := by simpa [jn] using hh
  rw [h', bnd_some']
theorem refJoin_eq (l : List (List UInt8)) (h : ∀ x ∈ l, x.length ≤ 60) (hl : l.length ≤ 1000) : ref06_Join l = some (jn l) := by
  have hh := loop_fold (f := ref06_Join.l1 l) (fun i (s : List UInt8) => (s, i)) l (fun pre => jn pre) (t := jn l)
    (fun pre x suf hs => by
      have hpl : pre.length + 1 ≤ l.length := by rw [hs]; simp
      have hx := h x (by rw [hs]; simp)
      have hj := jn_len pre (fun y hy => h y (by rw [hs]; simp [hy]))
      have hp := put_len x
      unfold ref06_Join.l1
      simp only
      rw [if_pos (by omega), show idx l (pre.length : Int) = some x by rw [hs]; exact idx_at pre x suf, bnd_some', jn_snoc]
      by_cases c : pre.length > 0
      · rw [if_pos (by omega), if_pos c, catS, if_pos (by simp; omega), bnd_some', bnd_some', refPut_eq x (by omega), bnd_some', catS, if_pos (by simp; omega), bnd_some', w64_id ⟨by omega, by omega⟩]
      · rw [if_neg (by omega), if_neg c, bnd_some', refPut_eq x (by omega), bnd_some', catS, if_pos (by omega), bnd_some', w64_id ⟨by omega, by omega⟩])
    (by
      unfold ref06_Join.l1
      simp only
      rw [if_neg (by omega)])
  unfold ref06_Join
  have h' : loop (ref06_Join.l1 l) ([], 0) = some (jn l) := by simpa [jn] using hh
  rw [h', bnd_some']
theorem texts_eq (a : List (List UInt8)) (ha : a.length ≤ maxLen) : ∃ l, law06_texts a = some (l, l) ∧ l = (a.take 12).map (List.take 60) := by
  simp only [maxLen] at ha
  have hh := loop_fold (f := law06_texts.l1 a) (fun i (s : List (List UInt8) × List (List UInt8)) => (i, s)) a (fun pre => ((pre.take 12).map (List.take 60), (pre.take 12).map (List.take 60))) (t := ((a.take 12).map (List.take 60), (a.take 12).map (List.take 60)))
    (fun pre x suf hs => by
      have hpl : pre.length + 1 ≤ a.length := by rw [hs]; simp
      unfold law06_texts.l1
      simp only
      rw [if_pos (by omega), show idx a (pre.length : Int) = some x by rw [hs]; exact idx_at pre x suf, bnd_some', w64_id ⟨by omega, by omega⟩]
      by_cases c : (pre.length : Int) < 12
      · rw [if_pos c, show ((60 : Int)) = ((60 : Nat) : Int) from rfl, cut6_eq, bnd_some', app_of (by simp; omega), bnd_some', app_of (by simp; omega), bnd_some', bnd_some']
        have : (pre ++ [x]).take 12 = pre.take 12 ++ [x] := by
          rw [List.take_of_length_le (by simp; omega), List.take_of_length_le (by omega)]
        rw [this]; simp
      · rw [if_neg c, bnd_some']
        have : (pre ++ [x]).take 12 = pre.take 12 := List.take_append_of_le_length (by omega)
        rw [this])
    (by
      unfold law06_texts.l1
      simp only
      rw [if_neg (by omega)])
  have h' : loop (law06_texts.l1 a) (0, [], []) = some ((a.take 12).map (List.take 60), (a.take 12).map (List.take 60)) := by simpa using hh
  exact ⟨_, by unfold law06_texts; rw [h', bnd_some'], rfl⟩
theorem texts_small {a l : List (List UInt8)} (h : l = (a.take 12).map (List.take 60)) : l.length ≤ 12 ∧ ∀ x ∈ l, x.length ≤ 60 := by
  subst h
  refine ⟨by simp; omega, fun x hx => ?_⟩
  obtain ⟨y, _, rfl⟩ := List.mem_map.1 hx
  simp; omega
theorem QuoteRight_holds (a0 : List UInt8) (a1 : List (List UInt8)) (w0 : a0.length ≤ maxLen) (w1 : a1.length ≤ maxLen ∧ ∀ a ∈ a1, a.length ≤ maxLen) : law06_QuoteRight a0 a1 = some true := by
  obtain ⟨l, h1, h2⟩ := texts_eq a1 w1.1
  obtain ⟨h3, h4⟩ := texts_small h2
  unfold law06_QuoteRight
  rw [show ((600 : Int)) = ((600 : Nat) : Int) from rfl, cut6_eq, bnd_some', h1, bnd_some']
  generalize hbb : a0.take 600 = b
  have hb : b.length ≤ 1000000 := by rw [← hbb]; simp; omega
  rw [right_eq b hb, bnd_some', refRight_eq b hb, bnd_some', if_pos (beq_self_eq_true _)]
  simp only
  rw [join_eq6 l h4 (by omega), bnd_some', refJoin_eq l h4 (by omega), bnd_some', if_pos rfl, awake6_eq]
  rfl
end Go.Proofs.Ytkjcogmngoogcaa.S
