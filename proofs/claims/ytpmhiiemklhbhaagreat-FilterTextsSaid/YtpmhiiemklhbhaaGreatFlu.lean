/- Chapter 18: the tests of texts, plain; the law on texts. -/
import Derived.Test.YtpmhiiemklhbhaaGreatG0
import Derived.Test.YtpmhiiemklhbhaaGreatG1xa
import Derived.Test.YtpmhiiemklhbhaaGreatG1xc
import Derived.Test.YtpmhiiemklhbhaaGreatG1xd
import Derived.Test.YtpmhiiemklhbhaaGreatFlt
set_option linter.unusedVariables false
namespace Go.Proofs.YtpmhiiemklhbhaaGreat.S
open Go Go.Sm
def cutp : List UInt8 → List UInt8 × Bool
  | [] => ([], false)
  | b :: l => if b = 33 then (l, true) else (b :: l, false)
theorem cutp_eq (s : List UInt8) (hs : s.length ≤ 100000) : strings_CutPrefix s [33] = some (cutp s) := by
  unfold strings_CutPrefix internal_stringslite_CutPrefix internal_stringslite_HasPrefix
  cases s with
  | nil => rfl
  | cons b l =>
    rw [if_pos (by simp only [List.length_cons, List.length_nil]; omega), cut_of ⟨by omega, by simp, by simp only [List.length_cons, List.length_nil]; omega⟩, bnd_some', bnd_some', bnd_some']
    have h1 : ((b :: l).take (([33] : List UInt8).length : Int).toNat).drop (0 : Int).toNat = [b] := rfl
    rw [h1]
    by_cases c : b = 33
    · subst c
      rw [if_pos (by rfl), cut_of ⟨by simp, by simp only [List.length_cons, List.length_nil]; omega, by simp⟩, bnd_some', bnd_some']
      simp [cutp]
    · rw [if_neg (by simpa using c), bnd_some']
      simp [cutp, c]
theorem digit_no {b : UInt8} (h : b.toNat < 48 ∨ 57 < b.toNat) : num_digit b = some (0, false) := by
  unfold num_digit
  by_cases c : (b.toNat : Int) < 48
  · rw [if_pos c, bnd_some', if_pos rfl]
  · rw [if_neg c, bnd_some', decide_eq_true (by omega), if_pos rfl]
theorem digit_yes {b : UInt8} (h : 48 ≤ b.toNat ∧ b.toNat ≤ 57) : num_digit b = some (((b.toNat - 48 : Nat) : Int), true) := by
  unfold num_digit
  rw [if_neg (by omega), bnd_some', decide_eq_false (by omega), if_neg (by simp), ub_toNat]
  have e : ((b.toNat : Int) - 48) % 256 = ((b.toNat - 48 : Nat) : Int) := by omega
  rw [e]
  have hw : IntKind.wrap .u64 ((b.toNat - 48 : Nat) : Int) = ((b.toNat - 48 : Nat) : Int) := by
    unfold IntKind.wrap
    simp only [IntKind.bits, IntKind.signed, Bool.false_and, Bool.false_eq_true, if_false]
    omega
  rw [hw]
theorem dstep_yes {a : List UInt8} {v : Int} {i : Nat} {b : UInt8} (hv : 0 ≤ v ∧ v ≤ 41) (hi : i < a.length) (hl : a.length ≤ 100000) (hb : idx a (i : Int) = some b) (hd : 48 ≤ b.toNat ∧ b.toNat ≤ 57) :
    num_Digits.l1 a 41 (v, (i : Int)) = some (.next ((if 41 < v * 10 + ((b.toNat - 48 : Nat) : Int) then 41 else v * 10 + ((b.toNat - 48 : Nat) : Int)), ((i + 1 : Nat) : Int))) := by
  unfold num_Digits.l1
  dsimp only
  rw [if_pos (by omega), hb, bnd_some', digit_yes hd, bnd_some']
  dsimp only
  rw [if_pos rfl, bnd_some', w64_id (x := v * 10) ⟨by omega, by omega⟩, w64_id (x := ((b.toNat - 48 : Nat) : Int)) ⟨by omega, by omega⟩, w64_id (x := v * 10 + ((b.toNat - 48 : Nat) : Int)) ⟨by omega, by omega⟩, w64_id (x := (i : Int) + 1) ⟨by omega, by omega⟩]
  rfl
theorem dstep_no {a : List UInt8} {v : Int} {i : Nat} {b : UInt8} (hi : i < a.length) (hb : idx a (i : Int) = some b) (hd : b.toNat < 48 ∨ 57 < b.toNat) : num_Digits.l1 a 41 (v, (i : Int)) = some (.done (.ret (v, (i : Int)))) := by
  unfold num_Digits.l1
  dsimp only
  rw [if_pos (by omega), hb, bnd_some', digit_no hd, bnd_some']
  dsimp only
  rw [if_neg (by simp)]
theorem most41 : (some (if (2147483647 : Int) < (if (0 : Int) > 41 then 0 else 41) then 2147483647 else (if (0 : Int) > 41 then 0 else 41)) : Option Int) = some 41 := by decide
theorem digits_digs (n : Nat) (h1 : 1 ≤ n) (h2 : n ≤ 40) (g : UInt8) (hg : g.toNat < 48 ∨ 57 < g.toNat) (tail : List UInt8) (ht : tail.length ≤ 1000) : num_Digits (digs n ++ g :: tail) 41 = some ((n : Int), ((digs n).length : Int)) := by
  unfold num_Digits
  rw [most41, bnd_some']
  unfold digs
  by_cases c : n < 10
  · rw [if_pos c]
    have ev : (UInt8.ofNat (48 + n)).toNat = 48 + n := by rw [UInt8.toNat_ofNat_of_lt' (by show 48 + n < 256; omega)]
    have s1 := dstep_yes (a := [UInt8.ofNat (48 + n)] ++ g :: tail) (v := 0) (i := 0) ⟨by omega, by omega⟩ (by simp) (by simp; omega) (show idx _ ((0 : Nat) : Int) = some (UInt8.ofNat (48 + n)) from rfl) (by rw [ev]; omega)
    rw [ev, if_neg (by omega)] at s1
    have s2 := dstep_no (a := [UInt8.ofNat (48 + n)] ++ g :: tail) (v := 0 * 10 + ((48 + n - 48 : Nat) : Int)) (i := 0 + 1) (by simp) (show idx _ ((0 + 1 : Nat) : Int) = some g from rfl) hg
    rw [show loop (num_Digits.l1 ([UInt8.ofNat (48 + n)] ++ g :: tail) 41) (0, 0) = _ from loop_next s1 (loop_done s2), bnd_some']
    dsimp only
    congr 2
    omega
  · rw [if_neg c]
    have e1 : (UInt8.ofNat (48 + n / 10)).toNat = 48 + n / 10 := by rw [UInt8.toNat_ofNat_of_lt' (by show 48 + n / 10 < 256; omega)]
    have e2 : (UInt8.ofNat (48 + n % 10)).toNat = 48 + n % 10 := by rw [UInt8.toNat_ofNat_of_lt' (by show 48 + n % 10 < 256; omega)]
    have s1 := dstep_yes (a := [UInt8.ofNat (48 + n / 10), UInt8.ofNat (48 + n % 10)] ++ g :: tail) (v := 0) (i := 0) ⟨by omega, by omega⟩ (by simp) (by simp; omega) (show idx _ ((0 : Nat) : Int) = some (UInt8.ofNat (48 + n / 10)) from rfl) (by rw [e1]; omega)
    rw [e1, if_neg (by omega)] at s1
    have s2 := dstep_yes (a := [UInt8.ofNat (48 + n / 10), UInt8.ofNat (48 + n % 10)] ++ g :: tail) (v := 0 * 10 + ((48 + n / 10 - 48 : Nat) : Int)) (i := 0 + 1) ⟨by omega, by omega⟩ (by simp) (by simp; omega) (show idx _ ((0 + 1 : Nat) : Int) = some (UInt8.ofNat (48 + n % 10)) from rfl) (by rw [e2]; omega)
    rw [e2, if_neg (by omega)] at s2
    have s3 := dstep_no (a := [UInt8.ofNat (48 + n / 10), UInt8.ofNat (48 + n % 10)] ++ g :: tail) (v := (0 * 10 + ((48 + n / 10 - 48 : Nat) : Int)) * 10 + ((48 + n % 10 - 48 : Nat) : Int)) (i := 0 + 1 + 1) (by simp) (show idx _ ((0 + 1 + 1 : Nat) : Int) = some g from rfl) hg
    rw [show loop (num_Digits.l1 ([UInt8.ofNat (48 + n / 10), UInt8.ofNat (48 + n % 10)] ++ g :: tail) 41) (0, 0) = _ from loop_next s1 (loop_next s2 (loop_done s3)), bnd_some']
    dsimp only
    congr 2
    omega
theorem digits_any (a : List UInt8) (hl : a.length ≤ 100000) : ∃ v i, num_Digits a 41 = some (v, i) ∧ (0 ≤ v ∧ v ≤ 41) ∧ 0 ≤ i ∧ i ≤ (a.length : Int) := by
  unfold num_Digits
  rw [most41, bnd_some']
  obtain ⟨q, q1, q2⟩ := loop_ind (f := num_Digits.l1 a 41) (fun s : Int × Int => (0 ≤ s.1 ∧ s.1 ≤ 41) ∧ ∃ i : Nat, s.2 = (i : Int) ∧ i ≤ a.length) (fun s => a.length - s.2.toNat) (fun q => match q with | .brk v => 0 ≤ v ∧ v ≤ 41 | .ret (v, i) => (0 ≤ v ∧ v ≤ 41) ∧ 0 ≤ i ∧ i ≤ (a.length : Int)) (fun s hs => by
    obtain ⟨v, si⟩ := s
    obtain ⟨hv, i, hi, hil⟩ := hs
    dsimp only at hv hi
    subst hi
    by_cases e : i = a.length
    · refine .inr ⟨.brk v, ?_, hv⟩
      unfold num_Digits.l1
      rw [if_neg (by simp only; omega)]
    · have hb : idx a (i : Int) = some a[i] := idx_nat (List.getElem?_eq_getElem (by omega))
      by_cases d : 48 ≤ a[i].toNat ∧ a[i].toNat ≤ 57
      · refine .inl ⟨_, dstep_yes hv (by omega) hl hb d, ⟨?_, i + 1, rfl, by omega⟩, by simp only [Int.toNat_natCast]; omega⟩
        dsimp only
        split <;> omega
      · exact .inr ⟨_, dstep_no (by omega) hb (by omega), hv, by omega, by omega⟩) (s := (0, 0)) ⟨⟨by simp, by simp⟩, 0, rfl, by omega⟩
  rw [q1, bnd_some']
  cases q with
  | brk v => exact ⟨v, _, rfl, q2, by omega, by omega⟩
  | ret u => exact ⟨u.1, u.2, rfl, q2⟩
theorem sgn_no : ∀ o : Fin 7, (sgn.getD o.1 0).toNat < 48 ∨ 57 < (sgn.getD o.1 0).toNat := by decide
theorem digs_head (n : Nat) (h : n ≤ 99) : ∃ b l, digs n = b :: l ∧ b ≠ 33 := by
  unfold digs
  split
  · rename_i c
    refine ⟨_, _, rfl, fun e => ?_⟩
    have := congrArg UInt8.toNat e
    rw [UInt8.toNat_ofNat_of_lt' (by show 48 + n < 256; omega)] at this
    simp at this; omega
  · refine ⟨_, _, rfl, fun e => ?_⟩
    have := congrArg UInt8.toNat e
    rw [UInt8.toNat_ofNat_of_lt' (by show 48 + n / 10 < 256; omega)] at this
    simp at this; omega
theorem parse_print (col op : Int) (arg : List UInt8) (nt : Bool) (hr : rightB col op arg = true) : filter_Parse (printL col op arg nt) = some (⟨col, op, arg, nt⟩, 0) := by
  obtain ⟨r1, r2, r3, r4, r5⟩ := right_of hr
  have hd := digs_len (col.toNat + 1)
  have hcut : strings_CutPrefix (printL col op arg nt) [33] = some (digs (col.toNat + 1) ++ sgn.getD op.toNat 0 :: arg, nt) := by
    rw [cutp_eq _ (by unfold printL headL; simp; split <;> simp <;> omega)]
    obtain ⟨b, l, e1, e2⟩ := digs_head (col.toNat + 1) (by omega)
    unfold printL headL
    cases nt with
    | true => simp [cutp]
    | false => rw [e1]; simp [e2, cutp]
  unfold filter_Parse
  rw [hcut, bnd_some']
  dsimp only
  have hg := sgn_no ⟨op.toNat, by omega⟩
  rw [digits_digs (col.toNat + 1) (by omega) (by omega) _ hg arg (by omega), bnd_some']
  dsimp only
  have hlen : ((digs (col.toNat + 1) ++ sgn.getD op.toNat 0 :: arg).length : Int) = ((digs (col.toNat + 1)).length : Int) + (arg.length : Int) + 1 := by simp; omega
  rw [cut_of ⟨by omega, by omega, by omega⟩, bnd_some', Int.toNat_natCast, Int.toNat_natCast, List.take_length, List.drop_left, if_neg (by simp), cut_of ⟨by omega, by simp only [List.length_cons]; omega, by omega⟩, bnd_some', Int.toNat_natCast, List.take_length, show (sgn.getD op.toNat 0 :: arg).drop (1 : Int).toNat = arg from rfl, show idx (sgn.getD op.toNat 0 :: arg) 0 = some (sgn.getD op.toNat 0) from rfl, bnd_some']
  have hs := (sign_of (op := op) ⟨r3, r4⟩).2
  have hcol : w64 (((col.toNat + 1 : Nat) : Int) - 1) = col := by rw [w64_id ⟨by omega, by omega⟩]; omega
  rw [hcol, show sIndexByte [126, 61, 60, 62, 94, 36, 63] (sgn.getD op.toNat 0) = op from hs, right_eq _ (by show arg.length ≤ _; omega)]
  dsimp only
  rw [hr, bnd_some', if_pos rfl, print_eq _ (by show arg.length ≤ _; omega) hr, bnd_some', bnd_some']
  dsimp only
  rw [if_neg (by simp)]
theorem parse_any (s : List UInt8) (hs : s.length ≤ 10000) : filter_Parse s = some (⟨0, 0, [], false⟩, 3) ∨ ∃ t : filter_Test, filter_Parse s = some (t, 0) ∧ rightB t.fCol t.fOp t.fArg = true ∧ printL t.fCol t.fOp t.fArg t.fNot = s := by
  obtain ⟨r, b, hc, hrl⟩ : ∃ r b, strings_CutPrefix s [33] = some (r, b) ∧ r.length ≤ s.length := by
    rw [cutp_eq s (by omega)]
    cases s with
    | nil => exact ⟨_, _, rfl, by simp⟩
    | cons x l =>
      by_cases c : x = 33
      · exact ⟨l, true, by simp [c, cutp], by simp⟩
      · exact ⟨x :: l, false, by simp [c, cutp], by simp⟩
  unfold filter_Parse
  rw [hc, bnd_some']
  dsimp only
  obtain ⟨v, i, hv, h1, h2, h3⟩ := digits_any r (by omega)
  rw [hv, bnd_some']
  dsimp only
  rw [cut_of ⟨h2, h3, by omega⟩, bnd_some', Int.toNat_natCast, List.take_length]
  have hdl : (r.drop i.toNat).length ≤ r.length := by simp
  cases hq : r.drop i.toNat with
  | nil => rw [if_pos rfl]; exact .inl rfl
  | cons x l =>
    rw [hq] at hdl
    simp only [List.length_cons] at hdl
    rw [if_neg (by simp), cut_of ⟨by omega, by simp only [List.length_cons]; omega, by omega⟩, bnd_some', Int.toNat_natCast, List.take_length, show (x :: l).drop (1 : Int).toNat = l from rfl, show idx (x :: l) 0 = some x from rfl, bnd_some', right_eq _ (by show l.length ≤ _; omega)]
    dsimp only
    cases hr : rightB (w64 (v - 1)) (sIndexByte [126, 61, 60, 62, 94, 36, 63] x) l with
    | false => rw [bnd_some', if_neg (by simp), bnd_some', if_pos rfl]; exact .inl rfl
    | true =>
      rw [bnd_some', if_pos rfl, print_eq _ (by show l.length ≤ _; omega) hr, bnd_some', bnd_some']
      dsimp only
      by_cases c : printL (w64 (v - 1)) (sIndexByte [126, 61, 60, 62, 94, 36, 63] x) l b = s
      · rw [if_neg (by simp [c])]
        exact .inr ⟨_, rfl, hr, c⟩
      · rw [if_pos (by simpa using c)]; exact .inl rfl
/-! ### by the document: all that there are, tried -/
def firstG {τ : Type} (g : Nat → Option τ) : Nat → Nat → Option τ
  | 0, _ => none
  | k + 1, i => match g i with
    | some t => some t
    | none => firstG g k (i + 1)
def outL {τ : Type} (o : Option τ) (i : Nat) : Lp Int (Ex Unit τ) := match o with
  | some t => .done (.ret t)
  | none => .next ((i + 1 : Nat) : Int)
def outE {τ : Type} (o : Option τ) : Ex Unit τ := match o with
  | some t => .ret t
  | none => .brk ()
theorem loop_try {τ : Type} {f : Int → Option (Lp Int (Ex Unit τ))} (g : Nat → Option τ) (n : Nat) (hf : ∀ i : Nat, i < n → f (i : Int) = some (outL (g i) i))
    (hfin : f (n : Int) = some (Lp.done (Ex.brk ()))) : ∀ (k i : Nat), i + k = n → loop f (i : Int) = some (outE (firstG g k i))
  | 0, i, h => by
    obtain rfl : i = n := by omega
    exact loop_done hfin
  | k + 1, i, h => by
    have hs := hf i (by omega)
    rw [firstG]
    cases hg : g i with
    | some t => rw [hg] at hs; exact loop_done hs
    | none => rw [hg] at hs; exact loop_next hs (loop_try g n hf hfin k (i + 1) (by omega))
theorem firstG_some {τ : Type} {g : Nat → Option τ} {t : τ} : ∀ {k i : Nat}, firstG g k i = some t → ∃ j, i ≤ j ∧ j < i + k ∧ g j = some t
  | 0, i, h => by cases h
  | k + 1, i, h => by
    rw [firstG] at h
    cases hg : g i with
    | some u => rw [hg] at h; exact ⟨i, by omega, by omega, by rw [hg]; exact h⟩
    | none =>
      rw [hg] at h
      obtain ⟨j, h1, h2, h3⟩ := firstG_some h
      exact ⟨j, by omega, by omega, h3⟩
theorem firstG_none {τ : Type} {g : Nat → Option τ} : ∀ {k i : Nat}, firstG g k i = none → ∀ j, i ≤ j → j < i + k → g j = none
  | 0, i, h, j, h1, h2 => by omega
  | k + 1, i, h, j, h1, h2 => by
    rw [firstG] at h
    cases hg : g i with
    | some u => rw [hg] at h; cases h
    | none =>
      rw [hg] at h
      by_cases e : j = i
      · rw [e]; exact hg
      · exact firstG_none h j (by omega) (by omega)
def trial (s : List UInt8) (col op b : Nat) : Option (ref18_Test × Int) :=
  if s.take (headL (col : Int) (op : Int) (((b : Nat) : Int) == 1)).length = headL (col : Int) (op : Int) (((b : Nat) : Int) == 1) ∧ rightB (col : Int) (op : Int) (s.drop (headL (col : Int) (op : Int) (((b : Nat) : Int) == 1)).length) = true then
    some (⟨(col : Int), (op : Int), s.drop (headL (col : Int) (op : Int) (((b : Nat) : Int) == 1)).length, ((b : Nat) : Int) == 1⟩, 0) else none
theorem headL_len (col op : Int) (nt : Bool) : (headL col op nt).length ≤ 10 := by
  have := digs_len (col.toNat + 1)
  unfold headL
  cases nt <;> simp <;> omega
theorem right_nil {col op : Int} (h : 0 ≤ col ∧ col < 40 ∧ 0 ≤ op ∧ op < 7) : rightB col op [] = true := by
  unfold rightB hasNL
  rw [decide_eq_true (show 0 ≤ col ∧ col < 40 ∧ 0 ≤ op ∧ op < 7 ∧ ([] : List UInt8).length ≤ 100 by simp; omega)]
  simp
theorem l1_eq (s : List UInt8) (hs : s.length ≤ 10000) (col op b : Nat) (hc : col < 40) (ho : op < 7) (hb : b < 2) : ref18_Parse.l1 s (col : Int) (op : Int) (b : Int) = some (outL (trial s col op b) b) := by
  unfold ref18_Parse.l1
  have hh : ref18_Print (⟨(col : Int), (op : Int), [], ((b : Int) == 1)⟩ : ref18_Test) = some (headL (col : Int) (op : Int) ((b : Int) == 1)) := by
    rw [rprint_eq _ (by simp) (right_nil (show 0 ≤ (col : Int) ∧ (col : Int) < 40 ∧ 0 ≤ (op : Int) ∧ (op : Int) < 7 by omega))]
    unfold printL; simp
  rw [if_pos (by omega), hh, bnd_some']
  unfold trial
  generalize headL (col : Int) (op : Int) ((b : Int) == 1) = H
  by_cases c : (s.length : Int) ≥ (H.length : Int)
  · rw [if_pos c, cut_of ⟨by omega, by omega, by omega⟩, bnd_some', bnd_some', Int.toNat_natCast, show (s.take H.length).drop (0 : Int).toNat = s.take H.length from rfl]
    by_cases d : s.take H.length = H
    · rw [if_pos (by simpa using d), cut_of ⟨by omega, by omega, by omega⟩, bnd_some', Int.toNat_natCast, Int.toNat_natCast, List.take_length, rright_eq _ (by show (s.drop H.length).length ≤ _; simp; omega), bnd_some']
      dsimp only
      cases hr : rightB (col : Int) (op : Int) (s.drop H.length) with
      | true => rw [if_pos rfl, if_pos ⟨d, rfl⟩, bnd_some']; rfl
      | false =>
        rw [if_neg (by simp), if_neg (by simp), bnd_some', w64_id ⟨by omega, by omega⟩]; rfl
    · rw [if_neg (by simpa using d), if_neg (fun h => d h.1), bnd_some', w64_id ⟨by omega, by omega⟩]; rfl
  · have d : ¬ s.take H.length = H := fun e => by
      have := congrArg List.length e
      rw [List.length_take] at this
      omega
    rw [if_neg c, bnd_some', if_neg (by simp), if_neg (fun h => d h.1), bnd_some', w64_id ⟨by omega, by omega⟩]; rfl
def try1 (s : List UInt8) (col op : Nat) : Option (ref18_Test × Int) := firstG (trial s col op) 2 0
def try2 (s : List UInt8) (col : Nat) : Option (ref18_Test × Int) := firstG (try1 s col) 7 0
def try3 (s : List UInt8) : Option (ref18_Test × Int) := firstG (try2 s) 40 0
theorem rparse_eq (s : List UInt8) (hs : s.length ≤ 10000) : ref18_Parse s = some (match try3 s with | some t => t | none => (⟨0, 0, [], false⟩, 3)) := by
  have e1 : ∀ col op : Nat, col < 40 → op < 7 → loop (ref18_Parse.l1 s (col : Int) (op : Int)) 0 = some (outE (try1 s col op)) := fun col op hc ho =>
    loop_try (f := ref18_Parse.l1 s (col : Int) (op : Int)) (trial s col op) 2 (fun b hb => l1_eq s hs col op b hc ho hb) (by unfold ref18_Parse.l1; rw [if_neg (by omega)]) 2 0 rfl
  have e2 : ∀ col : Nat, col < 40 → loop (ref18_Parse.l2 s (col : Int)) 0 = some (outE (try2 s col)) := fun col hc =>
    loop_try (f := ref18_Parse.l2 s (col : Int)) (try1 s col) 7 (fun op ho => by
      unfold ref18_Parse.l2
      rw [if_pos (by omega), e1 col op hc ho, bnd_some']
      cases try1 s col op with
      | some t => rfl
      | none => unfold outE outL; dsimp only; rw [w64_id ⟨by omega, by omega⟩]; rfl) (by unfold ref18_Parse.l2; rw [if_neg (by omega)]) 7 0 rfl
  have e3 : loop (ref18_Parse.l3 s) 0 = some (outE (try3 s)) :=
    loop_try (f := ref18_Parse.l3 s) (try2 s) 40 (fun col hc => by
      unfold ref18_Parse.l3
      rw [if_pos (by omega), e2 col hc, bnd_some']
      cases try2 s col with
      | some t => rfl
      | none => unfold outE outL; dsimp only; rw [w64_id ⟨by omega, by omega⟩]; rfl) (by unfold ref18_Parse.l3; rw [if_neg (by omega)]) 40 0 rfl
  unfold ref18_Parse
  rw [e3, bnd_some']
  cases try3 s <;> rfl
theorem trial_some {s : List UInt8} {col op b : Nat} {t : ref18_Test × Int} (h : trial s col op b = some t) : t.2 = 0 ∧ rightB t.1.fCol t.1.fOp t.1.fArg = true ∧ printL t.1.fCol t.1.fOp t.1.fArg t.1.fNot = s := by
  unfold trial at h
  split at h
  · rename_i hc
    obtain rfl := Option.some.inj h
    refine ⟨rfl, hc.2, ?_⟩
    unfold printL
    dsimp only
    conv => rhs; rw [← List.take_append_drop (headL (col : Int) (op : Int) (((b : Nat) : Int) == 1)).length s]
    rw [hc.1]
  · cases h
theorem try3_some {s : List UInt8} {t : ref18_Test × Int} (h : try3 s = some t) : t.2 = 0 ∧ rightB t.1.fCol t.1.fOp t.1.fArg = true ∧ printL t.1.fCol t.1.fOp t.1.fArg t.1.fNot = s := by
  obtain ⟨col, _, _, h⟩ := firstG_some h
  obtain ⟨op, _, _, h⟩ := firstG_some h
  obtain ⟨b, _, _, h⟩ := firstG_some h
  exact trial_some h
theorem try3_none {s : List UInt8} (h : try3 s = none) (col op : Int) (arg : List UInt8) (nt : Bool) (hr : rightB col op arg = true) : printL col op arg nt ≠ s := fun e => by
  obtain ⟨r1, r2, r3, r4, r5⟩ := right_of hr
  have h3 := firstG_none (firstG_none (firstG_none h col.toNat (by omega) (by omega)) op.toNat (by omega) (by omega)) (if nt = true then 1 else 0) (by omega) (by split <;> omega)
  unfold trial at h3
  have hb : ((((if nt = true then 1 else 0 : Nat) : Nat) : Int) == 1) = nt := by cases nt <;> rfl
  rw [hb, show ((col.toNat : Nat) : Int) = col by omega, show ((op.toNat : Nat) : Int) = op by omega] at h3
  rw [if_pos] at h3
  · cases h3
  · rw [← e]
    unfold printL
    rw [List.take_left, List.drop_left]
    exact ⟨rfl, hr⟩
theorem parse_same (s : List UInt8) (hs : s.length ≤ 10000) : ∃ (t : filter_Test) (u : ref18_Test) (e : Int), filter_Parse s = some (t, e) ∧ ref18_Parse s = some (u, e) ∧ t = ⟨u.fCol, u.fOp, u.fArg, u.fNot⟩ := by
  rw [rparse_eq s hs]
  rcases parse_any s hs with h | ⟨t, h, hr, hp⟩
  · cases hq : try3 s with
    | none => exact ⟨_, _, _, h, rfl, rfl⟩
    | some u =>
      obtain ⟨u1, u2, u3⟩ := try3_some hq
      have := parse_print u.1.fCol u.1.fOp u.1.fArg u.1.fNot u2
      rw [u3, h] at this
      have := congrArg Prod.snd (Option.some.inj this)
      simp at this
  · cases hq : try3 s with
    | none => exact absurd hp (try3_none hq _ _ _ _ hr)
    | some u =>
      obtain ⟨u1, u2, u3⟩ := try3_some hq
      have := parse_print u.1.fCol u.1.fOp u.1.fArg u.1.fNot u2
      rw [u3, h] at this
      refine ⟨t, u.1, 0, h, ?_, congrArg Prod.fst (Option.some.inj this)⟩
      dsimp only
      rw [← u1]
theorem awake18_eq : law18_awake = some true := by decide +kernel
theorem cut18_eq (a : List UInt8) (n : Nat) : law11_Cut a (n : Int) = some (a.take n) := by
  unfold law11_Cut
  by_cases h : a.length > n
  · rw [if_pos (by omega), cut_of ⟨by omega, by omega, by omega⟩, bnd_some']; simp
  · rw [if_neg (by omega), List.take_of_length_le (by omega)]
theorem FilterTexts_holds (a0 : ref18_Test) (a1 : List UInt8) (w0 : (Lit.int .i64 a0.fCol).wf = true ∧ (Lit.int .i64 a0.fOp).wf = true ∧ a0.fArg.length ≤ maxLen ∧ True) (w1 : a1.length ≤ maxLen) : law18_FilterTexts a0 a1 = some true := by
  unfold law18_FilterTexts law18_mine
  rw [show law11_Cut a1 130 = _ from cut18_eq a1 130, bnd_some', show law11_Cut a0.fArg 110 = _ from cut18_eq a0.fArg 110, bnd_some']
  have hs : (a1.take 130).length ≤ 130 := by simp; omega
  have ha : (a0.fArg.take 110).length ≤ 110 := by simp; omega
  generalize a1.take 130 = s at hs ⊢
  generalize a0.fArg.take 110 = arg at ha ⊢
  obtain ⟨t, u, e, p1, p2, p3⟩ := parse_same s (by omega)
  rw [p1, bnd_some', p2, bnd_some', bnd_some', right_eq _ (by show arg.length ≤ _; omega), bnd_some', rright_eq _ (by show arg.length ≤ _; omega), bnd_some']
  dsimp only
  rw [if_pos (beq_self_eq_true _), bnd_some']
  have hpr : filter_Print ⟨a0.fCol, a0.fOp, arg, a0.fNot⟩ = ref18_Print ⟨a0.fCol, a0.fOp, arg, a0.fNot⟩ := by
    cases hr : rightB a0.fCol a0.fOp arg with
    | true => rw [print_eq _ (by show arg.length ≤ _; omega) hr, rprint_eq _ (by show arg.length ≤ _; omega) hr]
    | false => rw [print_no _ (by show arg.length ≤ _; omega) hr, rprint_no _ (by show arg.length ≤ _; omega) hr]
  have hex : ∃ L, ref18_Print ⟨a0.fCol, a0.fOp, arg, a0.fNot⟩ = some L := by
    cases hr : rightB a0.fCol a0.fOp arg with
    | true => exact ⟨_, rprint_eq _ (by show arg.length ≤ _; omega) hr⟩
    | false => exact ⟨_, rprint_no _ (by show arg.length ≤ _; omega) hr⟩
  obtain ⟨L, hL⟩ := hex
  rw [hpr, hL, bnd_some', bnd_some', if_pos rfl, bnd_some', if_pos p3]
  rw [show (!(e == e)) = false by simp, bnd_some', if_neg (by simp), bnd_some']
  cases hr : rightB a0.fCol a0.fOp arg with
  | false => rw [if_neg (by simp), awake18_eq, bnd_some']
  | true =>
    rw [if_pos rfl, bnd_some', print_eq _ (by show arg.length ≤ _; omega) hr, bnd_some']
    dsimp only
    rw [parse_print _ _ _ _ hr, bnd_some']
    dsimp only
    rw [if_pos rfl, bnd_some', if_pos rfl, awake18_eq, bnd_some', bnd_some']
end Go.Proofs.YtpmhiiemklhbhaaGreat.S
