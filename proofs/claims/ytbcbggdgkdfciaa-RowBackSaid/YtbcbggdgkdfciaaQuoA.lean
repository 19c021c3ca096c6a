/- Chapter 6's fields, told plainly: which texts need quotes, a text as a field, the first field read; the laws QuotePuts, QuoteReads. -/
import Derived.Test.YtbcbggdgkdfciaaG12xa
import Derived.Test.YtbcbggdgkdfciaaG1xa
import Derived.Test.YtbcbggdgkdfciaaScaB
set_option linter.unusedVariables false
namespace Go.Proofs.Ytbcbggdgkdfciaa.S
open Go Go.Sm
/-! ### plain -/
def isQ (x : UInt8) : Bool := x == 44 || x == 34 || x == 13 || x == 10
def needs (b : List UInt8) : Bool := b.any isQ
def esc1 (x : UInt8) : List UInt8 := if x = 34 then [34, 34] else [x]
def esc (b : List UInt8) : List UInt8 := b.flatMap esc1
def put (b : List UInt8) : List UInt8 := if needs b = true then 34 :: (esc b ++ [34]) else b
theorem esc_snoc (b : List UInt8) (x : UInt8) : esc (b ++ [x]) = esc b ++ esc1 x := by simp [esc]
theorem esc1_len (x : UInt8) : (esc1 x).length ≤ 2 := by unfold esc1; split <;> simp
theorem esc_len (b : List UInt8) : (esc b).length ≤ 2 * b.length := by
  induction b with
  | nil => simp [esc]
  | cons x b ih =>
    rw [show esc (x :: b) = esc1 x ++ esc b by simp [esc]]
    have := esc1_len x
    simp only [List.length_append, List.length_cons]; omega
theorem put_len (b : List UInt8) : (put b).length ≤ 2 * b.length + 2 := by
  unfold put
  have := esc_len b
  split <;> simp <;> omega
/-- How many quotes. -/
def nq (b : List UInt8) : Nat := (b.filter (· == 34)).length
theorem nq_le (b : List UInt8) : nq b ≤ b.length := List.length_filter_le _ _
theorem nq_snoc (b : List UInt8) (x : UInt8) : nq (b ++ [x]) = nq b + (if x = 34 then 1 else 0) := by
  unfold nq
  rw [List.filter_append, List.length_append]
  congr 1
  by_cases h : x = 34
  · simp [h]
  · simp [h]
theorem esc_nq (b : List UInt8) : (esc b).length = b.length + nq b := by
  induction b using snoc_ind with
  | nil => rfl
  | snoc b x ih =>
    rw [esc_snoc, nq_snoc, List.length_append, ih, List.length_append]
    unfold esc1
    split <;> simp <;> omega
theorem needs_snoc (b : List UInt8) (x : UInt8) : needs (b ++ [x]) = (needs b || isQ x) := by simp [needs]
theorem class_eq (x : UInt8) : quote_class x = some (if x = 44 then 1 else if x = 34 then 2 else if x = 13 then 3 else if x = 10 then 4 else 0) := by
  unfold quote_class
  simp only [u8_44, u8_34, u8_13, u8_10]
  split
  · rfl
  · split
    · rfl
    · split
      · rfl
      · split <;> rfl
theorem class0 (x : UInt8) : (if x = 44 then 1 else if x = 34 then 2 else if x = 13 then 3 else if x = 10 then 4 else (0 : Int)) = 0 ↔ isQ x = false := by
  unfold isQ
  by_cases c1 : x = 44
  · simp [c1]
  · by_cases c2 : x = 34
    · simp [c2]
    · by_cases c3 : x = 13
      · simp [c3]
      · by_cases c4 : x = 10
        · simp [c4]
        · simp [c1, c2, c3, c4]
theorem class2 (x : UInt8) : (if x = 44 then 1 else if x = 34 then 2 else if x = 13 then 3 else if x = 10 then 4 else (0 : Int)) = 2 ↔ x = 34 := by
  by_cases c1 : x = 44
  · simp [c1]
  · by_cases c2 : x = 34
    · simp [c2]
    · by_cases c3 : x = 13
      · simp [c3]
      · by_cases c4 : x = 10
        · simp [c4]
        · simp [c1, c2, c3, c4]
/-! ### the functions -/
theorem needs_eq (b : List UInt8) (hb : b.length ≤ 1000000) : quote_Needs b = some (needs b) := by
  obtain ⟨t, g1, g2⟩ := loop_for (f := quote_Needs.l1 b) (σ := Unit) (fun k _ => k) b (fun pre _ => needs pre = false) (fun t => match t with | .brk _ => needs b = false | .ret v => v = true ∧ needs b = true)
    (fun pre x suf _ hs hI => by
      have hpl : pre.length + 1 ≤ b.length := by rw [hs]; simp
      unfold quote_Needs.l1
      rw [if_pos (by omega), show idx b (pre.length : Int) = some x by rw [hs]; exact idx_at pre x suf, bnd_some', class_eq, bnd_some']
      cases hq : isQ x with
      | false =>
        rw [if_pos ((class0 x).2 hq), w64_id ⟨by omega, by omega⟩]
        exact .inl ⟨(), rfl, by rw [needs_snoc, hI, hq]; rfl⟩
      | true =>
        rw [if_neg (fun h => by rw [(class0 x).1 h] at hq; cases hq)]
        refine .inr ⟨_, rfl, rfl, ?_⟩
        rw [hs]
        simp [needs, hq])
    (fun _ hI => by
      refine ⟨Ex.brk (), ?_, hI⟩
      unfold quote_Needs.l1
      rw [if_neg (by omega)]) (s0 := ()) rfl
  unfold quote_Needs
  rw [g1, bnd_some']
  cases t with
  | brk u => simp only at g2 ⊢; rw [g2]
  | ret v => simp only at g2 ⊢; rw [g2.1, g2.2]
theorem refNeeds_eq (b : List UInt8) (hb : b.length ≤ 1000000) : ref06_Needs b = some (needs b) := by
  obtain ⟨t, g1, g2⟩ := loop_for (f := ref06_Needs.l1 b) (σ := Unit) (fun k _ => k) b (fun pre _ => needs pre = false) (fun t => match t with | .brk _ => needs b = false | .ret v => v = true ∧ needs b = true)
    (fun pre x suf _ hs hI => by
      have hpl : pre.length + 1 ≤ b.length := by rw [hs]; simp
      have e : (if x = 44 then some true else if x = 34 then some true else if x = 13 then some true else some ((x.toNat : Int) == 10) : Option Bool) = some (isQ x) := by
        have h10 : ((x.toNat : Int) == 10) = (x == 10) := by rw [Bool.eq_iff_iff, beq_iff_eq, beq_iff_eq, u8_10]
        rw [h10]
        unfold isQ
        by_cases c1 : x = 44
        · simp [c1]
        · by_cases c2 : x = 34
          · simp [c2]
          · by_cases c3 : x = 13
            · simp [c3]
            · simp [c1, c2, c3]
      unfold ref06_Needs.l1
      rw [if_pos (by omega), show idx b (pre.length : Int) = some x by rw [hs]; exact idx_at pre x suf, bnd_some']
      simp only [u8_44, u8_34, u8_13]
      rw [e, bnd_some']
      cases hq : isQ x with
      | false =>
        rw [if_neg (by simp), w64_id ⟨by omega, by omega⟩]
        exact .inl ⟨(), rfl, by rw [needs_snoc, hI, hq]; rfl⟩
      | true =>
        rw [if_pos rfl]
        refine .inr ⟨_, rfl, rfl, ?_⟩
        rw [hs]
        simp [needs, hq])
    (fun _ hI => by
      refine ⟨Ex.brk (), ?_, hI⟩
      unfold ref06_Needs.l1
      rw [if_neg (by omega)]) (s0 := ()) rfl
  unfold ref06_Needs
  rw [g1, bnd_some']
  cases t with
  | brk u => simp only at g2 ⊢; rw [g2]
  | ret v => simp only at g2 ⊢; rw [g2.1, g2.2]
theorem quotes_eq (b : List UInt8) (hb : b.length ≤ 1000000) : quote_quotes b = some (nq b : Int) := by
  have h := loop_fold (f := quote_quotes.l1 b) (fun i (s : Int) => (s, i)) b (fun pre => (nq pre : Int)) (t := (nq b : Int))
    (fun pre x suf hs => by
      have hpl : pre.length + 1 ≤ b.length := by rw [hs]; simp
      have hn := nq_le pre
      unfold quote_quotes.l1
      simp only
      rw [if_pos (by omega), show idx b (pre.length : Int) = some x by rw [hs]; exact idx_at pre x suf, bnd_some', class_eq, bnd_some', nq_snoc]
      simp only [class2]
      by_cases c : x = 34
      · rw [if_pos c, if_pos c, w64_id ⟨by omega, by omega⟩, bnd_some', w64_id ⟨by omega, by omega⟩]; rfl
      · rw [if_neg c, if_neg c, bnd_some', w64_id ⟨by omega, by omega⟩]; rfl)
    (by
      unfold quote_quotes.l1
      simp only
      rw [if_neg (by omega)])
  unfold quote_quotes
  have h' : loop (quote_quotes.l1 b) (0, 0) = some (nq b : Int) := by simpa [nq] using h
  rw [h', bnd_some']
theorem width_eq (b : List UInt8) (hb : b.length ≤ 1000000) : quote_Width b = some ((put b).length : Int) := by
  have hn := nq_le b
  unfold quote_Width put
  rw [needs_eq b hb, bnd_some']
  cases needs b with
  | true =>
    rw [if_pos rfl, if_pos rfl, quotes_eq b hb, bnd_some', w64_id (x := (b.length : Int) + (nq b : Int)) ⟨by omega, by omega⟩, w64_id ⟨by omega, by omega⟩]
    simp [esc_nq]; omega
  | false => rw [if_neg (by simp), if_neg (by simp)]
theorem put_eq (b : List UInt8) (hb : b.length ≤ 1000000) : quote_Put b = some (put b) := by
  have hp := put_len b
  unfold quote_Put
  rw [width_eq b hb, bnd_some', mkc_of ⟨by omega, by omega⟩, bnd_some', needs_eq b hb, bnd_some']
  cases hn : needs b with
  | false =>
    rw [if_neg (by simp), app_of (by simp; omega), bnd_some']
    simp [put, hn]
  | true =>
    rw [if_pos rfl, app_of (by simp), bnd_some']
    have h := loop_fold (f := quote_Put.l1 b) (fun i (s : List UInt8) => (i, s)) b (fun pre => 34 :: esc pre) (t := 34 :: esc b)
      (fun pre x suf hs => by
        have hpl : pre.length + 1 ≤ b.length := by rw [hs]; simp
        have he := esc_len pre
        unfold quote_Put.l1
        simp only
        rw [if_pos (by omega), show idx b (pre.length : Int) = some x by rw [hs]; exact idx_at pre x suf, bnd_some', class_eq, bnd_some', esc_snoc]
        simp only [class2]
        by_cases c : x = 34
        · rw [if_pos c, app_of (by simp; omega), bnd_some', bnd_some', app_of (by simp; omega), bnd_some', w64_id ⟨by omega, by omega⟩]
          simp [esc1, c]
        · rw [if_neg c, bnd_some', app_of (by simp; omega), bnd_some', w64_id ⟨by omega, by omega⟩]
          simp [esc1, c])
      (by
        unfold quote_Put.l1
        simp only
        rw [if_neg (by omega)])
    have h' : loop (quote_Put.l1 b) (0, [34]) = some (34 :: esc b) := by simpa [esc] using h
    have he := esc_len b
    simp only [List.nil_append]
    rw [h', bnd_some', app_of (by simp; omega), bnd_some']
    simp [put, hn]
theorem refPut_eq (b : List UInt8) (hb : b.length ≤ 1000000) : ref06_Put b = some (put b) := by
  unfold ref06_Put
  rw [refNeeds_eq b hb, bnd_some']
  cases hn : needs b with
  | false => rw [if_neg (by simp)]; simp [put, hn]
  | true =>
    rw [if_pos rfl]
    have h := loop_fold (f := ref06_Put.l1 b) (fun i (s : List UInt8) => (s, i)) b (fun pre => 34 :: esc pre) (t := 34 :: esc b)
      (fun pre x suf hs => by
        have hpl : pre.length + 1 ≤ b.length := by rw [hs]; simp
        have he := esc_len pre
        have hx : idx b (pre.length : Int) = some x := by rw [hs]; exact idx_at pre x suf
        have hc : (b.take (pre.length + 1)).drop pre.length = [x] := by
          rw [hs, List.take_append, List.drop_append]; simp
        unfold ref06_Put.l1
        simp only
        rw [if_pos (by omega), w64_id (x := (pre.length : Int) + 1) ⟨by omega, by omega⟩, cut_of ⟨by omega, by omega, by omega⟩, bnd_some', show ((pre.length : Int) + 1).toNat = pre.length + 1 by omega, Int.toNat_natCast, hc, catS, if_pos (by simp; omega), bnd_some', hx, bnd_some', esc_snoc]
        simp only [u8_34]
        by_cases c : x = 34
        · rw [if_pos c, catS, if_pos (by simp; omega), bnd_some', bnd_some']
          simp [esc1, c]
        · rw [if_neg c, bnd_some']
          simp [esc1, c])
      (by
        unfold ref06_Put.l1
        simp only
        rw [if_neg (by omega)])
    have h' : loop (ref06_Put.l1 b) ([34], 0) = some (34 :: esc b) := by simpa [esc] using h
    have he := esc_len b
    rw [h', bnd_some', catS, if_pos (by simp; omega), bnd_some']
    simp [put, hn]
end Go.Proofs.Ytbcbggdgkdfciaa.S
