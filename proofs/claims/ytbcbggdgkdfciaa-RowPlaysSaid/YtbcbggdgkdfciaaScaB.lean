/- Chapter 5's rows, told plainly: rows, files, values; the laws ScanAll, ScanWhole, ScanMarks. -/
import Derived.Test.YtbcbggdgkdfciaaG0
import Derived.Test.YtbcbggdgkdfciaaG1xa
import Derived.Test.YtbcbggdgkdfciaaG3xa
import Derived.Test.YtbcbggdgkdfciaaG4xa
import Derived.Test.YtbcbggdgkdfciaaScaA
set_option linter.unusedVariables false
namespace Go.Proofs.Ytbcbggdgkdfciaa.S
open Go Go.Sm
/-! ### rows -/
abbrev fe (b : List UInt8) (i : Nat) : Nat := (fieldF b i).2.2
/-- Where a row's fields begin, and where the last one ends. -/
def fsF (b : List UInt8) : Nat → Nat → List Nat × Nat
  | 0, i => ([i], fe b i)
  | n + 1, i => if at_ b 44 (fe b i) = true then (i :: (fsF b n (fe b i + 1)).1, (fsF b n (fe b i + 1)).2) else ([i], fe b i)
def fs (b : List UInt8) (i : Nat) : List Nat × Nat := fsF b b.length i
theorem fsF_spec (b : List UInt8) (hb : b.length ≤ 1000000) : ∀ n i, b.length ≤ i + n → i ≤ b.length → i ≤ (fsF b n i).2 ∧ (fsF b n i).2 ≤ b.length ∧ mk b (fsF b n i).2 = true ∧ at_ b 44 (fsF b n i).2 = false ∧ (∀ j ∈ (fsF b n i).1, j ≤ b.length) ∧ (fsF b n i).1.length ≤ b.length + 1 - i := by
  intro n
  induction n with
  | zero =>
    intro i h hi
    obtain ⟨s1, s2, s3, s4, s5⟩ := fieldF_spec b hb i hi
    have : at_ b 44 (fe b i) = false := by
      cases hc : at_ b 44 (fe b i) with
      | false => rfl
      | true => have := at_in hc; simp only [fe] at this; omega
    exact ⟨s1, s2, s3, this, by simp only [fsF]; simpa using hi, by simp only [fsF, List.length_cons, List.length_nil]; omega⟩
  | succ n ih =>
    intro i h hi
    obtain ⟨s1, s2, s3, s4, s5⟩ := fieldF_spec b hb i hi
    simp only [fsF]
    by_cases c : at_ b 44 (fe b i) = true
    · have hlt := at_in c
      simp only [if_pos c]
      have h0 : i ≤ fe b i := s1
      obtain ⟨h1, h2, h3, h4, h5, h6⟩ := ih (fe b i + 1) (by omega) (by omega)
      refine ⟨by omega, h2, h3, h4, fun j hj => ?_, by simp only [List.length_cons]; omega⟩
      rcases List.mem_cons.1 hj with rfl | hj
      · exact hi
      · exact h5 j hj
    · simp only [if_neg c]
      exact ⟨s1, s2, s3, by simpa using c, by simpa using hi, by simp only [List.length_cons, List.length_nil]; omega⟩
def endF (b : List UInt8) (e : Nat) : Int × Nat := if at_ b 10 e = true then (1, e + 1) else if at_ b 13 e = true then (if at_ b 10 (e + 1) = true then (2, e + 2) else (3, e + 1)) else (0, e)
theorem end_eq (b : List UInt8) (hb : b.length ≤ 1000000) (e : Nat) (he : e ≤ b.length) : scan_reader_end b (e : Int) = some ((endF b e).1, (((endF b e).2 : Nat) : Int)) := by
  unfold scan_reader_end endF
  rw [is_eq, bnd_some', w64_id (x := (e : Int) + 1) ⟨by omega, by omega⟩, show (e : Int) + 1 = ((e + 1 : Nat) : Int) by omega, is_eq, bnd_some', is_eq, bnd_some', w64_id (x := ((e + 1 : Nat) : Int) + 1) ⟨by omega, by omega⟩]
  cases at_ b 10 e <;> cases at_ b 13 e <;> cases at_ b 10 (e + 1) <;> simp <;> omega
theorem endF_spec (b : List UInt8) (e : Nat) (he : e ≤ b.length) : e ≤ (endF b e).2 ∧ (endF b e).2 ≤ b.length ∧ ((mk b e = true) → at_ b 44 e = false → e < b.length → e < (endF b e).2) := by
  unfold endF
  by_cases c1 : at_ b 10 e = true
  · have := at_in c1
    rw [if_pos c1]; exact ⟨by simp, by simp only; omega, fun _ _ _ => by simp⟩
  · rw [if_neg c1]
    by_cases c2 : at_ b 13 e = true
    · have := at_in c2
      rw [if_pos c2]
      by_cases c3 : at_ b 10 (e + 1) = true
      · have := at_in c3
        rw [if_pos c3]; exact ⟨by simp, by simp only; omega, fun _ _ _ => by simp⟩
      · rw [if_neg c3]; exact ⟨by simp, by simp only; omega, fun _ _ _ => by simp⟩
    · rw [if_neg c2]
      refine ⟨Nat.le_refl _, he, fun hm h44 hlt => ?_⟩
      exfalso
      simp only [at_, List.getElem?_eq_getElem hlt, mk, isMark] at *
      simp at c1 c2 hm h44
      rcases hm with (h | h) | h
      · exact h44 h
      · exact c2 h
      · exact c1 h
def sRow (b : List UInt8) (i : Nat) : scan_Row := ⟨(fs b i).1.map (sField b), (endF b (fs b i).2).1⟩
def rRow (b : List UInt8) (i : Nat) : ref05_Row := ⟨(fs b i).1.map (rField b), (endF b (fs b i).2).1⟩
def nx (b : List UInt8) (i : Nat) : Nat := (endF b (fs b i).2).2
theorem sRowLoop (b : List UInt8) (hb : b.length ≤ 1000000) : ∀ n i acc, b.length ≤ i + n → i ≤ b.length → acc.length ≤ i → loop (scan_reader_row.l1 b) (((fe b i : Nat) : Int), acc ++ [sField b i]) = some ((((fsF b n i).2 : Nat) : Int), acc ++ (fsF b n i).1.map (sField b)) := by
  have stop : ∀ i acc, at_ b 44 (fe b i) = false → scan_reader_row.l1 b (((fe b i : Nat) : Int), acc) = some (.done (((fe b i : Nat) : Int), acc)) := fun i acc h => by
    unfold scan_reader_row.l1
    simp only
    rw [is_eq, bnd_some', h, if_neg (by simp)]
  intro n
  induction n with
  | zero =>
    intro i acc h hi hl
    obtain ⟨s1, s2, s3, s4, s5⟩ := fieldF_spec b hb i hi
    refine loop_done (stop i _ ?_)
    cases hc : at_ b 44 (fe b i) with
    | false => rfl
    | true => have := at_in hc; simp only [fe] at this; omega
  | succ n ih =>
    intro i acc h hi hl
    obtain ⟨s1, s2, s3, s4, s5⟩ := fieldF_spec b hb i hi
    have h0 : i ≤ fe b i := s1
    simp only [fsF]
    by_cases c : at_ b 44 (fe b i) = true
    · have hlt := at_in c
      rw [if_pos c]
      refine loop_next (s' := (((fe b (fe b i + 1) : Nat) : Int), (acc ++ [sField b i]) ++ [sField b (fe b i + 1)])) ?_ ?_
      · unfold scan_reader_row.l1
        simp only
        rw [is_eq, bnd_some', c, if_pos rfl, w64_id ⟨by omega, by omega⟩, show ((fe b i : Nat) : Int) + 1 = ((fe b i + 1 : Nat) : Int) by omega, sField_eq b hb _ (by omega), bnd_some', app_of (by simp; omega), bnd_some']
      · rw [ih (fe b i + 1) (acc ++ [sField b i]) (by omega) (by omega) (by simp; omega)]
        simp
    · rw [if_neg c]
      exact loop_done (stop i _ (by simpa using c))
theorem sRow_eq (b : List UInt8) (hb : b.length ≤ 1000000) (i : Nat) (hi : i ≤ b.length) : scan_reader_row b (i : Int) = some (sRow b i, ((nx b i : Nat) : Int)) := by
  obtain ⟨h1, h2, h3, h4, h5, h6⟩ := fsF_spec b hb b.length i (by omega) hi
  unfold scan_reader_row
  rw [sField_eq b hb i hi, bnd_some']
  have := sRowLoop b hb b.length i [] (by omega) hi (by simp)
  simp only [List.nil_append] at this
  simp only
  rw [this, bnd_some']
  simp only
  rw [end_eq b hb _ h2, bnd_some']
  rfl
theorem rRowLoop (b : List UInt8) (hb : b.length ≤ 1000000) : ∀ n i acc, b.length ≤ i + n → i ≤ b.length → acc.length ≤ i → loop (ref05_One.l1 b) ((i : Int), acc) = some ((((fsF b n i).2 : Nat) : Int), acc ++ (fsF b n i).1.map (rField b)) := by
  have one : ∀ (i : Nat) acc, i ≤ b.length → acc.length ≤ i → ref05_One.l1 b ((i : Int), acc) = some (if at_ b 44 (fe b i) = true then .next (((fe b i + 1 : Nat) : Int), acc ++ [rField b i]) else .done (((fe b i : Nat) : Int), acc ++ [rField b i])) := fun i acc hi hl => by
    obtain ⟨s1, s2, s3, s4, s5⟩ := fieldF_spec b hb i hi
    unfold ref05_One.l1
    simp only
    rw [rField_eq b hb i hi, bnd_some', app_of (by simp; omega), bnd_some']
    have e : w64 ((rField b i).fRaw.fAt + (rField b i).fRaw.fN) = ((fe b i : Nat) : Int) := by
      simp only [rField, fe]
      rw [w64_id ⟨by omega, by omega⟩]; omega
    rw [e]
    have e2 : (if ((fe b i : Nat) : Int) ≥ (b.length : Int) then some true else bnd (idx b ((fe b i : Nat) : Int)) fun x23 => some (!((x23.toNat : Int) == 44)) : Option Bool) = some (!(at_ b 44 (fe b i))) := by
      by_cases h : b.length ≤ fe b i
      · rw [if_pos (by omega)]
        simp [at_, List.getElem?_eq_none h]
      · have h' : fe b i < b.length := by omega
        rw [if_neg (by omega), idx_nat (List.getElem?_eq_getElem h'), bnd_some']
        simp only [at_, List.getElem?_eq_getElem h']
        congr 2
        rw [Bool.eq_iff_iff, beq_iff_eq, beq_iff_eq, u8_44, Option.some.injEq]
    rw [e2, bnd_some']
    cases hc : at_ b 44 (fe b i) with
    | true =>
      have := at_in hc
      rw [if_neg (by simp), if_pos rfl, w64_id ⟨by omega, by omega⟩]
      congr 3
    | false => rw [if_pos (by rfl), if_neg (by simp)]
  intro n
  induction n with
  | zero =>
    intro i acc h hi hl
    obtain ⟨s1, s2, s3, s4, s5⟩ := fieldF_spec b hb i hi
    refine loop_done ?_
    rw [one i acc hi hl, if_neg]
    · rfl
    · intro hc; have := at_in hc; simp only [fe] at this; omega
  | succ n ih =>
    intro i acc h hi hl
    obtain ⟨s1, s2, s3, s4, s5⟩ := fieldF_spec b hb i hi
    have h0 : i ≤ fe b i := s1
    simp only [fsF]
    by_cases c : at_ b 44 (fe b i) = true
    · have hlt := at_in c
      rw [if_pos c]
      refine loop_next (by rw [one i acc hi hl, if_pos c]) ?_
      rw [ih (fe b i + 1) (acc ++ [rField b i]) (by omega) (by omega) (by simp; omega)]
      simp
    · rw [if_neg c]
      exact loop_done (by rw [one i acc hi hl, if_neg c]; rfl)
theorem rRow_eq (b : List UInt8) (hb : b.length ≤ 1000000) (i : Nat) (hi : i < b.length) : ref05_One b (i : Int) = some (rRow b i, ((nx b i : Nat) : Int)) := by
  obtain ⟨h1, h2, h3, h4, h5, h6⟩ := fsF_spec b hb b.length i (by omega) (by omega)
  unfold ref05_One
  rw [if_neg (by omega), decide_eq_false (by omega), bnd_some', if_neg (by simp)]
  have := rRowLoop b hb b.length i [] (by omega) (by omega) (by simp)
  simp only [List.nil_append] at this
  rw [this, bnd_some']
  unfold rRow nx
  rw [show fs b i = fsF b b.length i from rfl]
  generalize fsF b b.length i = r at *
  obtain ⟨L, e⟩ := r
  simp only at *
  unfold endF
  have q : ∀ (c : UInt8) (n : Nat), (c.toNat = n) → ∀ x : UInt8, ((x.toNat : Int) == (n : Int)) = (x == c) := fun c n hc x => by
    rw [Bool.eq_iff_iff, beq_iff_eq, beq_iff_eq, ← u8n, hc]
  have e10 : (if (e : Int) < (b.length : Int) then bnd (idx b (e : Int)) fun x27 => some ((x27.toNat : Int) == 10) else some false : Option Bool) = some (at_ b 10 e) := by
    by_cases h : e < b.length
    · rw [if_pos (by omega), idx_nat (List.getElem?_eq_getElem h), bnd_some']
      simp only [at_, List.getElem?_eq_getElem h]
      rw [show ((10 : Int)) = ((10 : Nat) : Int) from rfl, q 10 10 rfl]
      simp
    · rw [if_neg (by omega)]; simp [at_, List.getElem?_eq_none (show b.length ≤ e by omega)]
  rw [e10, bnd_some']
  by_cases c1 : at_ b 10 e = true
  · rw [if_pos c1, if_pos c1, w64_id ⟨by omega, by omega⟩]; rfl
  · rw [if_neg c1, if_neg c1, w64_id (x := (e : Int) + 1) ⟨by omega, by omega⟩]
    have e13 : (if (e : Int) + 1 < (b.length : Int) then bnd (idx b (e : Int)) fun x31 => if (x31.toNat : Int) = 13 then bnd (idx b ((e : Int) + 1)) fun x33 => some ((x33.toNat : Int) == 10) else some false else some false : Option Bool) = some (at_ b 13 e && at_ b 10 (e + 1)) := by
      by_cases h : e + 1 < b.length
      · have h' : e < b.length := by omega
        rw [if_pos (by omega), idx_nat (List.getElem?_eq_getElem h'), bnd_some', show (e : Int) + 1 = ((e + 1 : Nat) : Int) by omega, idx_nat (List.getElem?_eq_getElem h), bnd_some']
        simp only [at_, List.getElem?_eq_getElem h, List.getElem?_eq_getElem h']
        rw [show ((10 : Int)) = ((10 : Nat) : Int) from rfl, q 10 10 rfl]
        simp only [u8_13]
        by_cases c : b[e] = 13
        · simp [c]
        · simp [c]
      · rw [if_neg (by omega)]
        have : at_ b 10 (e + 1) = false := by simp [at_, List.getElem?_eq_none (show b.length ≤ e + 1 by omega)]
        rw [this]; simp
    rw [e13, bnd_some']
    by_cases c2 : at_ b 13 e = true
    · have := at_in c2
      rw [if_pos c2, c2]
      by_cases c3 : at_ b 10 (e + 1) = true
      · rw [if_pos c3, c3, if_pos (by rfl), w64_id ⟨by omega, by omega⟩]; rfl
      · rw [if_neg c3, if_neg (by simpa using c3), if_pos (by omega)]; rfl
    · have hlt : ¬ e < b.length := by
        intro hlt
        simp only [at_, List.getElem?_eq_getElem hlt, mk, isMark] at *
        simp at c1 c2 h3 h4
        rcases h3 with (h | h) | h
        · exact h4 h
        · exact c2 h
        · exact c1 h
      rw [if_neg c2, if_neg (by simp [c2]), if_neg (by omega)]
theorem nx_lt (b : List UInt8) (hb : b.length ≤ 1000000) (i : Nat) (hi : i < b.length) : i < nx b i ∧ nx b i ≤ b.length := by
  obtain ⟨h1, h2, h3, h4, h5, h6⟩ := fsF_spec b hb b.length i (by omega) (by omega)
  obtain ⟨g1, g2, g3⟩ := endF_spec b (fs b i).2 h2
  refine ⟨?_, g2⟩
  rcases Nat.lt_or_ge (fs b i).2 b.length with h | h
  · have := g3 h3 h4 h
    have h1' : i ≤ (fs b i).2 := h1
    simp only [nx]; omega
  · simp only [nx]; omega
/-- Where rows begin. -/
def rsF (b : List UInt8) : Nat → Nat → List Nat
  | 0, _ => []
  | n + 1, i => if i < b.length then i :: rsF b n (nx b i) else []
theorem sAllLoop (b : List UInt8) (hb : b.length ≤ 1000000) : ∀ n i acc, b.length ≤ i + n → i ≤ b.length → acc.length ≤ i → loop (scan_All.l1 b) (acc, (i : Int)) = some (acc ++ (rsF b n i).map (sRow b)) := by
  have stop : ∀ (i : Nat) acc, b.length ≤ i → scan_All.l1 b (acc, (i : Int)) = some (.done acc) := fun i acc h => by
    unfold scan_All.l1
    simp only
    rw [done_eq, bnd_some', decide_eq_true h, if_pos rfl]
  intro n
  induction n with
  | zero => intro i acc h hi hl; rw [show acc ++ (rsF b 0 i).map (sRow b) = acc by simp [rsF]]; exact loop_done (stop i acc (by omega))
  | succ n ih =>
    intro i acc h hi hl
    simp only [rsF]
    by_cases c : i < b.length
    · rw [if_pos c]
      obtain ⟨n1, n2⟩ := nx_lt b hb i c
      refine loop_next (s' := (acc ++ [sRow b i], ((nx b i : Nat) : Int))) ?_ ?_
      · unfold scan_All.l1
        simp only
        rw [done_eq, bnd_some', decide_eq_false (by omega), if_neg (by simp), sRow_eq b hb i hi, bnd_some', app_of (by simp; omega), bnd_some']
      · rw [ih _ _ (by omega) n2 (by simp; omega)]; simp
    · rw [if_neg c, show acc ++ List.map (sRow b) [] = acc by simp]; exact loop_done (stop i acc (by omega))
def rs (b : List UInt8) : List Nat := rsF b b.length 0
theorem sAll_eq (b : List UInt8) (hb : b.length ≤ 1000000) : scan_All b = some ((rs b).map (sRow b)) := by
  unfold scan_All
  have := sAllLoop b hb b.length 0 [] (by omega) (by omega) (by simp)
  rw [show ((0 : Nat) : Int) = 0 from rfl] at this
  rw [this, bnd_some']; rfl
theorem rsF_spec (b : List UInt8) (hb : b.length ≤ 1000000) : ∀ n i, i ≤ b.length → (∀ j ∈ rsF b n i, j < b.length) ∧ (rsF b n i).length ≤ n := by
  intro n
  induction n with
  | zero => intro i _; simp [rsF]
  | succ n ih =>
    intro i hi
    simp only [rsF]
    by_cases c : i < b.length
    · rw [if_pos c]
      obtain ⟨n1, n2⟩ := nx_lt b hb i c
      obtain ⟨h1, h2⟩ := ih (nx b i) n2
      exact ⟨fun j hj => by
        rcases List.mem_cons.1 hj with rfl | hj
        · exact c
        · exact h1 j hj, by simp only [List.length_cons]; omega⟩
    · rw [if_neg c]; simp
theorem starts_spec (b : List UInt8) (hb : b.length ≤ 1000000) (i : Nat) (hi : i ≤ b.length) : (∀ j ∈ (fs b i).1, j ≤ b.length) ∧ (fs b i).1.length ≤ 1000001 := by
  obtain ⟨h1, h2, h3, h4, h5, h6⟩ := fsF_spec b hb b.length i (by omega) hi
  exact ⟨h5, by have : (fs b i).1.length ≤ b.length + 1 - i := h6
                omega⟩
theorem places_good {b : List UInt8} (hb : b.length ≤ 1000000) {i : Nat} (hi : i ≤ b.length) : GoodP (fieldF b i).2.1 ∧ (fieldF b i).2.1.length ≤ 1000000 ∧ ∀ x ∈ (fieldF b i).2.1, 0 ≤ x ∧ x < (b.length : Int) := by
  obtain ⟨s1, s2, s3, s4, s5⟩ := fieldF_spec b hb i hi
  exact ⟨fun x hx => by have := s4 x hx; omega, by omega, s4⟩
/-! ### values -/
def bytesAt (b : List UInt8) (p : List Int) : List UInt8 := p.filterMap fun x => b[x.toNat]?
theorem bytesAt_append (b : List UInt8) (p r : List Int) : bytesAt b (p ++ r) = bytesAt b p ++ bytesAt b r := by simp [bytesAt]
theorem bytesAt_len (b : List UInt8) (p : List Int) : (bytesAt b p).length ≤ p.length := List.length_filterMap_le _ _
theorem take_one (b : List UInt8) (n : Nat) (h : n < b.length) : b.take (n + 1) = b.take n ++ [b[n]] := List.take_succ_eq_append_getElem h
theorem bytes_range (b : List UInt8) (a : Nat) : ∀ n, a + n ≤ b.length → (b.take (a + n)).drop a = bytesAt b (rangeI (a : Int) n)
  | 0, h => by rw [List.drop_eq_nil_of_le (by simp; omega)]; rfl
  | n + 1, h => by
    rw [← Nat.add_assoc, take_one b (a + n) (by omega), List.drop_append_of_le_length (by simp; omega), bytes_range b a n (by omega), rangeI_succ, bytesAt_append]
    congr 1
    simp only [bytesAt, List.filterMap_cons, List.filterMap_nil]
    rw [show ((a : Int) + (n : Int)).toNat = a + n by omega, List.getElem?_eq_getElem (by omega)]
theorem text_eq (b : List UInt8) (hb : b.length ≤ 1000000) (p : List Int) (hp : ∀ x ∈ p, 0 ≤ x ∧ x < (b.length : Int)) (hl : p.length ≤ 1000000) : ref05_Text b p = some (bytesAt b p) := by
  have h := loop_fold (f := ref05_Text.l1 b p) (fun i (s : List UInt8) => (s, i)) p (fun pre => bytesAt b pre) (t := bytesAt b p)
    (fun pre x suf hs => by
      have hx := hp x (by rw [hs]; simp)
      have hpl : pre.length + 1 ≤ p.length := by rw [hs]; simp
      have hbl := bytesAt_len b pre
      unfold ref05_Text.l1
      simp only
      rw [if_pos (by omega), show idx p (pre.length : Int) = some x by rw [hs]; exact idx_at pre x suf, bnd_some', w64_id (x := x + 1) ⟨by omega, by omega⟩, cut_of ⟨by omega, by omega, by omega⟩, bnd_some', w64_id ⟨by omega, by omega⟩]
      have e : (b.take (x + 1).toNat).drop x.toNat = bytesAt b [x] := by
        have := bytes_range b x.toNat 1 (by omega)
        rw [show (x + 1).toNat = x.toNat + 1 by omega, this, show rangeI ((x.toNat : Nat) : Int) 1 = [x] by simp [rangeI]; omega]
      rw [e, bytesAt_append]
      have hl1 := bytesAt_len b [x]
      simp only [List.length_cons, List.length_nil] at hl1
      rw [catS, if_pos (by omega), bnd_some'])
    (by
      unfold ref05_Text.l1
      simp only
      rw [if_neg (by omega)])
  unfold ref05_Text
  have h' : loop (ref05_Text.l1 b p) ([], 0) = some (bytesAt b p) := by simpa [bytesAt] using h
  rw [h', bnd_some']
end Go.Proofs.Ytbcbggdgkdfciaa.S
