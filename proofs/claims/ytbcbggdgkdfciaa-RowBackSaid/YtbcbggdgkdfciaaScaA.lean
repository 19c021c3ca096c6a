/- Chapter 5's rows, told plainly: marks, fields, ends, rows: what the program and the document compute place by place. -/
import Derived.Test.YtbcbggdgkdfciaaG0
import Derived.Test.YtbcbggdgkdfciaaG1xa
import Derived.Test.YtbcbggdgkdfciaaG4xa
import Derived.Test.YtbcbggdgkdfciaaCan
set_option linter.unusedVariables false
namespace Go.Proofs.Ytbcbggdgkdfciaa.S
open Go Go.Sm
/-! ### bytes -/
theorem u8n (x : UInt8) (c : UInt8) : ((x.toNat : Int) = (c.toNat : Int)) ↔ x = c := ⟨fun h => UInt8.toNat_inj.1 (by omega), fun h => by rw [h]⟩
theorem u8_44 (x : UInt8) : ((x.toNat : Int) = 44) ↔ x = 44 := u8n x 44
theorem u8_13 (x : UInt8) : ((x.toNat : Int) = 13) ↔ x = 13 := u8n x 13
theorem u8_10 (x : UInt8) : ((x.toNat : Int) = 10) ↔ x = 10 := u8n x 10
theorem u8_34 (x : UInt8) : ((x.toNat : Int) = 34) ↔ x = 34 := u8n x 34
def at_ (b : List UInt8) (c : UInt8) (i : Nat) : Bool := b[i]? == some c
def isMark (x : UInt8) : Bool := x == 44 || x == 13 || x == 10
def mk (b : List UInt8) (i : Nat) : Bool := match b[i]? with | none => true | some x => isMark x
theorem mk_out {b : List UInt8} {i : Nat} (h : b.length ≤ i) : mk b i = true := by unfold mk; rw [List.getElem?_eq_none h]
theorem mk_in {b : List UInt8} {i : Nat} (h : mk b i = false) : i < b.length := by
  rcases Nat.lt_or_ge i b.length with h' | h'
  · exact h'
  · rw [mk_out h'] at h; cases h
theorem at_in {b : List UInt8} {c : UInt8} {i : Nat} (h : at_ b c i = true) : i < b.length := by
  simp only [at_, beq_iff_eq] at h
  exact (List.getElem?_eq_some_iff.1 h).1
theorem done_eq (b : List UInt8) (i : Nat) : scan_reader_done b (i : Int) = some (decide (b.length ≤ i)) := by
  unfold scan_reader_done
  congr 1
  exact decide_eq_decide.2 ⟨fun h => by omega, fun h => by omega⟩
theorem is_eq (c : UInt8) (b : List UInt8) (i : Nat) : scan_reader_is c b (i : Int) = some (at_ b c i) := by
  unfold scan_reader_is
  rw [done_eq, bnd_some']
  by_cases h : b.length ≤ i
  · rw [decide_eq_true h, if_pos rfl, bnd_some']
    simp [at_, List.getElem?_eq_none h]
  · rw [decide_eq_false h, if_neg (by simp), idx_nat (List.getElem?_eq_getElem (by omega)), bnd_some', bnd_some']
    simp only [at_, List.getElem?_eq_getElem (show i < b.length by omega)]
    congr 1
    rw [Bool.eq_iff_iff, beq_iff_eq, beq_iff_eq, u8n, Option.some.injEq]
theorem quote_eq (b : List UInt8) (i : Nat) : ref05_quote b (i : Int) = some (at_ b 34 i) := by
  unfold ref05_quote
  by_cases h : (i : Int) < (b.length : Int)
  · have h' : i < b.length := by omega
    rw [if_pos h, idx_nat (List.getElem?_eq_getElem h'), bnd_some', bnd_some']
    simp only [at_, List.getElem?_eq_getElem h']
    congr 1
    rw [Bool.eq_iff_iff, beq_iff_eq, beq_iff_eq, u8_34, Option.some.injEq]
  · rw [if_neg h, bnd_some']
    simp [at_, List.getElem?_eq_none (show b.length ≤ i by omega)]
theorem marked_eq (b : List UInt8) (i : Nat) : scan_reader_marked b (i : Int) = some (mk b i) := by
  unfold scan_reader_marked
  rw [done_eq, bnd_some']
  by_cases h : b.length ≤ i
  · rw [decide_eq_true h, if_pos rfl, mk_out h]
  · have h' : i < b.length := by omega
    rw [decide_eq_false h, if_neg (by simp), idx_nat (List.getElem?_eq_getElem h'), bnd_some']
    simp only [mk, List.getElem?_eq_getElem h', isMark, u8_44, u8_13]
    by_cases c1 : b[i] = 44
    · simp [c1]
    · by_cases c2 : b[i] = 13
      · simp [c2]
      · have e : (((b[i]).toNat : Int) == 10) = (b[i] == 10) := by rw [Bool.eq_iff_iff, beq_iff_eq, beq_iff_eq, u8_10]
        rw [if_neg c1, if_neg c2, bnd_some', e]
        cases hb : b[i] == 10 <;> simp [c1, c2]
theorem mark_eq (b : List UInt8) (i : Nat) : ref05_mark b (i : Int) = some (mk b i) := by
  unfold ref05_mark
  by_cases h : (i : Int) ≥ (b.length : Int)
  · rw [if_pos h, bnd_some', mk_out (by omega)]
  · have h' : i < b.length := by omega
    rw [if_neg h, idx_nat (List.getElem?_eq_getElem h'), bnd_some']
    simp only [mk, List.getElem?_eq_getElem h', isMark, u8_44, u8_13]
    by_cases c1 : b[i] = 44
    · simp [c1]
    · by_cases c2 : b[i] = 13
      · simp [c2]
      · have e : (((b[i]).toNat : Int) == 10) = (b[i] == 10) := by rw [Bool.eq_iff_iff, beq_iff_eq, beq_iff_eq, u8_10]
        rw [if_neg c1, if_neg c2, bnd_some', e]
        simp [c1, c2]
/-! ### the next mark -/
def tlF (b : List UInt8) : Nat → Nat → Nat
  | 0, i => i
  | n + 1, i => if mk b i = true then i else tlF b n (i + 1)
def tl (b : List UInt8) (i : Nat) : Nat := tlF b b.length i
theorem tlF_spec (b : List UInt8) : ∀ n i, b.length ≤ i + n → i ≤ tlF b n i ∧ mk b (tlF b n i) = true ∧ (∀ k, i ≤ k → k < tlF b n i → mk b k = false) ∧ (i ≤ b.length → tlF b n i ≤ b.length)
  | 0, i, h => ⟨Nat.le_refl _, mk_out h, fun k h1 h2 => by simp only [tlF] at h2; omega, id⟩
  | n + 1, i, h => by
    simp only [tlF]
    by_cases c : mk b i = true
    · rw [if_pos c]; exact ⟨Nat.le_refl _, c, fun k h1 h2 => by omega, id⟩
    · rw [if_neg c]
      have hi := mk_in (by simpa using c)
      obtain ⟨h1, h2, h3, h4⟩ := tlF_spec b n (i + 1) (by omega)
      refine ⟨by omega, h2, fun k k1 k2 => ?_, fun _ => h4 hi⟩
      by_cases hk : k = i
      · subst hk; simpa using c
      · exact h3 k (by omega) k2
theorem tl_spec (b : List UInt8) (i : Nat) : i ≤ tl b i ∧ mk b (tl b i) = true ∧ (∀ k, i ≤ k → k < tl b i → mk b k = false) ∧ (i ≤ b.length → tl b i ≤ b.length) := tlF_spec b b.length i (by omega)
/-- Does a quote stand among so many bytes? -/
def aq (b : List UInt8) (i n : Nat) : Bool := (List.range n).any fun k => at_ b 34 (i + k)
theorem aq_succ (b : List UInt8) (i n : Nat) : aq b i (n + 1) = (aq b i n || at_ b 34 (i + n)) := by simp [aq, List.range_succ]
theorem plain_eq (b : List UInt8) (i : Nat) (hi : i ≤ b.length) (hb : b.length ≤ 1000000) : scan_reader_plain b (i : Int) = some (aq b i (tl b i - i), ((tl b i : Nat) : Int)) := by
  obtain ⟨h1, h2, h3, h4⟩ := tl_spec b i
  have h4' := h4 hi
  have h := loop_nat (f := scan_reader_plain.l1 b) (fun k (s : Bool) => (s, (i : Int) + k)) (tl b i - i) (fun n => aq b i n) (t := (aq b i (tl b i - i), ((tl b i : Nat) : Int)))
    (fun k hk => by
      unfold scan_reader_plain.l1
      simp only
      rw [show (i : Int) + (k : Int) = ((i + k : Nat) : Int) by omega, marked_eq, bnd_some', h3 (i + k) (by omega) (by omega), if_neg (by simp), is_eq, bnd_some', aq_succ]
      have e : (if aq b i k = true then some true else some (at_ b 34 (i + k)) : Option Bool) = some (aq b i k || at_ b 34 (i + k)) := by cases aq b i k <;> rfl
      rw [e, bnd_some', w64_id ⟨by omega, by omega⟩]
      congr 3)
    (by
      unfold scan_reader_plain.l1
      simp only
      rw [show (i : Int) + ((tl b i - i : Nat) : Int) = ((tl b i : Nat) : Int) by omega, marked_eq, bnd_some', h2, if_pos rfl])
  unfold scan_reader_plain
  have h' : loop (scan_reader_plain.l1 b) (false, (i : Int)) = some (aq b i (tl b i - i), ((tl b i : Nat) : Int)) := by simpa [aq] using h
  rw [h', bnd_some']
theorem till_eq (b : List UInt8) (i : Nat) (hi : i ≤ b.length) (hb : b.length ≤ 1000000) : ref05_till b (i : Int) = some ((tl b i : Nat) : Int) := by
  obtain ⟨h1, h2, h3, h4⟩ := tl_spec b i
  have h4' := h4 hi
  have h := loop_nat (f := ref05_till.l1 b) (fun k (_ : Unit) => (i : Int) + k) (tl b i - i) (fun _ => ()) (t := ((tl b i : Nat) : Int))
    (fun k hk => by
      unfold ref05_till.l1
      rw [show (i : Int) + (k : Int) = ((i + k : Nat) : Int) by omega, mark_eq, bnd_some', h3 (i + k) (by omega) (by omega), if_neg (by simp), w64_id ⟨by omega, by omega⟩]
      congr 2)
    (by
      unfold ref05_till.l1
      rw [show (i : Int) + ((tl b i - i : Nat) : Int) = ((tl b i : Nat) : Int) by omega, mark_eq, bnd_some', h2, if_pos rfl])
  unfold ref05_till
  have h' : loop (ref05_till.l1 b) (i : Int) = some ((tl b i : Nat) : Int) := by simpa using h
  rw [h', bnd_some']
theorem places2_eq (i j : Nat) (L : List Int) (hij : i ≤ j) (hj : j ≤ 1000000) (hL : L.length ≤ 1000000) : ref05_places_2 (i : Int) (j : Int) L = some (L ++ rangeI (i : Int) (j - i)) := by
  have h := loop_nat (f := ref05_places_2.l1 (j : Int)) (fun k (s : List Int) => ((i : Int) + k, s)) (j - i) (fun n => L ++ rangeI (i : Int) n) (t := L ++ rangeI (i : Int) (j - i))
    (fun k hk => by
      unfold ref05_places_2.l1
      simp only
      rw [if_pos (by omega), app_of (by simp [rangeI_len]; omega), bnd_some', w64_id ⟨by omega, by omega⟩, rangeI_succ, List.append_assoc]
      congr 3)
    (by
      unfold ref05_places_2.l1
      simp only
      rw [if_neg (by omega)])
  unfold ref05_places_2
  have h' : loop (ref05_places_2.l1 (j : Int)) ((i : Int), L) = some (L ++ rangeI (i : Int) (j - i)) := by simpa [rangeI] using h
  rw [h', bnd_some']
theorem places_eq (i j : Nat) (hij : i ≤ j) (hj : j ≤ 1000000) : ref05_places (i : Int) (j : Int) = some (rangeI (i : Int) (j - i)) := by
  have h := loop_nat (f := ref05_places.l1 (j : Int)) (fun k (s : List Int) => ((i : Int) + k, s)) (j - i) (fun n => rangeI (i : Int) n) (t := rangeI (i : Int) (j - i))
    (fun k hk => by
      unfold ref05_places.l1
      simp only
      rw [if_pos (by omega), app_of (by simp [rangeI_len]; omega), bnd_some', w64_id ⟨by omega, by omega⟩, rangeI_succ]
      congr 3)
    (by
      unfold ref05_places.l1
      simp only
      rw [if_neg (by omega)])
  unfold ref05_places
  have h' : loop (ref05_places.l1 (j : Int)) ((i : Int), []) = some (rangeI (i : Int) (j - i)) := by simpa [rangeI] using h
  rw [h', bnd_some']
theorem kind_eq (b : List UInt8) (i j : Nat) (hij : i ≤ j) (hj : j ≤ 1000000) : loop (ref05_field.l2 b (j : Int)) ((i : Int), 0) = some (if aq b i (j - i) = true then 2 else 0) := by
  have h := loop_nat (f := ref05_field.l2 b (j : Int)) (fun k (s : Int) => ((i : Int) + k, s)) (j - i) (fun n => if aq b i n = true then 2 else 0) (t := if aq b i (j - i) = true then 2 else 0)
    (fun k hk => by
      unfold ref05_field.l2
      simp only
      rw [if_pos (by omega), show (i : Int) + (k : Int) = ((i + k : Nat) : Int) by omega, quote_eq, bnd_some', aq_succ]
      have e : (if at_ b 34 (i + k) = true then some 2 else some (if aq b i k = true then 2 else 0) : Option Int) = some (if (aq b i k || at_ b 34 (i + k)) = true then 2 else 0) := by
        cases aq b i k <;> cases at_ b 34 (i + k) <;> rfl
      rw [e, bnd_some', w64_id ⟨by omega, by omega⟩]
      congr 3)
    (by
      unfold ref05_field.l2
      simp only
      rw [if_neg (by omega)])
  simpa [aq] using h
/-! ### spans -/
theorem addS_canon (p : List Int) (i : Int) (n : Nat) : addS (canon p) ⟨i, n⟩ = canon (p ++ rangeI i n) := by
  rw [← addI_range]; simp [canon, List.foldl_append]
theorem add2_eq (i j : Nat) (p : List Int) (hp : GoodP p) (hpl : p.length ≤ 1000000) (hij : i ≤ j) (hj : j ≤ 1000000) : scan_parts_add_2 (i : Int) (j : Int) (canon p) = some (canon (p ++ rangeI (i : Int) (j - i))) := by
  have hc := canon_len p
  have hg := canon_good p hp
  unfold scan_parts_add_2
  by_cases h : (j : Int) ≤ (i : Int)
  · rw [if_pos h, show j - i = 0 by omega]; simp [rangeI]
  · have hs' : Good (⟨(i : Int), ((j - i : Nat) : Int)⟩ : arena_Span) := by simp only [Good]; omega
    have hlt : ¬ ((⟨(i : Int), ((j - i : Nat) : Int)⟩ : arena_Span).fN < 1) := by simp only; omega
    rw [if_neg h, ← addS_canon, w64_id (x := (j : Int) - (i : Int)) ⟨by omega, by omega⟩, show (j : Int) - (i : Int) = ((j - i : Nat) : Int) by omega]
    generalize hL : canon p = L at *
    have happ : ∀ M : List arena_Span, M.length ≤ 1000000 → app 16 M [(⟨(i : Int), ((j - i : Nat) : Int)⟩ : arena_Span)] = some (M ++ [⟨(i : Int), ((j - i : Nat) : Int)⟩]) := fun M hM => app_of (by simp; omega)
    rcases snoc_cases L with rfl | ⟨M, k, rfl⟩
    · rw [addS_nil hlt]
      simp [show w64 (-1) = -1 from rfl, happ [] (by simp)]
    · have hlen' : M.length + 1 ≤ 1000000 := by simp at hc; omega
      have e2 : w64 (((M ++ [k]).length : Int) - 1) = (M.length : Int) := by simp [w64_id (x := (M.length : Int)) ⟨by omega, by omega⟩]
      rw [e2, if_pos (by omega), idx_at, bnd_some', join_eq k _ (hg k (by simp)) hs', bnd_some', addS_snoc hlt]
      by_cases hk : k.fAt + k.fN = (i : Int)
      · rw [if_pos hk, if_pos hk]; simp
      · rw [if_neg hk, if_neg hk]; simp [happ (M ++ [k]) (by simp; omega)]
theorem add_eq (i j : Nat) (hij : i ≤ j) (hj : j ≤ 1000000) : scan_parts_add (i : Int) (j : Int) = some (canon (rangeI (i : Int) (j - i))) := by
  unfold scan_parts_add
  by_cases h : (j : Int) ≤ (i : Int)
  · rw [if_pos h, show j - i = 0 by omega]; rfl
  · rw [if_neg h, if_neg (by simp [show w64 (-1) = -1 from rfl]), app_of (by simp), bnd_some', w64_id ⟨by omega, by omega⟩]
    have := addS_canon [] (i : Int) (j - i)
    rw [List.nil_append] at this
    rw [← this, show canon [] = [] from rfl, addS_nil (by simp only; omega)]
    simp only [List.nil_append]
    congr 3; omega
/-! ### a field that begins with a quote -/
def rq (b : List UInt8) : Nat → Nat → List Int → Nat × List Int
  | 0, i, acc => (i, acc)
  | n + 1, i, acc => if i < b.length ∧ (at_ b 34 i = false ∨ at_ b 34 (i + 1) = true) then rq b n (i + (if at_ b 34 i = true then 2 else 1)) (acc ++ [(i : Int)]) else (i, acc)
theorem rq_spec (b : List UInt8) : ∀ n i acc, b.length ≤ i + n → i ≤ b.length → acc.length ≤ i → (∀ x ∈ acc, 0 ≤ x ∧ x < (i : Int)) →
    let r := rq b n i acc
    i ≤ r.1 ∧ r.1 ≤ b.length ∧ r.2.length ≤ r.1 ∧ (∀ x ∈ r.2, 0 ≤ x ∧ x < (r.1 : Int)) ∧ (r.1 < b.length → at_ b 34 r.1 = true)
  | 0, i, acc, h, hi, hl, ha => ⟨Nat.le_refl _, hi, hl, ha, fun h' => by simp only [rq] at h'; omega⟩
  | n + 1, i, acc, h, hi, hl, ha => by
    simp only [rq]
    by_cases c : i < b.length ∧ (at_ b 34 i = false ∨ at_ b 34 (i + 1) = true)
    · rw [if_pos c]
      have h2 : i + (if at_ b 34 i = true then 2 else 1) ≤ b.length := by
        split
        · rename_i hq
          rcases c.2 with h' | h'
          · rw [hq] at h'; cases h'
          · have := at_in h'; omega
        · omega
      have h1 : i + 1 ≤ i + (if at_ b 34 i = true then 2 else 1) := by split <;> omega
      obtain ⟨g1, g2, g3, g4, g5⟩ := rq_spec b n (i + (if at_ b 34 i = true then 2 else 1)) (acc ++ [(i : Int)]) (by omega) h2 (by simp; omega) (by
        intro x hx
        rcases List.mem_append.1 hx with hx | hx
        · have := ha x hx; omega
        · simp at hx; omega)
      exact ⟨by omega, g2, g3, g4, g5⟩
    · rw [if_neg c]
      refine ⟨Nat.le_refl _, hi, hl, ha, fun h' => ?_⟩
      cases hq : at_ b 34 i with
      | true => rfl
      | false => exact absurd ⟨h', .inl hq⟩ c
theorem rqLoop_eq (b : List UInt8) (hb : b.length ≤ 1000000) : ∀ n (i : Nat) acc, b.length ≤ i + n → i ≤ b.length → acc.length ≤ i → loop (ref05_field.l1 b) ((i : Int), acc) = some (((rq b n i acc).1 : Int), (rq b n i acc).2) := by
  intro n
  induction n with
  | zero =>
    intro i acc h hi hl
    refine loop_done ?_
    unfold ref05_field.l1
    simp only
    rw [if_neg (by omega), bnd_some', if_neg (by simp)]
    rfl
  | succ n ih =>
    intro i acc h hi hl
    simp only [rq]
    by_cases hlt : i < b.length
    · by_cases c : at_ b 34 i = false ∨ at_ b 34 (i + 1) = true
      · rw [if_pos ⟨hlt, c⟩]
        have h2 : i + (if at_ b 34 i = true then 2 else 1) ≤ b.length := by
          split
          · rename_i hq
            rcases c with h' | h'
            · rw [hq] at h'; cases h'
            · have := at_in h'; omega
          · omega
        have h1 : i + 1 ≤ i + (if at_ b 34 i = true then 2 else 1) := by split <;> omega
        refine loop_next (s' := (((i + (if at_ b 34 i = true then 2 else 1) : Nat) : Int), acc ++ [(i : Int)])) ?_ (ih _ _ (by omega) h2 (by simp; omega))
        unfold ref05_field.l1
        simp only
        rw [if_pos (by omega), quote_eq, bnd_some', w64_id (x := (i : Int) + 1) ⟨by omega, by omega⟩]
        rw [show (i : Int) + 1 = ((i + 1 : Nat) : Int) by omega, quote_eq, bnd_some']
        have e : (if at_ b 34 i = true then some (at_ b 34 (i + 1)) else some true : Option Bool) = some true := by
          cases hq : at_ b 34 i with
          | false => rfl
          | true => rcases c with h' | h'
                    · rw [hq] at h'; cases h'
                    · simp [h']
        rw [e, bnd_some', if_pos rfl, app_of (by simp; omega), bnd_some', bnd_some']
        cases hq : at_ b 34 i with
        | true =>
          rw [if_pos rfl, bnd_some', w64_id ⟨by omega, by omega⟩]
          simp; omega
        | false =>
          rw [if_neg (by simp), bnd_some', w64_id ⟨by omega, by omega⟩]
          simp
      · rw [if_neg (fun h' => c h'.2)]
        have hq : at_ b 34 i = true := by
          cases hq : at_ b 34 i with
          | true => rfl
          | false => exact absurd (.inl hq) c
        have hq2 : at_ b 34 (i + 1) = false := by
          cases hq2 : at_ b 34 (i + 1) with
          | false => rfl
          | true => exact absurd (.inr hq2) c
        refine loop_done ?_
        unfold ref05_field.l1
        simp only
        rw [if_pos (by omega), quote_eq, bnd_some', hq, if_pos rfl, w64_id (x := (i : Int) + 1) ⟨by omega, by omega⟩, show (i : Int) + 1 = ((i + 1 : Nat) : Int) by omega, quote_eq, bnd_some', hq2, bnd_some', if_neg (by simp)]
    · rw [if_neg (fun h' => hlt h'.1)]
      refine loop_done ?_
      unfold ref05_field.l1
      simp only
      rw [if_neg (by omega), bnd_some', if_neg (by simp)]
theorem rq_fuel (b : List UInt8) : ∀ n m i acc, b.length ≤ i + n → b.length ≤ i + m → rq b n i acc = rq b m i acc
  | 0, 0, i, acc, _, _ => rfl
  | 0, m + 1, i, acc, h, _ => by simp only [rq]; rw [if_neg (fun h' => by omega)]
  | n + 1, 0, i, acc, _, h => by simp only [rq]; rw [if_neg (fun h' => by omega)]
  | n + 1, m + 1, i, acc, h, h' => by
    simp only [rq]
    split
    · have h1 : i + 1 ≤ i + (if at_ b 34 i = true then 2 else 1) := by split <;> omega
      exact rq_fuel b n m _ _ (by omega) (by omega)
    · rfl
/-- Bytes that are no quotes are passed. -/
theorem rq_skip (b : List UInt8) (i : Nat) (acc : List Int) (n : Nat) (hn : b.length ≤ i + n) : ∀ k, i + k ≤ b.length → (∀ j, i ≤ j → j < i + k → at_ b 34 j = false) → rq b n i acc = rq b n (i + k) (acc ++ rangeI (i : Int) k)
  | 0, _, _ => by simp [rangeI]
  | k + 1, hk, hq => by
    rw [rq_skip b i acc n hn k (by omega) (fun j h1 h2 => hq j h1 (by omega)), rq_fuel b n (n + 1) (i + k) _ (by omega) (by omega)]
    simp only [rq]
    have h0 := hq (i + k) (by omega) (by omega)
    rw [if_pos ⟨by omega, .inl h0⟩, h0, if_neg (by simp), rangeI_succ, List.append_assoc, show i + (k + 1) = i + k + 1 from rfl, show ((i + k : Nat) : Int) = (i : Int) + (k : Int) by omega]
/-- The next quote. -/
def nqF (b : List UInt8) : Nat → Nat → Nat
  | 0, i => i
  | n + 1, i => if i < b.length ∧ at_ b 34 i = false then nqF b n (i + 1) else i
theorem nqF_spec (b : List UInt8) : ∀ n i, b.length ≤ i + n → i ≤ b.length → i ≤ nqF b n i ∧ nqF b n i ≤ b.length ∧ (∀ j, i ≤ j → j < nqF b n i → at_ b 34 j = false) ∧ (nqF b n i < b.length → at_ b 34 (nqF b n i) = true)
  | 0, i, h, hi => ⟨Nat.le_refl _, hi, fun j h1 h2 => by simp only [nqF] at h2; omega, fun h' => by simp only [nqF] at h'; omega⟩
  | n + 1, i, h, hi => by
    simp only [nqF]
    by_cases c : i < b.length ∧ at_ b 34 i = false
    · rw [if_pos c]
      obtain ⟨h1, h2, h3, h4⟩ := nqF_spec b n (i + 1) (by omega) (by omega)
      refine ⟨by omega, h2, fun j j1 j2 => ?_, h4⟩
      by_cases hj : j = i
      · subst hj; exact c.2
      · exact h3 j (by omega) j2
    · rw [if_neg c]
      refine ⟨Nat.le_refl _, hi, fun j h1 h2 => by omega, fun h' => ?_⟩
      cases hq : at_ b 34 i with
      | true => rfl
      | false => exact absurd ⟨h', hq⟩ c
theorem skip_eq (b : List UInt8) (hb : b.length ≤ 1000000) : ∀ n (i : Nat), b.length ≤ i + n → i ≤ b.length → loop (scan_reader_quoted.l1 b) (i : Int) = some ((nqF b n i : Nat) : Int) := by
  have stop : ∀ i : Nat, ¬ (i < b.length ∧ at_ b 34 i = false) → scan_reader_quoted.l1 b (i : Int) = some (.done (i : Int)) := fun i c => by
    unfold scan_reader_quoted.l1
    rw [done_eq, bnd_some']
    by_cases h : b.length ≤ i
    · rw [decide_eq_true h, if_pos rfl, bnd_some', if_neg (by simp)]
    · have : at_ b 34 i = true := by
        cases hq : at_ b 34 i with
        | true => rfl
        | false => exact absurd ⟨by omega, hq⟩ c
      rw [decide_eq_false h, if_neg (by simp), is_eq, bnd_some', this, bnd_some', if_neg (by simp)]
  intro n
  induction n with
  | zero => intro i h hi; exact loop_done (stop i (fun h' => by omega))
  | succ n ih =>
    intro i h hi
    simp only [nqF]
    by_cases c : i < b.length ∧ at_ b 34 i = false
    · rw [if_pos c]
      refine loop_next (s' := ((i + 1 : Nat) : Int)) ?_ (ih _ (by omega) (by omega))
      unfold scan_reader_quoted.l1
      rw [done_eq, bnd_some', decide_eq_false (by omega), if_neg (by simp), is_eq, bnd_some', c.2, bnd_some', if_pos (by rfl), w64_id ⟨by omega, by omega⟩]
      congr 2
    · rw [if_neg c]; exact loop_done (stop i c)
/-- What a field with a quote ahead comes to, from where its bytes ended. -/
def qEnd (b : List UInt8) (r : Nat × List Int) : Int × List Int × Nat :=
  if b.length ≤ r.1 then (4, r.2, r.1) else (if r.1 + 1 < tl b (r.1 + 1) then 3 else 1, r.2 ++ rangeI ((r.1 + 1 : Nat) : Int) (tl b (r.1 + 1) - (r.1 + 1)), tl b (r.1 + 1))
theorem goodP_of {p : List Int} {m : Nat} (h : ∀ x ∈ p, 0 ≤ x ∧ x < (m : Int)) (hm : m ≤ 1000000) : GoodP p := fun x hx => by have := h x hx; omega
theorem goodP_range {i n : Nat} (h : i + n ≤ 1000000) : GoodP (rangeI (i : Int) n) := fun x hx => by
  simp only [rangeI, List.mem_map, List.mem_range] at hx
  obtain ⟨k, hk, rfl⟩ := hx; omega
theorem label_eq (b : List UInt8) (hb : b.length ≤ 1000000) : ∀ n (i : Nat) acc, b.length ≤ i + n → i ≤ b.length → acc.length ≤ i → (∀ x ∈ acc, 0 ≤ x ∧ x < (i : Int)) →
    loop (scan_reader_quoted.l2 b) ((i : Int), (i : Int), canon acc) = some ((qEnd b (rq b n i acc)).1, canon (qEnd b (rq b n i acc)).2.1, (((qEnd b (rq b n i acc)).2.2 : Nat) : Int)) := by
  intro n
  induction n using Nat.strongRecOn with
  | _ n ih =>
    intro i acc h hi hl ha
    obtain ⟨g1, g2, g3, g4⟩ := nqF_spec b b.length i (by omega) hi
    have hsk := skip_eq b hb b.length i (by omega) hi
    generalize nqF b b.length i = t at *
    have hskip : rq b n i acc = rq b n t (acc ++ rangeI (i : Int) (t - i)) := by
      have := rq_skip b i acc n h (t - i) (by omega) (fun j h1 h2 => g3 j h1 (by omega))
      rwa [show i + (t - i) = t by omega] at this
    have hga := goodP_of ha (by omega)
    have hr : GoodP (rangeI (i : Int) (t - i)) := goodP_range (by omega)
    by_cases ht : b.length ≤ t
    · refine loop_done ?_
      unfold scan_reader_quoted.l2
      simp only
      rw [hsk, bnd_some', done_eq, bnd_some', decide_eq_true ht, if_pos rfl, add2_eq i t acc hga (by omega) g1 (by omega), bnd_some', hskip]
      have e : rq b n t (acc ++ rangeI (i : Int) (t - i)) = (t, acc ++ rangeI (i : Int) (t - i)) := by
        cases n with
        | zero => rfl
        | succ n => simp only [rq]; rw [if_neg (fun h' => by omega)]
      rw [e, qEnd, if_pos ht]
    · have htl : t < b.length := by omega
      have hqt := g4 htl
      cases hn : at_ b 34 (t + 1) with
      | true =>
        have h2 := at_in hn
        obtain ⟨m, rfl⟩ : ∃ m, n = m + 1 := ⟨n - 1, by omega⟩
        have e : rq b (m + 1) t (acc ++ rangeI (i : Int) (t - i)) = rq b m (t + 2) (acc ++ rangeI (i : Int) (t + 1 - i)) := by
          simp only [rq]
          rw [if_pos ⟨htl, .inr hn⟩, hqt, if_pos rfl, show t + 1 - i = (t - i) + 1 by omega, rangeI_succ, List.append_assoc]
          congr 4; omega
        refine loop_next (s' := (((t + 2 : Nat) : Int), ((t + 2 : Nat) : Int), canon (acc ++ rangeI (i : Int) (t + 1 - i)))) ?_ ?_
        · unfold scan_reader_quoted.l2
          simp only
          rw [hsk, bnd_some', done_eq, bnd_some', decide_eq_false ht, if_neg (by simp), w64_id (x := (t : Int) + 1) ⟨by omega, by omega⟩, show (t : Int) + 1 = ((t + 1 : Nat) : Int) by omega, is_eq, bnd_some', hn, if_pos rfl, add2_eq i (t + 1) acc hga (by omega) (by omega) (by omega), bnd_some', w64_id ⟨by omega, by omega⟩]
          congr 4
        · rw [hskip, e]
          refine ih m (by omega) (t + 2) _ (by omega) (by omega) (by simp [rangeI_len]; omega) (fun x hx => ?_)
          rcases List.mem_append.1 hx with hx | hx
          · have := ha x hx; omega
          · simp only [rangeI, List.mem_map, List.mem_range] at hx
            obtain ⟨k, hk, rfl⟩ := hx; omega
      | false =>
        have e : rq b n t (acc ++ rangeI (i : Int) (t - i)) = (t, acc ++ rangeI (i : Int) (t - i)) := by
          cases n with
          | zero => rfl
          | succ n =>
            simp only [rq]
            rw [if_neg]
            rintro ⟨_, h' | h'⟩
            · rw [hqt] at h'; cases h'
            · rw [hn] at h'; cases h'
        obtain ⟨t1, t2, t3, t4⟩ := tl_spec b (t + 1)
        have t4' := t4 (by omega)
        refine loop_done ?_
        unfold scan_reader_quoted.l2
        simp only
        rw [hsk, bnd_some', done_eq, bnd_some', decide_eq_false ht, if_neg (by simp), w64_id (x := (t : Int) + 1) ⟨by omega, by omega⟩, show (t : Int) + 1 = ((t + 1 : Nat) : Int) by omega, is_eq, bnd_some', hn, if_neg (by simp),
          w64_id (x := ((t + 1 : Nat) : Int) - 1) ⟨by omega, by omega⟩, show ((t + 1 : Nat) : Int) - 1 = (t : Int) by omega, add2_eq i t acc hga (by omega) g1 (by omega), bnd_some', plain_eq b (t + 1) (by omega) hb, bnd_some']
        simp only
        rw [add2_eq (t + 1) (tl b (t + 1)) _ (goodP_app hga hr) (by simp [rangeI_len]; omega) t1 (by omega), bnd_some', hskip, e, qEnd, if_neg ht]
        by_cases c : t + 1 < tl b (t + 1)
        · rw [if_pos (by omega), if_pos c]
        · rw [if_neg (by omega), if_neg c]
/-! ### fields -/
def fieldF (b : List UInt8) (i : Nat) : Int × List Int × Nat :=
  if at_ b 34 i = true then qEnd b (rq b b.length (i + 1) []) else (if aq b i (tl b i - i) = true then 2 else 0, rangeI (i : Int) (tl b i - i), tl b i)
theorem fieldF_spec (b : List UInt8) (hb : b.length ≤ 1000000) (i : Nat) (hi : i ≤ b.length) : i ≤ (fieldF b i).2.2 ∧ (fieldF b i).2.2 ≤ b.length ∧ mk b (fieldF b i).2.2 = true ∧ (∀ x ∈ (fieldF b i).2.1, 0 ≤ x ∧ x < (b.length : Int)) ∧ (fieldF b i).2.1.length ≤ b.length := by
  unfold fieldF
  have hr : ∀ {p m : Nat}, p + m ≤ b.length → ∀ x ∈ rangeI (p : Int) m, 0 ≤ x ∧ x < (b.length : Int) := fun {p m} h x hx => by
    simp only [rangeI, List.mem_map, List.mem_range] at hx
    obtain ⟨k, hk, rfl⟩ := hx; omega
  by_cases c : at_ b 34 i = true
  · rw [if_pos c]
    have hi' := at_in c
    obtain ⟨g1, g2, g3, g4, g5⟩ := rq_spec b b.length (i + 1) [] (by omega) (by omega) (by simp) (by simp)
    generalize rq b b.length (i + 1) [] = r at *
    unfold qEnd
    by_cases d : b.length ≤ r.1
    · rw [if_pos d]
      exact ⟨by simp only; omega, g2, mk_out d, fun x hx => by have := g4 x hx; omega, by simp only; omega⟩
    · rw [if_neg d]
      obtain ⟨t1, t2, t3, t4⟩ := tl_spec b (r.1 + 1)
      have t4' := t4 (by omega)
      refine ⟨by simp only; omega, t4', t2, fun x hx => ?_, by simp [rangeI_len]; omega⟩
      rcases List.mem_append.1 hx with hx | hx
      · have := g4 x hx; omega
      · exact hr (by omega) x hx
  · rw [if_neg c]
    obtain ⟨t1, t2, t3, t4⟩ := tl_spec b i
    have t4' := t4 hi
    exact ⟨t1, t4', t2, hr (by omega), by simp [rangeI_len]; omega⟩
def sField (b : List UInt8) (i : Nat) : scan_Field := ⟨⟨(i : Int), (((fieldF b i).2.2 - i : Nat) : Int)⟩, (fieldF b i).1, canon (fieldF b i).2.1⟩
def rField (b : List UInt8) (i : Nat) : ref05_Field := ⟨⟨(i : Int), (((fieldF b i).2.2 - i : Nat) : Int)⟩, (fieldF b i).1, (fieldF b i).2.1⟩
theorem sField_eq (b : List UInt8) (hb : b.length ≤ 1000000) (i : Nat) (hi : i ≤ b.length) : scan_reader_field b (i : Int) = some (sField b i, (((fieldF b i).2.2 : Nat) : Int)) := by
  obtain ⟨s1, s2, s3, s4, s5⟩ := fieldF_spec b hb i hi
  have key : (if at_ b 34 i = true then bnd (scan_reader_quoted b (i : Int)) fun x6 => some (x6.2.2, x6.1, x6.2.1) else bnd (scan_reader_bare b (i : Int)) fun x7 => some (x7.2.2, x7.1, x7.2.1) : Option (Int × Int × (List arena_Span))) = some ((((fieldF b i).2.2 : Nat) : Int), (fieldF b i).1, canon (fieldF b i).2.1) := by
    unfold fieldF
    by_cases c : at_ b 34 i = true
    · have hi' := at_in c
      rw [if_pos c, if_pos c]
      unfold scan_reader_quoted
      rw [w64_id ⟨by omega, by omega⟩, show (i : Int) + 1 = ((i + 1 : Nat) : Int) by omega]
      have := label_eq b hb b.length (i + 1) [] (by omega) (by omega) (by simp) (by simp)
      rw [show canon [] = [] from rfl] at this
      rw [this, bnd_some']
    · rw [if_neg c, if_neg c]
      obtain ⟨t1, t2, t3, t4⟩ := tl_spec b i
      have t4' := t4 hi
      unfold scan_reader_bare
      rw [plain_eq b i hi hb, bnd_some']
      simp only
      rw [add_eq i (tl b i) t1 (by omega), bnd_some']
      cases aq b i (tl b i - i) <;> rfl
  unfold scan_reader_field
  rw [is_eq, bnd_some', key, bnd_some', w64_id ⟨by omega, by omega⟩]
  unfold sField
  congr 4; omega
theorem rField_eq (b : List UInt8) (hb : b.length ≤ 1000000) (i : Nat) (hi : i ≤ b.length) : ref05_field b (i : Int) = some (rField b i) := by
  obtain ⟨s1, s2, s3, s4, s5⟩ := fieldF_spec b hb i hi
  unfold ref05_field
  rw [quote_eq, bnd_some']
  unfold rField
  unfold fieldF at *
  by_cases c : at_ b 34 i = true
  · have hi' := at_in c
    simp only [if_pos c] at *
    rw [w64_id (x := (i : Int) + 1) ⟨by omega, by omega⟩, show (i : Int) + 1 = ((i + 1 : Nat) : Int) by omega, rqLoop_eq b hb b.length (i + 1) [] (by omega) (by omega) (by simp), bnd_some']
    obtain ⟨g1, g2, g3, g4, g5⟩ := rq_spec b b.length (i + 1) [] (by omega) (by omega) (by simp) (by simp)
    generalize rq b b.length (i + 1) [] = r at *
    unfold qEnd at *
    by_cases d : b.length ≤ r.1
    · simp only [if_pos d] at *
      rw [if_pos (by omega), w64_id ⟨by omega, by omega⟩]
      congr 3; omega
    · simp only [if_neg d] at *
      obtain ⟨t1, t2, t3, t4⟩ := tl_spec b (r.1 + 1)
      have t4' := t4 (by omega)
      rw [if_neg (by omega), w64_id (x := (r.1 : Int) + 1) ⟨by omega, by omega⟩, show (r.1 : Int) + 1 = ((r.1 + 1 : Nat) : Int) by omega, till_eq b (r.1 + 1) (by omega) hb, bnd_some']
      have e : (if ((tl b (r.1 + 1) : Nat) : Int) > ((r.1 + 1 : Nat) : Int) then some 3 else some 1 : Option Int) = some (if r.1 + 1 < tl b (r.1 + 1) then 3 else 1) := by
        by_cases h : r.1 + 1 < tl b (r.1 + 1)
        · rw [if_pos h, if_pos (by omega)]
        · rw [if_neg h, if_neg (by omega)]
      rw [e, bnd_some', places2_eq _ _ _ t1 (by omega) (by omega), bnd_some', w64_id ⟨by omega, by omega⟩]
      congr 3; omega
  · simp only [if_neg c] at *
    obtain ⟨t1, t2, t3, t4⟩ := tl_spec b i
    have t4' := t4 hi
    rw [till_eq b i hi hb, bnd_some', places_eq _ _ t1 (by omega), bnd_some', kind_eq _ _ _ t1 (by omega), bnd_some', w64_id ⟨by omega, by omega⟩]
    congr 3; omega
end Go.Proofs.Ytbcbggdgkdfciaa.S
