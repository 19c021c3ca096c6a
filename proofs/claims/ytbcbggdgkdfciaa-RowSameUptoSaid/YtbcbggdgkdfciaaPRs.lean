/- Plain facts for one law: printed by prune.py out of Can Pie0 ScaA ScaB Are Fla QuoA QuoB Cel Row Rwa Rgo Rgd Rgr Rgc Rgs. -/
import Derived.Test.YtbcbggdgkdfciaaG0
import Derived.Test.YtbcbggdgkdfciaaG1xa
import Derived.Test.YtbcbggdgkdfciaaG1xb
import Derived.Test.YtbcbggdgkdfciaaG2xa
import Derived.Test.YtbcbggdgkdfciaaG3xa
import Derived.Test.YtbcbggdgkdfciaaG6xa
import Derived.Test.YtbcbggdgkdfciaaG7xa
import Derived.Test.YtbcbggdgkdfciaaG8xa
import Derived.Test.YtbcbggdgkdfciaaG9xa
import Derived.Test.YtbcbggdgkdfciaaSD
import Derived.Test.YtbcbggdgkdfciaaSH
set_option linter.unusedVariables false
namespace Go.Proofs.Ytbcbggdgkdfciaa.S
open Go Go.Sm
def rangeI (a : Int) (n : Nat) : List Int := (List.range n).map fun i : Nat => a + (i : Int)
theorem rangeI_succ (a : Int) (n : Nat) : rangeI a (n + 1) = rangeI a n ++ [a + (n : Int)] := by simp [rangeI, List.range_succ]
theorem rangeI_len (a : Int) (n : Nat) : (rangeI a n).length = n := by simp [rangeI]
theorem rangeI_add (a : Int) (m : Nat) : ∀ n : Nat, rangeI a (m + n) = rangeI a m ++ rangeI (a + (m : Int)) n
  | 0 => by simp [rangeI]
  | n + 1 => by rw [← Nat.add_assoc, rangeI_succ, rangeI_add a m n, rangeI_succ, List.append_assoc]; congr 2; simp; omega
def exp1 (s : arena_Span) : List Int := rangeI s.fAt s.fN.toNat
def expand (L : List arena_Span) : List Int := L.flatMap exp1
theorem expand_append (L M : List arena_Span) : expand (L ++ M) = expand L ++ expand M := by simp [expand]
theorem expand_one (s : arena_Span) : expand [s] = exp1 s := by simp [expand]
/-- One span more. -/
def addS (L : List arena_Span) (s : arena_Span) : List arena_Span :=
  if s.fN < 1 then L else match L.getLast? with
    | none => [s]
    | some k => if k.fAt + k.fN = s.fAt then L.dropLast ++ [⟨k.fAt, k.fN + s.fN⟩] else L ++ [s]
theorem addS_nil {s : arena_Span} (h : ¬ s.fN < 1) : addS [] s = [s] := by simp [addS, h]
theorem addS_less {L : List arena_Span} {s : arena_Span} (h : s.fN < 1) : addS L s = L := by simp [addS, h]
theorem addS_snoc {L : List arena_Span} {k s : arena_Span} (h : ¬ s.fN < 1) : addS (L ++ [k]) s = if k.fAt + k.fN = s.fAt then L ++ [⟨k.fAt, k.fN + s.fN⟩] else L ++ [k] ++ [s] := by simp [addS, h]
def addI (L : List arena_Span) (x : Int) : List arena_Span := addS L ⟨x, 1⟩
def canon (r : List Int) : List arena_Span := r.foldl addI []
theorem snoc_cases (L : List arena_Span) : L = [] ∨ ∃ M k, L = M ++ [k] := by
  rcases List.eq_nil_or_concat L with h | ⟨M, k, h⟩
  · exact .inl h
  · exact .inr ⟨M, k, by simpa using h⟩
theorem addI_range (a : Int) (L : List arena_Span) : ∀ n : Nat, (rangeI a n).foldl addI L = addS L ⟨a, n⟩
  | 0 => by rw [addS_less (by simp)]; rfl
  | n + 1 => by
    rw [rangeI_succ, List.foldl_append, addI_range a L n]
    simp only [List.foldl_cons, List.foldl_nil, addI]
    have h1 : ¬ ((1 : Int) < 1) := by omega
    have h2 : ¬ ((((n + 1 : Nat) : Int)) < 1) := by omega
    cases n with
    | zero => rw [addS_less (L := L) (s := ⟨a, ((0 : Nat) : Int)⟩) (by simp)]; simp
    | succ n =>
      have h3 : ¬ ((((n + 1 : Nat) : Int)) < 1) := by omega
      rcases snoc_cases L with rfl | ⟨M, k, rfl⟩
      · rw [addS_nil h3, addS_nil h2, show [(⟨a, ((n + 1 : Nat) : Int)⟩ : arena_Span)] = [] ++ [⟨a, ((n + 1 : Nat) : Int)⟩] from rfl, addS_snoc h1]
        simp only [List.nil_append]
        rw [if_pos trivial]; simp
      · rw [addS_snoc h3, addS_snoc h2]
        by_cases hk : k.fAt + k.fN = a
        · rw [if_pos hk, if_pos hk, addS_snoc h1]
          simp only
          rw [if_pos (by omega)]
          simp; omega
        · rw [if_neg hk, if_neg hk, addS_snoc h1]
          simp only
          rw [if_pos trivial]; simp
theorem addS_exp (L : List arena_Span) (s : arena_Span) : addS L s = (exp1 s).foldl addI L := by
  unfold exp1
  rw [addI_range]
  by_cases h : s.fN < 1
  · rw [addS_less h, addS_less (by simp; omega)]
  · rw [Int.toNat_of_nonneg (by omega)]
/-- Spans that may be: their numbers are small. -/
def Good (s : arena_Span) : Prop := 0 ≤ s.fAt ∧ 1 ≤ s.fN ∧ s.fAt + s.fN ≤ 2097152
theorem addS_good {L : List arena_Span} {s : arena_Span} (hL : ∀ k ∈ L, Good k) (hs : 1 ≤ s.fN → Good s) : ∀ k ∈ addS L s, Good k := by
  by_cases h : s.fN < 1
  · rw [addS_less h]; exact hL
  · have hs' := hs (by omega)
    rcases snoc_cases L with rfl | ⟨M, k, rfl⟩
    · rw [addS_nil h]; simpa using hs'
    · rw [addS_snoc h]
      split
      · rename_i hk
        intro x hx
        rcases List.mem_append.1 hx with hx | hx
        · exact hL x (List.mem_append_left _ hx)
        · have := hL k (by simp)
          simp at hx; subst hx
          simp only [Good] at this hs' ⊢
          omega
      · intro x hx
        rcases List.mem_append.1 hx with hx | hx
        · exact hL x hx
        · simp at hx; subst hx; exact hs'
theorem addS_expand {L : List arena_Span} {s : arena_Span} (hL : ∀ k ∈ L, Good k) : expand (addS L s) = expand L ++ exp1 s := by
  by_cases h : s.fN < 1
  · rw [addS_less h]; simp [exp1, rangeI, show s.fN.toNat = 0 by omega]
  · rcases snoc_cases L with rfl | ⟨M, k, rfl⟩
    · rw [addS_nil h, expand_one]; rfl
    · rw [addS_snoc h]
      split
      · rename_i hk
        have := hL k (by simp)
        simp only [Good] at this
        simp only [expand_append, expand_one, List.append_assoc]
        congr 1
        simp only [exp1]
        rw [show (k.fN + s.fN).toNat = k.fN.toNat + s.fN.toNat by omega, rangeI_add]
        congr 2; omega
      · rw [expand_append, expand_one]
theorem canon_snoc (r : List Int) (x : Int) : canon (r ++ [x]) = addI (canon r) x := by simp [canon, List.foldl_append]
/-- Places that may be. -/
def GoodP (r : List Int) : Prop := ∀ x ∈ r, 0 ≤ x ∧ x < 2097152
theorem canon_good : ∀ (r : List Int), GoodP r → ∀ k ∈ canon r, Good k := by
  intro r
  induction r using snoc_ind with
  | nil => intro _ k hk; cases hk
  | snoc r x ih =>
    intro hr
    rw [canon_snoc]
    exact addS_good (ih fun y hy => hr y (by simp [hy])) (fun _ => by have := hr x (by simp); simp only [Good]; omega)
theorem canon_expand (r : List Int) (hr : GoodP r) : expand (canon r) = r := by
  induction r using snoc_ind with
  | nil => rfl
  | snoc r x ih =>
    have hr' : GoodP r := fun y hy => hr y (by simp [hy])
    rw [canon_snoc, addI, addS_expand (canon_good r hr'), ih hr']
    simp [exp1, rangeI]
/-- The text of places. -/
def tOf (r : List Int) : piece_Text := ⟨canon r, (r.length : Int)⟩
theorem join_eq (k s : arena_Span) (hk : Good k) (hs : Good s) : arena_Join k s = some (if k.fAt + k.fN = s.fAt then (⟨k.fAt, k.fN + s.fN⟩, true) else (⟨0, 0⟩, false)) := by
  simp only [Good] at hk hs
  unfold arena_Join
  rw [if_neg (by omega), if_neg (by omega), bnd_some', w64_id ⟨by omega, by omega⟩]
  by_cases h : k.fAt + k.fN = s.fAt
  · have : s = (⟨k.fAt + k.fN, s.fN⟩ : arena_Span) := by cases s; simp_all
    rw [if_pos h, if_neg (by simp only [Bool.not_eq_true', beq_eq_false_iff_ne, ne_eq, Classical.not_not]; exact this), w64_id ⟨by omega, by omega⟩]
  · have : s ≠ (⟨k.fAt + k.fN, s.fN⟩ : arena_Span) := fun e => h (congrArg arena_Span.fAt e).symm
    rw [if_neg h, if_pos (by simpa using this)]
theorem addI_len (L : List arena_Span) (s : arena_Span) : (addS L s).length ≤ L.length + 1 := by
  by_cases h : s.fN < 1
  · rw [addS_less h]; omega
  · rcases snoc_cases L with rfl | ⟨M, k, rfl⟩
    · rw [addS_nil h]; simp
    · rw [addS_snoc h]; split <;> simp
theorem canon_len : ∀ r : List Int, (canon r).length ≤ r.length := by
  intro r
  induction r using snoc_ind with
  | nil => simp [canon]
  | snoc r x ih => rw [canon_snoc]; have := addI_len (canon r) ⟨x, 1⟩; simp only [addI, List.length_append, List.length_cons, List.length_nil]; omega
theorem idx_map {α β : Type} (g : α → β) (l : List α) (i : Int) : idx (l.map g) i = (idx l i).map g := by
  unfold idx; split <;> simp
theorem exp_sub {r : List Int} (hr : GoodP r) {pre suf : List arena_Span} (h : canon r = pre ++ suf) : GoodP (expand pre) ∧ (expand pre).length ≤ r.length ∧ r = expand pre ++ expand suf := by
  have := canon_expand r hr
  rw [h, expand_append] at this
  exact ⟨fun x hx => hr x (by rw [← this]; simp [hx]), by rw [← this]; simp, this.symm⟩
theorem goodP_app {r q : List Int} (hr : GoodP r) (hq : GoodP q) : GoodP (r ++ q) := fun x hx => (List.mem_append.1 hx).elim (hr x) (hq x)
theorem with_eq (s : arena_Span) (n : Int) (L : List arena_Span) (hL : ∀ k ∈ L, Good k) (hs : 1 ≤ s.fN → Good s) (hn : 0 ≤ n ∧ n ≤ 1073741824) (hlen : L.length ≤ 1073741824) :
    piece_Text_with_2 s n L = some (n + (s.fN.toNat : Int), addS L s) := by
  unfold piece_Text_with_2
  by_cases h : s.fN < 1
  · rw [if_pos h, addS_less h, show s.fN.toNat = 0 by omega]; simp
  · have hs' := hs (by omega)
    have hs2 := hs'
    simp only [Good] at hs2
    rw [if_neg h]
    have e1 : w64 (n + s.fN) = n + (s.fN.toNat : Int) := by rw [w64_id ⟨by omega, by omega⟩]; omega
    have happ : ∀ M : List arena_Span, M.length ≤ 1073741824 → app 16 M [s] = some (M ++ [s]) := fun M hM => app_of (by simp; omega)
    rcases snoc_cases L with rfl | ⟨M, k, rfl⟩
    · rw [addS_nil h]
      simp [show w64 (-1) = -1 from rfl, happ [] (by simp), e1]
    · have hlen' : M.length + 1 ≤ 1073741824 := by simpa using hlen
      have e2 : w64 (((M ++ [k]).length : Int) - 1) = (M.length : Int) := by simp [w64_id (x := (M.length : Int)) ⟨by omega, by omega⟩]
      rw [e2, if_pos (by omega), idx_at, bnd_some', join_eq k s (hL k (by simp)) hs', bnd_some', addS_snoc h, e1]
      by_cases hk : k.fAt + k.fN = s.fAt
      · rw [if_pos hk, if_pos hk]; simp
      · rw [if_neg hk, if_neg hk]; simp [happ (M ++ [k]) (by simpa using hlen)]
theorem u8n (x : UInt8) (c : UInt8) : ((x.toNat : Int) = (c.toNat : Int)) ↔ x = c := ⟨fun h => UInt8.toNat_inj.1 (by omega), fun h => by rw [h]⟩
theorem u8_44 (x : UInt8) : ((x.toNat : Int) = 44) ↔ x = 44 := u8n x 44
theorem u8_13 (x : UInt8) : ((x.toNat : Int) = 13) ↔ x = 13 := u8n x 13
theorem u8_10 (x : UInt8) : ((x.toNat : Int) = 10) ↔ x = 10 := u8n x 10
theorem u8_34 (x : UInt8) : ((x.toNat : Int) = 34) ↔ x = 34 := u8n x 34
def at_ (b : List UInt8) (c : UInt8) (i : Nat) : Bool := b[i]? == some c
def isMark (x : UInt8) : Bool := x == 44 || x == 13 || x == 10
def mk (b : List UInt8) (i : Nat) : Bool := match b[i]? with | none => true | some x => isMark x
theorem mk_out {b : List UInt8} {i : Nat} (h : b.length ≤ i) : mk b i = true := by unfold mk; rw [List.getElem?_eq_none h]
theorem mk_in {b : List UInt8} {i : Nat} (h : mk b i = false) : i < b.length := by
  rcases Nat.lt_or_ge i b.length with h' | h'
  · exact h'
  · rw [mk_out h'] at h; cases h
theorem at_in {b : List UInt8} {c : UInt8} {i : Nat} (h : at_ b c i = true) : i < b.length := by
  simp only [at_, beq_iff_eq] at h
  exact (List.getElem?_eq_some_iff.1 h).1
theorem done_eq (b : List UInt8) (i : Nat) : scan_reader_done b (i : Int) = some (decide (b.length ≤ i)) := by
  unfold scan_reader_done
  congr 1
  exact decide_eq_decide.2 ⟨fun h => by omega, fun h => by omega⟩
theorem is_eq (c : UInt8) (b : List UInt8) (i : Nat) : scan_reader_is c b (i : Int) = some (at_ b c i) := by
  unfold scan_reader_is
  rw [done_eq, bnd_some']
  by_cases h : b.length ≤ i
  · rw [decide_eq_true h, if_pos rfl, bnd_some']
    simp [at_, List.getElem?_eq_none h]
  · rw [decide_eq_false h, if_neg (by simp), idx_nat (List.getElem?_eq_getElem (by omega)), bnd_some', bnd_some']
    simp only [at_, List.getElem?_eq_getElem (show i < b.length by omega)]
    congr 1
    rw [Bool.eq_iff_iff, beq_iff_eq, beq_iff_eq, u8n, Option.some.injEq]
theorem marked_eq (b : List UInt8) (i : Nat) : scan_reader_marked b (i : Int) = some (mk b i) := by
  unfold scan_reader_marked
  rw [done_eq, bnd_some']
  by_cases h : b.length ≤ i
  · rw [decide_eq_true h, if_pos rfl, mk_out h]
  · have h' : i < b.length := by omega
    rw [decide_eq_false h, if_neg (by simp), idx_nat (List.getElem?_eq_getElem h'), bnd_some']
    simp only [mk, List.getElem?_eq_getElem h', isMark, u8_44, u8_13]
    by_cases c1 : b[i] = 44
    · simp [c1]
    · by_cases c2 : b[i] = 13
      · simp [c2]
      · have e : (((b[i]).toNat : Int) == 10) = (b[i] == 10) := by rw [Bool.eq_iff_iff, beq_iff_eq, beq_iff_eq, u8_10]
        rw [if_neg c1, if_neg c2, bnd_some', e]
        cases hb : b[i] == 10 <;> simp [c1, c2]
def tlF (b : List UInt8) : Nat → Nat → Nat
  | 0, i => i
  | n + 1, i => if mk b i = true then i else tlF b n (i + 1)
def tl (b : List UInt8) (i : Nat) : Nat := tlF b b.length i
theorem tlF_spec (b : List UInt8) : ∀ n i, b.length ≤ i + n → i ≤ tlF b n i ∧ mk b (tlF b n i) = true ∧ (∀ k, i ≤ k → k < tlF b n i → mk b k = false) ∧ (i ≤ b.length → tlF b n i ≤ b.length)
  | 0, i, h => ⟨Nat.le_refl _, mk_out h, fun k h1 h2 => by simp only [tlF] at h2; omega, id⟩
  | n + 1, i, h => by
    simp only [tlF]
    by_cases c : mk b i = true
    · rw [if_pos c]; exact ⟨Nat.le_refl _, c, fun k h1 h2 => by omega, id⟩
    · rw [if_neg c]
      have hi := mk_in (by simpa using c)
      obtain ⟨h1, h2, h3, h4⟩ := tlF_spec b n (i + 1) (by omega)
      refine ⟨by omega, h2, fun k k1 k2 => ?_, fun _ => h4 hi⟩
      by_cases hk : k = i
      · subst hk; simpa using c
      · exact h3 k (by omega) k2
theorem tl_spec (b : List UInt8) (i : Nat) : i ≤ tl b i ∧ mk b (tl b i) = true ∧ (∀ k, i ≤ k → k < tl b i → mk b k = false) ∧ (i ≤ b.length → tl b i ≤ b.length) := tlF_spec b b.length i (by omega)
/-- Does a quote stand among so many bytes? -/
def aq (b : List UInt8) (i n : Nat) : Bool := (List.range n).any fun k => at_ b 34 (i + k)
theorem aq_succ (b : List UInt8) (i n : Nat) : aq b i (n + 1) = (aq b i n || at_ b 34 (i + n)) := by simp [aq, List.range_succ]
theorem plain_eq (b : List UInt8) (i : Nat) (hi : i ≤ b.length) (hb : b.length ≤ 2000000) : scan_reader_plain b (i : Int) = some (aq b i (tl b i - i), ((tl b i : Nat) : Int)) := by
  obtain ⟨h1, h2, h3, h4⟩ := tl_spec b i
  have h4' := h4 hi
  have h := loop_nat (f := scan_reader_plain.l1 b) (fun k (s : Bool) => (s, (i : Int) + k)) (tl b i - i) (fun n => aq b i n) (t := (aq b i (tl b i - i), ((tl b i : Nat) : Int)))
    (fun k hk => by
      unfold scan_reader_plain.l1
      simp only
      rw [show (i : Int) + (k : Int) = ((i + k : Nat) : Int) by omega, marked_eq, bnd_some', h3 (i + k) (by omega) (by omega), if_neg (by simp), is_eq, bnd_some', aq_succ]
      have e : (if aq b i k = true then some true else some (at_ b 34 (i + k)) : Option Bool) = some (aq b i k || at_ b 34 (i + k)) := by cases aq b i k <;> rfl
      rw [e, bnd_some', w64_id ⟨by omega, by omega⟩]
      congr 3)
    (by
      unfold scan_reader_plain.l1
      simp only
      rw [show (i : Int) + ((tl b i - i : Nat) : Int) = ((tl b i : Nat) : Int) by omega, marked_eq, bnd_some', h2, if_pos rfl])
  unfold scan_reader_plain
  have h' : loop (scan_reader_plain.l1 b) (false, (i : Int)) = some (aq b i (tl b i - i), ((tl b i : Nat) : Int)) := by simpa [aq] using h
  rw [h', bnd_some']
theorem addS_canon (p : List Int) (i : Int) (n : Nat) : addS (canon p) ⟨i, n⟩ = canon (p ++ rangeI i n) := by
  rw [← addI_range]; simp [canon, List.foldl_append]
theorem add2_eq (i j : Nat) (p : List Int) (hp : GoodP p) (hpl : p.length ≤ 2000000) (hij : i ≤ j) (hj : j ≤ 2000000) : scan_parts_add_2 (i : Int) (j : Int) (canon p) = some (canon (p ++ rangeI (i : Int) (j - i))) := by
  have hc := canon_len p
  have hg := canon_good p hp
  unfold scan_parts_add_2
  by_cases h : (j : Int) ≤ (i : Int)
  · rw [if_pos h, show j - i = 0 by omega]; simp [rangeI]
  · have hs' : Good (⟨(i : Int), ((j - i : Nat) : Int)⟩ : arena_Span) := by simp only [Good]; omega
    have hlt : ¬ ((⟨(i : Int), ((j - i : Nat) : Int)⟩ : arena_Span).fN < 1) := by simp only; omega
    rw [if_neg h, ← addS_canon, w64_id (x := (j : Int) - (i : Int)) ⟨by omega, by omega⟩, show (j : Int) - (i : Int) = ((j - i : Nat) : Int) by omega]
    generalize hL : canon p = L at *
    have happ : ∀ M : List arena_Span, M.length ≤ 2000000 → app 16 M [(⟨(i : Int), ((j - i : Nat) : Int)⟩ : arena_Span)] = some (M ++ [⟨(i : Int), ((j - i : Nat) : Int)⟩]) := fun M hM => app_of (by simp; omega)
    rcases snoc_cases L with rfl | ⟨M, k, rfl⟩
    · rw [addS_nil hlt]
      simp [show w64 (-1) = -1 from rfl, happ [] (by simp)]
    · have hlen' : M.length + 1 ≤ 2000000 := by simp at hc; omega
      have e2 : w64 (((M ++ [k]).length : Int) - 1) = (M.length : Int) := by simp [w64_id (x := (M.length : Int)) ⟨by omega, by omega⟩]
      rw [e2, if_pos (by omega), idx_at, bnd_some', join_eq k _ (hg k (by simp)) hs', bnd_some', addS_snoc hlt]
      by_cases hk : k.fAt + k.fN = (i : Int)
      · rw [if_pos hk, if_pos hk]; simp
      · rw [if_neg hk, if_neg hk]; simp [happ (M ++ [k]) (by simp; omega)]
theorem add_eq (i j : Nat) (hij : i ≤ j) (hj : j ≤ 2000000) : scan_parts_add (i : Int) (j : Int) = some (canon (rangeI (i : Int) (j - i))) := by
  unfold scan_parts_add
  by_cases h : (j : Int) ≤ (i : Int)
  · rw [if_pos h, show j - i = 0 by omega]; rfl
  · rw [if_neg h, if_neg (by simp [show w64 (-1) = -1 from rfl]), app_of (by simp), bnd_some', w64_id ⟨by omega, by omega⟩]
    have := addS_canon [] (i : Int) (j - i)
    rw [List.nil_append] at this
    rw [← this, show canon [] = [] from rfl, addS_nil (by simp only; omega)]
    simp only [List.nil_append]
    congr 3; omega
def rq (b : List UInt8) : Nat → Nat → List Int → Nat × List Int
  | 0, i, acc => (i, acc)
  | n + 1, i, acc => if i < b.length ∧ (at_ b 34 i = false ∨ at_ b 34 (i + 1) = true) then rq b n (i + (if at_ b 34 i = true then 2 else 1)) (acc ++ [(i : Int)]) else (i, acc)
theorem rq_spec (b : List UInt8) : ∀ n i acc, b.length ≤ i + n → i ≤ b.length → acc.length ≤ i → (∀ x ∈ acc, 0 ≤ x ∧ x < (i : Int)) →
    let r := rq b n i acc
    i ≤ r.1 ∧ r.1 ≤ b.length ∧ r.2.length ≤ r.1 ∧ (∀ x ∈ r.2, 0 ≤ x ∧ x < (r.1 : Int)) ∧ (r.1 < b.length → at_ b 34 r.1 = true)
  | 0, i, acc, h, hi, hl, ha => ⟨Nat.le_refl _, hi, hl, ha, fun h' => by simp only [rq] at h'; omega⟩
  | n + 1, i, acc, h, hi, hl, ha => by
    simp only [rq]
    by_cases c : i < b.length ∧ (at_ b 34 i = false ∨ at_ b 34 (i + 1) = true)
    · rw [if_pos c]
      have h2 : i + (if at_ b 34 i = true then 2 else 1) ≤ b.length := by
        split
        · rename_i hq
          rcases c.2 with h' | h'
          · rw [hq] at h'; cases h'
          · have := at_in h'; omega
        · omega
      have h1 : i + 1 ≤ i + (if at_ b 34 i = true then 2 else 1) := by split <;> omega
      obtain ⟨g1, g2, g3, g4, g5⟩ := rq_spec b n (i + (if at_ b 34 i = true then 2 else 1)) (acc ++ [(i : Int)]) (by omega) h2 (by simp; omega) (by
        intro x hx
        rcases List.mem_append.1 hx with hx | hx
        · have := ha x hx; omega
        · simp at hx; omega)
      exact ⟨by omega, g2, g3, g4, g5⟩
    · rw [if_neg c]
      refine ⟨Nat.le_refl _, hi, hl, ha, fun h' => ?_⟩
      cases hq : at_ b 34 i with
      | true => rfl
      | false => exact absurd ⟨h', .inl hq⟩ c
theorem rq_fuel (b : List UInt8) : ∀ n m i acc, b.length ≤ i + n → b.length ≤ i + m → rq b n i acc = rq b m i acc
  | 0, 0, i, acc, _, _ => rfl
  | 0, m + 1, i, acc, h, _ => by simp only [rq]; rw [if_neg (fun h' => by omega)]
  | n + 1, 0, i, acc, _, h => by simp only [rq]; rw [if_neg (fun h' => by omega)]
  | n + 1, m + 1, i, acc, h, h' => by
    simp only [rq]
    split
    · have h1 : i + 1 ≤ i + (if at_ b 34 i = true then 2 else 1) := by split <;> omega
      exact rq_fuel b n m _ _ (by omega) (by omega)
    · rfl
/-- Bytes that are no quotes are passed. -/
theorem rq_skip (b : List UInt8) (i : Nat) (acc : List Int) (n : Nat) (hn : b.length ≤ i + n) : ∀ k, i + k ≤ b.length → (∀ j, i ≤ j → j < i + k → at_ b 34 j = false) → rq b n i acc = rq b n (i + k) (acc ++ rangeI (i : Int) k)
  | 0, _, _ => by simp [rangeI]
  | k + 1, hk, hq => by
    rw [rq_skip b i acc n hn k (by omega) (fun j h1 h2 => hq j h1 (by omega)), rq_fuel b n (n + 1) (i + k) _ (by omega) (by omega)]
    simp only [rq]
    have h0 := hq (i + k) (by omega) (by omega)
    rw [if_pos ⟨by omega, .inl h0⟩, h0, if_neg (by simp), rangeI_succ, List.append_assoc, show i + (k + 1) = i + k + 1 from rfl, show ((i + k : Nat) : Int) = (i : Int) + (k : Int) by omega]
/-- The next quote. -/
def nqF (b : List UInt8) : Nat → Nat → Nat
  | 0, i => i
  | n + 1, i => if i < b.length ∧ at_ b 34 i = false then nqF b n (i + 1) else i
theorem nqF_spec (b : List UInt8) : ∀ n i, b.length ≤ i + n → i ≤ b.length → i ≤ nqF b n i ∧ nqF b n i ≤ b.length ∧ (∀ j, i ≤ j → j < nqF b n i → at_ b 34 j = false) ∧ (nqF b n i < b.length → at_ b 34 (nqF b n i) = true)
  | 0, i, h, hi => ⟨Nat.le_refl _, hi, fun j h1 h2 => by simp only [nqF] at h2; omega, fun h' => by simp only [nqF] at h'; omega⟩
  | n + 1, i, h, hi => by
    simp only [nqF]
    by_cases c : i < b.length ∧ at_ b 34 i = false
    · rw [if_pos c]
      obtain ⟨h1, h2, h3, h4⟩ := nqF_spec b n (i + 1) (by omega) (by omega)
      refine ⟨by omega, h2, fun j j1 j2 => ?_, h4⟩
      by_cases hj : j = i
      · subst hj; exact c.2
      · exact h3 j (by omega) j2
    · rw [if_neg c]
      refine ⟨Nat.le_refl _, hi, fun j h1 h2 => by omega, fun h' => ?_⟩
      cases hq : at_ b 34 i with
      | true => rfl
      | false => exact absurd ⟨h', hq⟩ c
theorem skip_eq (b : List UInt8) (hb : b.length ≤ 2000000) : ∀ n (i : Nat), b.length ≤ i + n → i ≤ b.length → loop (scan_reader_quoted.l1 b) (i : Int) = some ((nqF b n i : Nat) : Int) := by
  have stop : ∀ i : Nat, ¬ (i < b.length ∧ at_ b 34 i = false) → scan_reader_quoted.l1 b (i : Int) = some (.done (i : Int)) := fun i c => by
    unfold scan_reader_quoted.l1
    rw [done_eq, bnd_some']
    by_cases h : b.length ≤ i
    · rw [decide_eq_true h, if_pos rfl, bnd_some', if_neg (by simp)]
    · have : at_ b 34 i = true := by
        cases hq : at_ b 34 i with
        | true => rfl
        | false => exact absurd ⟨by omega, hq⟩ c
      rw [decide_eq_false h, if_neg (by simp), is_eq, bnd_some', this, bnd_some', if_neg (by simp)]
  intro n
  induction n with
  | zero => intro i h hi; exact loop_done (stop i (fun h' => by omega))
  | succ n ih =>
    intro i h hi
    simp only [nqF]
    by_cases c : i < b.length ∧ at_ b 34 i = false
    · rw [if_pos c]
      refine loop_next (s' := ((i + 1 : Nat) : Int)) ?_ (ih _ (by omega) (by omega))
      unfold scan_reader_quoted.l1
      rw [done_eq, bnd_some', decide_eq_false (by omega), if_neg (by simp), is_eq, bnd_some', c.2, bnd_some', if_pos (by rfl), w64_id ⟨by omega, by omega⟩]
      congr 2
    · rw [if_neg c]; exact loop_done (stop i c)
/-- What a field with a quote ahead comes to, from where its bytes ended. -/
def qEnd (b : List UInt8) (r : Nat × List Int) : Int × List Int × Nat :=
  if b.length ≤ r.1 then (4, r.2, r.1) else (if r.1 + 1 < tl b (r.1 + 1) then 3 else 1, r.2 ++ rangeI ((r.1 + 1 : Nat) : Int) (tl b (r.1 + 1) - (r.1 + 1)), tl b (r.1 + 1))
theorem goodP_of {p : List Int} {m : Nat} (h : ∀ x ∈ p, 0 ≤ x ∧ x < (m : Int)) (hm : m ≤ 2000000) : GoodP p := fun x hx => by have := h x hx; omega
theorem goodP_range {i n : Nat} (h : i + n ≤ 2000000) : GoodP (rangeI (i : Int) n) := fun x hx => by
  simp only [rangeI, List.mem_map, List.mem_range] at hx
  obtain ⟨k, hk, rfl⟩ := hx; omega
theorem label_eq (b : List UInt8) (hb : b.length ≤ 2000000) : ∀ n (i : Nat) acc, b.length ≤ i + n → i ≤ b.length → acc.length ≤ i → (∀ x ∈ acc, 0 ≤ x ∧ x < (i : Int)) →
    loop (scan_reader_quoted.l2 b) ((i : Int), (i : Int), canon acc) = some ((qEnd b (rq b n i acc)).1, canon (qEnd b (rq b n i acc)).2.1, (((qEnd b (rq b n i acc)).2.2 : Nat) : Int)) := by
  intro n
  induction n using Nat.strongRecOn with
  | _ n ih =>
    intro i acc h hi hl ha
    obtain ⟨g1, g2, g3, g4⟩ := nqF_spec b b.length i (by omega) hi
    have hsk := skip_eq b hb b.length i (by omega) hi
    generalize nqF b b.length i = t at *
    have hskip : rq b n i acc = rq b n t (acc ++ rangeI (i : Int) (t - i)) := by
      have := rq_skip b i acc n h (t - i) (by omega) (fun j h1 h2 => g3 j h1 (by omega))
      rwa [show i + (t - i) = t by omega] at this
    have hga := goodP_of ha (by omega)
    have hr : GoodP (rangeI (i : Int) (t - i)) := goodP_range (by omega)
    by_cases ht : b.length ≤ t
    · refine loop_done ?_
      unfold scan_reader_quoted.l2
      simp only
      rw [hsk, bnd_some', done_eq, bnd_some', decide_eq_true ht, if_pos rfl, add2_eq i t acc hga (by omega) g1 (by omega), bnd_some', hskip]
      have e : rq b n t (acc ++ rangeI (i : Int) (t - i)) = (t, acc ++ rangeI (i : Int) (t - i)) := by
        cases n with
        | zero => rfl
        | succ n => simp only [rq]; rw [if_neg (fun h' => by omega)]
      rw [e, qEnd, if_pos ht]
    · have htl : t < b.length := by omega
      have hqt := g4 htl
      cases hn : at_ b 34 (t + 1) with
      | true =>
        have h2 := at_in hn
        obtain ⟨m, rfl⟩ : ∃ m, n = m + 1 := ⟨n - 1, by omega⟩
        have e : rq b (m + 1) t (acc ++ rangeI (i : Int) (t - i)) = rq b m (t + 2) (acc ++ rangeI (i : Int) (t + 1 - i)) := by
          simp only [rq]
          rw [if_pos ⟨htl, .inr hn⟩, hqt, if_pos rfl, show t + 1 - i = (t - i) + 1 by omega, rangeI_succ, List.append_assoc]
          congr 4; omega
        refine loop_next (s' := (((t + 2 : Nat) : Int), ((t + 2 : Nat) : Int), canon (acc ++ rangeI (i : Int) (t + 1 - i)))) ?_ ?_
        · unfold scan_reader_quoted.l2
          simp only
          rw [hsk, bnd_some', done_eq, bnd_some', decide_eq_false ht, if_neg (by simp), w64_id (x := (t : Int) + 1) ⟨by omega, by omega⟩, show (t : Int) + 1 = ((t + 1 : Nat) : Int) by omega, is_eq, bnd_some', hn, if_pos rfl, add2_eq i (t + 1) acc hga (by omega) (by omega) (by omega), bnd_some', w64_id ⟨by omega, by omega⟩]
          congr 4
        · rw [hskip, e]
          refine ih m (by omega) (t + 2) _ (by omega) (by omega) (by simp [rangeI_len]; omega) (fun x hx => ?_)
          rcases List.mem_append.1 hx with hx | hx
          · have := ha x hx; omega
          · simp only [rangeI, List.mem_map, List.mem_range] at hx
            obtain ⟨k, hk, rfl⟩ := hx; omega
      | false =>
        have e : rq b n t (acc ++ rangeI (i : Int) (t - i)) = (t, acc ++ rangeI (i : Int) (t - i)) := by
          cases n with
          | zero => rfl
          | succ n =>
            simp only [rq]
            rw [if_neg]
            rintro ⟨_, h' | h'⟩
            · rw [hqt] at h'; cases h'
            · rw [hn] at h'; cases h'
        obtain ⟨t1, t2, t3, t4⟩ := tl_spec b (t + 1)
        have t4' := t4 (by omega)
        refine loop_done ?_
        unfold scan_reader_quoted.l2
        simp only
        rw [hsk, bnd_some', done_eq, bnd_some', decide_eq_false ht, if_neg (by simp), w64_id (x := (t : Int) + 1) ⟨by omega, by omega⟩, show (t : Int) + 1 = ((t + 1 : Nat) : Int) by omega, is_eq, bnd_some', hn, if_neg (by simp),
          w64_id (x := ((t + 1 : Nat) : Int) - 1) ⟨by omega, by omega⟩, show ((t + 1 : Nat) : Int) - 1 = (t : Int) by omega, add2_eq i t acc hga (by omega) g1 (by omega), bnd_some', plain_eq b (t + 1) (by omega) hb, bnd_some']
        simp only
        rw [add2_eq (t + 1) (tl b (t + 1)) _ (goodP_app hga hr) (by simp [rangeI_len]; omega) t1 (by omega), bnd_some', hskip, e, qEnd, if_neg ht]
        by_cases c : t + 1 < tl b (t + 1)
        · rw [if_pos (by omega), if_pos c]
        · rw [if_neg (by omega), if_neg c]
def fieldF (b : List UInt8) (i : Nat) : Int × List Int × Nat :=
  if at_ b 34 i = true then qEnd b (rq b b.length (i + 1) []) else (if aq b i (tl b i - i) = true then 2 else 0, rangeI (i : Int) (tl b i - i), tl b i)
theorem fieldF_spec (b : List UInt8) (hb : b.length ≤ 2000000) (i : Nat) (hi : i ≤ b.length) : i ≤ (fieldF b i).2.2 ∧ (fieldF b i).2.2 ≤ b.length ∧ mk b (fieldF b i).2.2 = true ∧ (∀ x ∈ (fieldF b i).2.1, 0 ≤ x ∧ x < (b.length : Int)) ∧ (fieldF b i).2.1.length ≤ b.length := by
  unfold fieldF
  have hr : ∀ {p m : Nat}, p + m ≤ b.length → ∀ x ∈ rangeI (p : Int) m, 0 ≤ x ∧ x < (b.length : Int) := fun {p m} h x hx => by
    simp only [rangeI, List.mem_map, List.mem_range] at hx
    obtain ⟨k, hk, rfl⟩ := hx; omega
  by_cases c : at_ b 34 i = true
  · rw [if_pos c]
    have hi' := at_in c
    obtain ⟨g1, g2, g3, g4, g5⟩ := rq_spec b b.length (i + 1) [] (by omega) (by omega) (by simp) (by simp)
    generalize rq b b.length (i + 1) [] = r at *
    unfold qEnd
    by_cases d : b.length ≤ r.1
    · rw [if_pos d]
      exact ⟨by simp only; omega, g2, mk_out d, fun x hx => by have := g4 x hx; omega, by simp only; omega⟩
    · rw [if_neg d]
      obtain ⟨t1, t2, t3, t4⟩ := tl_spec b (r.1 + 1)
      have t4' := t4 (by omega)
      refine ⟨by simp only; omega, t4', t2, fun x hx => ?_, by simp [rangeI_len]; omega⟩
      rcases List.mem_append.1 hx with hx | hx
      · have := g4 x hx; omega
      · exact hr (by omega) x hx
  · rw [if_neg c]
    obtain ⟨t1, t2, t3, t4⟩ := tl_spec b i
    have t4' := t4 hi
    exact ⟨t1, t4', t2, hr (by omega), by simp [rangeI_len]; omega⟩
def sField (b : List UInt8) (i : Nat) : scan_Field := ⟨⟨(i : Int), (((fieldF b i).2.2 - i : Nat) : Int)⟩, (fieldF b i).1, canon (fieldF b i).2.1⟩
theorem sField_eq (b : List UInt8) (hb : b.length ≤ 2000000) (i : Nat) (hi : i ≤ b.length) : scan_reader_field b (i : Int) = some (sField b i, (((fieldF b i).2.2 : Nat) : Int)) := by
  obtain ⟨s1, s2, s3, s4, s5⟩ := fieldF_spec b hb i hi
  have key : (if at_ b 34 i = true then bnd (scan_reader_quoted b (i : Int)) fun x6 => some (x6.2.2, x6.1, x6.2.1) else bnd (scan_reader_bare b (i : Int)) fun x7 => some (x7.2.2, x7.1, x7.2.1) : Option (Int × Int × (List arena_Span))) = some ((((fieldF b i).2.2 : Nat) : Int), (fieldF b i).1, canon (fieldF b i).2.1) := by
    unfold fieldF
    by_cases c : at_ b 34 i = true
    · have hi' := at_in c
      rw [if_pos c, if_pos c]
      unfold scan_reader_quoted
      rw [w64_id ⟨by omega, by omega⟩, show (i : Int) + 1 = ((i + 1 : Nat) : Int) by omega]
      have := label_eq b hb b.length (i + 1) [] (by omega) (by omega) (by simp) (by simp)
      rw [show canon [] = [] from rfl] at this
      rw [this, bnd_some']
    · rw [if_neg c, if_neg c]
      obtain ⟨t1, t2, t3, t4⟩ := tl_spec b i
      have t4' := t4 hi
      unfold scan_reader_bare
      rw [plain_eq b i hi hb, bnd_some']
      simp only
      rw [add_eq i (tl b i) t1 (by omega), bnd_some']
      cases aq b i (tl b i - i) <;> rfl
  unfold scan_reader_field
  rw [is_eq, bnd_some', key, bnd_some', w64_id ⟨by omega, by omega⟩]
  unfold sField
  congr 4; omega
abbrev fe (b : List UInt8) (i : Nat) : Nat := (fieldF b i).2.2
/-- Where a row's fields begin, and where the last one ends. -/
def fsF (b : List UInt8) : Nat → Nat → List Nat × Nat
  | 0, i => ([i], fe b i)
  | n + 1, i => if at_ b 44 (fe b i) = true then (i :: (fsF b n (fe b i + 1)).1, (fsF b n (fe b i + 1)).2) else ([i], fe b i)
def fs (b : List UInt8) (i : Nat) : List Nat × Nat := fsF b b.length i
theorem fsF_spec (b : List UInt8) (hb : b.length ≤ 2000000) : ∀ n i, b.length ≤ i + n → i ≤ b.length → i ≤ (fsF b n i).2 ∧ (fsF b n i).2 ≤ b.length ∧ mk b (fsF b n i).2 = true ∧ at_ b 44 (fsF b n i).2 = false ∧ (∀ j ∈ (fsF b n i).1, j ≤ b.length) ∧ (fsF b n i).1.length ≤ b.length + 1 - i := by
  intro n
  induction n with
  | zero =>
    intro i h hi
    obtain ⟨s1, s2, s3, s4, s5⟩ := fieldF_spec b hb i hi
    have : at_ b 44 (fe b i) = false := by
      cases hc : at_ b 44 (fe b i) with
      | false => rfl
      | true => have := at_in hc; simp only [fe] at this; omega
    exact ⟨s1, s2, s3, this, by simp only [fsF]; simpa using hi, by simp only [fsF, List.length_cons, List.length_nil]; omega⟩
  | succ n ih =>
    intro i h hi
    obtain ⟨s1, s2, s3, s4, s5⟩ := fieldF_spec b hb i hi
    simp only [fsF]
    by_cases c : at_ b 44 (fe b i) = true
    · have hlt := at_in c
      simp only [if_pos c]
      have h0 : i ≤ fe b i := s1
      obtain ⟨h1, h2, h3, h4, h5, h6⟩ := ih (fe b i + 1) (by omega) (by omega)
      refine ⟨by omega, h2, h3, h4, fun j hj => ?_, by simp only [List.length_cons]; omega⟩
      rcases List.mem_cons.1 hj with rfl | hj
      · exact hi
      · exact h5 j hj
    · simp only [if_neg c]
      exact ⟨s1, s2, s3, by simpa using c, by simpa using hi, by simp only [List.length_cons, List.length_nil]; omega⟩
def endF (b : List UInt8) (e : Nat) : Int × Nat := if at_ b 10 e = true then (1, e + 1) else if at_ b 13 e = true then (if at_ b 10 (e + 1) = true then (2, e + 2) else (3, e + 1)) else (0, e)
theorem end_eq (b : List UInt8) (hb : b.length ≤ 2000000) (e : Nat) (he : e ≤ b.length) : scan_reader_end b (e : Int) = some ((endF b e).1, (((endF b e).2 : Nat) : Int)) := by
  unfold scan_reader_end endF
  rw [is_eq, bnd_some', w64_id (x := (e : Int) + 1) ⟨by omega, by omega⟩, show (e : Int) + 1 = ((e + 1 : Nat) : Int) by omega, is_eq, bnd_some', is_eq, bnd_some', w64_id (x := ((e + 1 : Nat) : Int) + 1) ⟨by omega, by omega⟩]
  cases at_ b 10 e <;> cases at_ b 13 e <;> cases at_ b 10 (e + 1) <;> simp <;> omega
theorem endF_spec (b : List UInt8) (e : Nat) (he : e ≤ b.length) : e ≤ (endF b e).2 ∧ (endF b e).2 ≤ b.length ∧ ((mk b e = true) → at_ b 44 e = false → e < b.length → e < (endF b e).2) := by
  unfold endF
  by_cases c1 : at_ b 10 e = true
  · have := at_in c1
    rw [if_pos c1]; exact ⟨by simp, by simp only; omega, fun _ _ _ => by simp⟩
  · rw [if_neg c1]
    by_cases c2 : at_ b 13 e = true
    · have := at_in c2
      rw [if_pos c2]
      by_cases c3 : at_ b 10 (e + 1) = true
      · have := at_in c3
        rw [if_pos c3]; exact ⟨by simp, by simp only; omega, fun _ _ _ => by simp⟩
      · rw [if_neg c3]; exact ⟨by simp, by simp only; omega, fun _ _ _ => by simp⟩
    · rw [if_neg c2]
      refine ⟨Nat.le_refl _, he, fun hm h44 hlt => ?_⟩
      exfalso
      simp only [at_, List.getElem?_eq_getElem hlt, mk, isMark] at *
      simp at c1 c2 hm h44
      rcases hm with (h | h) | h
      · exact h44 h
      · exact c2 h
      · exact c1 h
def sRow (b : List UInt8) (i : Nat) : scan_Row := ⟨(fs b i).1.map (sField b), (endF b (fs b i).2).1⟩
def nx (b : List UInt8) (i : Nat) : Nat := (endF b (fs b i).2).2
theorem sRowLoop (b : List UInt8) (hb : b.length ≤ 2000000) : ∀ n i acc, b.length ≤ i + n → i ≤ b.length → acc.length ≤ i → loop (scan_reader_row.l1 b) (((fe b i : Nat) : Int), acc ++ [sField b i]) = some ((((fsF b n i).2 : Nat) : Int), acc ++ (fsF b n i).1.map (sField b)) := by
  have stop : ∀ i acc, at_ b 44 (fe b i) = false → scan_reader_row.l1 b (((fe b i : Nat) : Int), acc) = some (.done (((fe b i : Nat) : Int), acc)) := fun i acc h => by
    unfold scan_reader_row.l1
    simp only
    rw [is_eq, bnd_some', h, if_neg (by simp)]
  intro n
  induction n with
  | zero =>
    intro i acc h hi hl
    obtain ⟨s1, s2, s3, s4, s5⟩ := fieldF_spec b hb i hi
    refine loop_done (stop i _ ?_)
    cases hc : at_ b 44 (fe b i) with
    | false => rfl
    | true => have := at_in hc; simp only [fe] at this; omega
  | succ n ih =>
    intro i acc h hi hl
    obtain ⟨s1, s2, s3, s4, s5⟩ := fieldF_spec b hb i hi
    have h0 : i ≤ fe b i := s1
    simp only [fsF]
    by_cases c : at_ b 44 (fe b i) = true
    · have hlt := at_in c
      rw [if_pos c]
      refine loop_next (s' := (((fe b (fe b i + 1) : Nat) : Int), (acc ++ [sField b i]) ++ [sField b (fe b i + 1)])) ?_ ?_
      · unfold scan_reader_row.l1
        simp only
        rw [is_eq, bnd_some', c, if_pos rfl, w64_id ⟨by omega, by omega⟩, show ((fe b i : Nat) : Int) + 1 = ((fe b i + 1 : Nat) : Int) by omega, sField_eq b hb _ (by omega), bnd_some', app_of (by simp; omega), bnd_some']
      · rw [ih (fe b i + 1) (acc ++ [sField b i]) (by omega) (by omega) (by simp; omega)]
        simp
    · rw [if_neg c]
      exact loop_done (stop i _ (by simpa using c))
theorem sRow_eq (b : List UInt8) (hb : b.length ≤ 2000000) (i : Nat) (hi : i ≤ b.length) : scan_reader_row b (i : Int) = some (sRow b i, ((nx b i : Nat) : Int)) := by
  obtain ⟨h1, h2, h3, h4, h5, h6⟩ := fsF_spec b hb b.length i (by omega) hi
  unfold scan_reader_row
  rw [sField_eq b hb i hi, bnd_some']
  have := sRowLoop b hb b.length i [] (by omega) hi (by simp)
  simp only [List.nil_append] at this
  simp only
  rw [this, bnd_some']
  simp only
  rw [end_eq b hb _ h2, bnd_some']
  rfl
theorem nx_lt (b : List UInt8) (hb : b.length ≤ 2000000) (i : Nat) (hi : i < b.length) : i < nx b i ∧ nx b i ≤ b.length := by
  obtain ⟨h1, h2, h3, h4, h5, h6⟩ := fsF_spec b hb b.length i (by omega) (by omega)
  obtain ⟨g1, g2, g3⟩ := endF_spec b (fs b i).2 h2
  refine ⟨?_, g2⟩
  rcases Nat.lt_or_ge (fs b i).2 b.length with h | h
  · have := g3 h3 h4 h
    have h1' : i ≤ (fs b i).2 := h1
    simp only [nx]; omega
  · simp only [nx]; omega
/-- Where rows begin. -/
def rsF (b : List UInt8) : Nat → Nat → List Nat
  | 0, _ => []
  | n + 1, i => if i < b.length then i :: rsF b n (nx b i) else []
theorem sAllLoop (b : List UInt8) (hb : b.length ≤ 2000000) : ∀ n i acc, b.length ≤ i + n → i ≤ b.length → acc.length ≤ i → loop (scan_All.l1 b) (acc, (i : Int)) = some (acc ++ (rsF b n i).map (sRow b)) := by
  have stop : ∀ (i : Nat) acc, b.length ≤ i → scan_All.l1 b (acc, (i : Int)) = some (.done acc) := fun i acc h => by
    unfold scan_All.l1
    simp only
    rw [done_eq, bnd_some', decide_eq_true h, if_pos rfl]
  intro n
  induction n with
  | zero => intro i acc h hi hl; rw [show acc ++ (rsF b 0 i).map (sRow b) = acc by simp [rsF]]; exact loop_done (stop i acc (by omega))
  | succ n ih =>
    intro i acc h hi hl
    simp only [rsF]
    by_cases c : i < b.length
    · rw [if_pos c]
      obtain ⟨n1, n2⟩ := nx_lt b hb i c
      refine loop_next (s' := (acc ++ [sRow b i], ((nx b i : Nat) : Int))) ?_ ?_
      · unfold scan_All.l1
        simp only
        rw [done_eq, bnd_some', decide_eq_false (by omega), if_neg (by simp), sRow_eq b hb i hi, bnd_some', app_of (by simp; omega), bnd_some']
      · rw [ih _ _ (by omega) n2 (by simp; omega)]; simp
    · rw [if_neg c, show acc ++ List.map (sRow b) [] = acc by simp]; exact loop_done (stop i acc (by omega))
def rs (b : List UInt8) : List Nat := rsF b b.length 0
theorem sAll_eq (b : List UInt8) (hb : b.length ≤ 2000000) : scan_All b = some ((rs b).map (sRow b)) := by
  unfold scan_All
  have := sAllLoop b hb b.length 0 [] (by omega) (by omega) (by simp)
  rw [show ((0 : Nat) : Int) = 0 from rfl] at this
  rw [this, bnd_some']; rfl
theorem rsF_spec (b : List UInt8) (hb : b.length ≤ 2000000) : ∀ n i, i ≤ b.length → (∀ j ∈ rsF b n i, j < b.length) ∧ (rsF b n i).length ≤ n := by
  intro n
  induction n with
  | zero => intro i _; simp [rsF]
  | succ n ih =>
    intro i hi
    simp only [rsF]
    by_cases c : i < b.length
    · rw [if_pos c]
      obtain ⟨n1, n2⟩ := nx_lt b hb i c
      obtain ⟨h1, h2⟩ := ih (nx b i) n2
      exact ⟨fun j hj => by
        rcases List.mem_cons.1 hj with rfl | hj
        · exact c
        · exact h1 j hj, by simp only [List.length_cons]; omega⟩
    · rw [if_neg c]; simp
theorem starts_spec (b : List UInt8) (hb : b.length ≤ 2000000) (i : Nat) (hi : i ≤ b.length) : (∀ j ∈ (fs b i).1, j ≤ b.length) ∧ (fs b i).1.length ≤ 2000001 := by
  obtain ⟨h1, h2, h3, h4, h5, h6⟩ := fsF_spec b hb b.length i (by omega) hi
  exact ⟨h5, by have : (fs b i).1.length ≤ b.length + 1 - i := h6
                omega⟩
def bytesAt (b : List UInt8) (p : List Int) : List UInt8 := p.filterMap fun x => b[x.toNat]?
theorem bytesAt_append (b : List UInt8) (p r : List Int) : bytesAt b (p ++ r) = bytesAt b p ++ bytesAt b r := by simp [bytesAt]
theorem bytesAt_len (b : List UInt8) (p : List Int) : (bytesAt b p).length ≤ p.length := List.length_filterMap_le _ _
theorem take_one (b : List UInt8) (n : Nat) (h : n < b.length) : b.take (n + 1) = b.take n ++ [b[n]] := List.take_succ_eq_append_getElem h
theorem bytes_range (b : List UInt8) (a : Nat) : ∀ n, a + n ≤ b.length → (b.take (a + n)).drop a = bytesAt b (rangeI (a : Int) n)
  | 0, h => by rw [List.drop_eq_nil_of_le (by simp; omega)]; rfl
  | n + 1, h => by
    rw [← Nat.add_assoc, take_one b (a + n) (by omega), List.drop_append_of_le_length (by simp; omega), bytes_range b a n (by omega), rangeI_succ, bytesAt_append]
    congr 1
    simp only [bytesAt, List.filterMap_cons, List.filterMap_nil]
    rw [show ((a : Int) + (n : Int)).toNat = a + n by omega, List.getElem?_eq_getElem (by omega)]
theorem made (b : List UInt8) (h : b.length ≤ 1000000000) : mkz 1 (b.length : Int) (0 : UInt8) = some (List.replicate b.length 0) := by
  rw [mkz_of (by omega)]; simp
theorem made_over (b : List UInt8) : over (List.replicate b.length (0 : UInt8)) b = b := over_same (by simp)
theorem New_eq (a : List UInt8) (h : a.length ≤ 4096) : arena_New a = some (.inr (0, a)) := by
  unfold arena_New
  rw [if_neg (by omega), made a (by omega), bnd_some', made_over]
def addA (b a : List UInt8) : arena_Span × Int × List UInt8 := if b.length = 0 then (⟨0, 0⟩, 0, a) else if 16384 < b.length + a.length then (⟨0, 0⟩, 6, a) else (⟨a.length, b.length⟩, 0, a ++ b)
theorem Room_eq (a : List UInt8) (ha : a.length ≤ 16384) : arena_Arena_Room a = some (16384 - (a.length : Int)) := by
  unfold arena_Arena_Room; rw [w64_id ⟨by omega, by omega⟩]
theorem Add_eq (b a : List UInt8) (ha : a.length ≤ 16384) (hb : b.length ≤ 1000000000) : arena_Arena_Add b a = some (addA b a) := by
  unfold arena_Arena_Add addA
  by_cases h0 : b.length = 0
  · rw [if_pos (by omega), if_pos h0]
  · rw [if_neg (by omega), if_neg h0, Room_eq a ha, bnd_some']
    by_cases h1 : 16384 < b.length + a.length
    · rw [if_pos (by omega), if_pos h1]
    · rw [if_neg (by omega), if_neg h1, app_of (by omega), bnd_some']
theorem addA_len (b a : List UInt8) (ha : a.length ≤ 16384) : (addA b a).2.2.length ≤ 16384 := by
  unfold addA
  by_cases h0 : b.length = 0
  · rw [if_pos h0]; exact ha
  · by_cases h1 : 16384 < b.length + a.length
    · rw [if_neg h0, if_pos h1]; exact ha
    · rw [if_neg h0, if_neg h1]; simp only [List.length_append]; omega
theorem addA_pre (b a : List UInt8) : ∃ m, (addA b a).2.2 = a ++ m := by
  unfold addA
  by_cases h0 : b.length = 0
  · exact ⟨[], by rw [if_pos h0]; simp⟩
  · by_cases h1 : 16384 < b.length + a.length
    · exact ⟨[], by rw [if_neg h0, if_pos h1]; simp⟩
    · exact ⟨b, by rw [if_neg h0, if_neg h1]⟩
def keepA (b a : List UInt8) : arena_Span × Int × List UInt8 := if b.length = 0 then (⟨0, 0⟩, 0, a) else if 0 ≤ Go.Lib.index a b then (⟨Go.Lib.index a b, b.length⟩, 0, a) else addA b a
theorem Keep_eq (b a : List UInt8) (ha : a.length ≤ 16384) (hb : b.length ≤ 1000000000) : arena_Arena_Keep b a = some (keepA b a) := by
  unfold arena_Arena_Keep keepA
  by_cases h0 : b.length = 0
  · rw [if_neg (by omega), bnd_some', if_pos h0]
    simp only
    rw [Add_eq b a ha hb, bnd_some']
    unfold addA; rw [if_pos h0]
  · rw [if_pos (by omega), if_neg h0, bIndex, if_pos ⟨by omega, by omega⟩, bnd_some']
    by_cases h1 : 0 ≤ Go.Lib.index a b
    · rw [if_pos h1, if_pos h1, bnd_some']
    · rw [if_neg h1, if_neg h1, bnd_some']
      simp only
      rw [Add_eq b a ha hb, bnd_some']
def rightA (s : arena_Span) (a : List UInt8) : Bool := decide (0 ≤ s.fAt ∧ 0 ≤ s.fN ∧ s.fAt ≤ a.length ∧ s.fN ≤ a.length - s.fAt)
theorem Right_eq (s : arena_Span) (a : List UInt8) (ha : a.length ≤ 1000000000) : arena_Arena_Right s a = some (rightA s a) := by
  unfold arena_Arena_Right rightA
  by_cases h1 : 0 ≤ s.fAt
  · rw [if_pos h1]
    by_cases h2 : 0 ≤ s.fN
    · rw [if_pos h2]
      by_cases h3 : s.fAt ≤ (a.length : Int)
      · rw [if_pos h3, w64_id ⟨by omega, by omega⟩, bnd_some']
        simp [h1, h2, h3]
      · rw [if_neg h3, bnd_some']; simp [h3]
    · rw [if_neg h2, bnd_some']; simp [h2]
  · rw [if_neg h1, bnd_some']; simp [h1]
def bytesA (s : arena_Span) (a : List UInt8) : List UInt8 := if rightA s a = true then (a.take (s.fAt + s.fN).toNat).drop s.fAt.toNat else []
theorem bytesA_len (s : arena_Span) (a : List UInt8) : (bytesA s a).length ≤ a.length := by
  unfold bytesA; split <;> simp; omega
theorem Bytes_eq (s : arena_Span) (a : List UInt8) (ha : a.length ≤ 1000000000) : arena_Arena_Bytes s a = some (bytesA s a) := by
  have hl := bytesA_len s a
  unfold arena_Arena_Bytes arena_Arena_part
  rw [Right_eq s a ha, bnd_some']
  cases h : rightA s a with
  | false =>
    rw [if_neg (by simp), bnd_some']
    simp only
    rw [made [] (by simp), bnd_some', made_over]
    simp [bytesA, h]
  | true =>
    have hr := h
    unfold rightA at hr
    simp only [decide_eq_true_eq] at hr
    have hb : bytesA s a = (a.take (s.fAt + s.fN).toNat).drop s.fAt.toNat := by simp [bytesA, h]
    rw [if_pos rfl, w64_id ⟨by omega, by omega⟩, cut_of ⟨by omega, by omega, by omega⟩, bnd_some', bnd_some']
    simp only
    rw [cut_of ⟨by omega, by omega, by omega⟩, bnd_some', ← hb, made _ (by omega), bnd_some', made_over]
theorem bytesA_add (a b : List UInt8) : bytesA ⟨a.length, b.length⟩ (a ++ b) = b ∧ rightA ⟨a.length, b.length⟩ (a ++ b) = true := by
  have h' : rightA ⟨a.length, b.length⟩ (a ++ b) = true := by
    unfold rightA
    simp only [decide_eq_true_eq, List.length_append]
    omega
  refine ⟨?_, h'⟩
  unfold bytesA
  rw [if_pos h']
  simp only
  rw [show ((a.length : Int) + (b.length : Int)).toNat = (a ++ b).length by simp; omega, List.take_length]
  simp
/-- Where a text stands. -/
theorem index_of {a b : List UInt8} (h : 0 ≤ Go.Lib.index a b) (hb : 0 < b.length) : ∃ k : Nat, Go.Lib.index a b = k ∧ k + b.length ≤ a.length ∧ (a.drop k).take b.length = b ∧ ∀ j, j < k → (a.drop j).take b.length ≠ b := by
  by_cases hx : ∃ j, j ≤ a.length ∧ Go.Lib.occAt a b j = true
  · -- the first such place
    have hfirst : ∃ k, k ≤ a.length ∧ Go.Lib.occAt a b k = true ∧ ∀ j, j < k → Go.Lib.occAt a b j = false := by
      obtain ⟨j, hj⟩ := hx
      have key : ∀ n j, j ≤ n → j ≤ a.length → Go.Lib.occAt a b j = true → ∃ k, k ≤ a.length ∧ Go.Lib.occAt a b k = true ∧ ∀ j, j < k → Go.Lib.occAt a b j = false := by
        intro n
        induction n with
        | zero => intro j hn hj ho; exact ⟨j, hj, ho, fun i hi => by omega⟩
        | succ n ih =>
          intro j hn hj ho
          by_cases hi : ∃ i, i < j ∧ Go.Lib.occAt a b i = true
          · obtain ⟨i, h1, h2⟩ := hi
            exact ih i (by omega) (by omega) h2
          · exact ⟨j, hj, ho, fun i h1 => by
              cases hc : Go.Lib.occAt a b i with
              | false => rfl
              | true => exact absurd ⟨i, h1, hc⟩ hi⟩
      exact key j j (Nat.le_refl _) hj.1 hj.2
    obtain ⟨k, k1, k2, k3⟩ := hfirst
    have hroom := Go.Lib.occAt_room k2
    have hr : k + b.length ≤ a.length := hroom.elim id (fun e => by rw [e] at hb; simp at hb)
    refine ⟨k, Go.Lib.index_first k1 k2 k3, hr, ?_, fun j hj e => ?_⟩
    · have := Go.Lib.occAt_iff_take a b k hr
      rw [k2] at this
      simpa using this.symm
    · have := Go.Lib.occAt_iff_take a b j (by omega)
      rw [k3 j hj, e] at this
      simp at this
  · have := Go.Lib.index_none (s := a) (sub := b) (fun j hj => by
      cases hc : Go.Lib.occAt a b j with
      | false => rfl
      | true => exact absurd ⟨j, hj, hc⟩ hx)
    omega
/-- What is kept is told. -/
theorem keepA_spec (b a : List UInt8) (ha : a.length ≤ 16384) : (keepA b a).2.2.length ≤ 16384 ∧ (∃ m, (keepA b a).2.2 = a ++ m) ∧
    ((keepA b a).2.1 = 0 ∧ bytesA (keepA b a).1 (keepA b a).2.2 = b ∧ rightA (keepA b a).1 (keepA b a).2.2 = true ∧ (keepA b a).1.fN = b.length ∨ (keepA b a).2.1 = 6 ∧ 16384 < b.length + a.length ∧ (keepA b a).2.2 = a) := by
  unfold keepA
  by_cases h0 : b.length = 0
  · rw [if_pos h0]
    obtain rfl := List.length_eq_zero_iff.1 h0
    refine ⟨ha, ⟨[], by simp⟩, .inl ⟨rfl, ?_, ?_, rfl⟩⟩
    · simp [bytesA]
    · simp [rightA]
  · rw [if_neg h0]
    by_cases h1 : 0 ≤ Go.Lib.index a b
    · rw [if_pos h1]
      obtain ⟨k, k1, k2, k3, _⟩ := index_of h1 (by omega)
      have hr : rightA ⟨Go.Lib.index a b, b.length⟩ a = true := by
        unfold rightA; rw [k1]; simp only [decide_eq_true_eq]; omega
      refine ⟨ha, ⟨[], by simp⟩, .inl ⟨rfl, ?_, hr, rfl⟩⟩
      unfold bytesA
      rw [if_pos hr]
      simp only
      rw [k1, show ((k : Int) + (b.length : Int)).toNat = k + b.length by omega, show ((k : Int)).toNat = k by omega]
      rw [show (a.take (k + b.length)).drop k = (a.drop k).take b.length by rw [List.drop_take]; congr 1; omega]
      exact k3
    · rw [if_neg h1]
      refine ⟨addA_len b a ha, addA_pre b a, ?_⟩
      unfold addA
      rw [if_neg h0]
      by_cases h2 : 16384 < b.length + a.length
      · rw [if_pos h2]; exact .inr ⟨rfl, h2, rfl⟩
      · rw [if_neg h2]; exact .inl ⟨rfl, (bytesA_add a b).1, (bytesA_add a b).2, rfl⟩
def InA (r : List Int) (a : List UInt8) : Prop := ∀ x ∈ r, 0 ≤ x ∧ x < (a.length : Int)
theorem inA_good {r : List Int} {a : List UInt8} (h : InA r a) (ha : a.length ≤ 2000000) : GoodP r := fun x hx => by have := h x hx; omega
theorem inA_app {r : List Int} {a : List UInt8} (h : InA r a) (m : List UInt8) : InA r (a ++ m) := fun x hx => by have := h x hx; simp only [List.length_append]; omega
theorem bytesAt_app {r : List Int} {a : List UInt8} (h : InA r a) (m : List UInt8) : bytesAt (a ++ m) r = bytesAt a r := by
  unfold bytesAt
  induction r with
  | nil => rfl
  | cons x r ih =>
    have hx := h x (by simp)
    have ih' := ih (fun y hy => h y (by simp [hy]))
    simp only [List.filterMap_cons]
    rw [List.getElem?_append_left (by omega), ih']
theorem bytesA_range {s : arena_Span} {a : List UInt8} (h0 : 0 ≤ s.fAt) (h1 : 0 ≤ s.fN) (h2 : s.fAt + s.fN ≤ a.length) : bytesA s a = bytesAt a (exp1 s) ∧ rightA s a = true := by
  have hr : rightA s a = true := by unfold rightA; simp only [decide_eq_true_eq]; omega
  refine ⟨?_, hr⟩
  unfold bytesA
  rw [if_pos hr]
  have := bytes_range a s.fAt.toNat s.fN.toNat (by omega)
  rw [show (s.fAt + s.fN).toNat = s.fAt.toNat + s.fN.toNat by omega, this, exp1, show ((s.fAt.toNat : Nat) : Int) = s.fAt by omega]
theorem exp1_last {x : arena_Span} (h : 1 ≤ x.fN) : x.fAt + ((x.fN.toNat - 1 : Nat) : Int) ∈ exp1 x := by
  simp only [exp1, rangeI, List.mem_map, List.mem_range]
  exact ⟨x.fN.toNat - 1, by omega, rfl⟩
theorem Flat_eq (t : piece_Text) (r : List Int) (a : List UInt8) (ht : t.fL = canon r) (hr : InA r a) (ha : a.length ≤ 2000000) (hl : r.length ≤ 2000000) : piece_Text_Flat t a = some (bytesAt a r) := by
  have p1 := inA_good hr ha
  have hc := canon_len r
  have hg := canon_good r p1
  have h := loop_fold (f := piece_Text_Flat.l1 t a) (fun k (s : List UInt8) => (k, s)) (canon r) (fun pre => bytesAt a (expand pre)) (t := bytesAt a r)
    (fun pre x suf hs => by
      obtain ⟨g1, g2, g3⟩ := exp_sub p1 (show canon r = pre ++ (x :: suf) from hs)
      have hx : Good x := hg x (by rw [hs]; simp)
      simp only [Good] at hx
      have hpl : pre.length + 1 ≤ (canon r).length := by rw [hs]; simp
      have hbl := bytesAt_len a (expand pre)
      have hin : x.fAt + x.fN ≤ (a.length : Int) := by
        have := hr (x.fAt + ((x.fN.toNat - 1 : Nat) : Int)) (by
          rw [g3, show x :: suf = [x] ++ suf from rfl, expand_append, expand_one]
          simp only [List.mem_append]
          exact .inr (.inl (exp1_last (by omega))))
        omega
      obtain ⟨e1, e2⟩ := bytesA_range (s := x) (a := a) (by omega) (by omega) hin
      have hl1 := bytesAt_len a (exp1 x)
      have hl2 : (exp1 x).length = x.fN.toNat := rangeI_len _ _
      unfold piece_Text_Flat.l1
      rw [ht]
      simp only
      rw [if_pos (by omega), show idx (canon r) (pre.length : Int) = some x by rw [hs]; exact idx_at pre x suf, bnd_some', Bytes_eq _ _ (by omega), bnd_some', e1, app_of (by omega), bnd_some', w64_id ⟨by omega, by omega⟩, expand_append, expand_one, bytesAt_append])
    (by
      unfold piece_Text_Flat.l1
      rw [ht]
      simp only
      rw [if_neg (by omega), canon_expand r p1])
  unfold piece_Text_Flat
  have h' : loop (piece_Text_Flat.l1 t a) (0, []) = some (bytesAt a r) := by simpa [bytesAt, expand] using h
  rw [h', bnd_some']
theorem OfG_eq (fa : List arena_Span) (h1 : fa.length ≤ 2000000) (h2 : ∀ s ∈ fa, 1 ≤ s.fN → Good s) (hp : GoodP (expand fa)) (hl : (expand fa).length ≤ 2000000) : piece_Of fa = some (tOf (expand fa)) := by
  have h : loop (piece_Of.l1 fa) (0, 0, []) = some (((expand fa).length : Int), canon (expand fa)) := by
    refine loop_fold (f := piece_Of.l1 fa) (fun i (s : Int × List arena_Span) => (i, s)) fa (fun pre => (((expand pre).length : Int), canon (expand pre))) (t := (((expand fa).length : Int), canon (expand fa))) ?_ ?_
    · intro pre x suf hs
      have hpre : GoodP (expand pre) ∧ (expand pre).length ≤ (expand fa).length := by
        have e : expand fa = expand pre ++ expand (x :: suf) := by rw [hs, expand_append]
        exact ⟨fun y hy => hp y (by rw [e]; exact List.mem_append.2 (.inl hy)), by rw [e]; simp⟩
      have h1' : pre.length + 1 ≤ fa.length := by rw [hs]; simp
      have hc := canon_len (expand pre)
      unfold piece_Of.l1
      simp only
      rw [if_pos (by omega), show idx fa (pre.length : Int) = some x by rw [hs]; exact idx_at pre x suf, bnd_some', with_eq x _ _ (canon_good _ hpre.1) (h2 x (by rw [hs]; simp)) ⟨by omega, by omega⟩ (by omega), bnd_some', w64_id ⟨by omega, by omega⟩, expand_append, expand_one]
      simp only [addS_exp]
      rw [show (exp1 x).foldl addI (canon (expand pre)) = canon (expand pre ++ exp1 x) by simp [canon, List.foldl_append]]
      simp [exp1, rangeI_len]
    · unfold piece_Of.l1
      simp only
      rw [if_neg (by omega)]
  unfold piece_Of
  rw [h, bnd_some']
  rfl
/-- The text of spans side by side. -/
theorem OfC_eq (r : List Int) (hr : GoodP r) (hl : r.length ≤ 2000000) : piece_Of (canon r) = some (tOf r) := by
  have hc := canon_len r
  have he := canon_expand r hr
  have := OfG_eq (canon r) (by omega) (fun s hs _ => canon_good r hr s hs) (by rw [he]; exact hr) (by rw [he]; exact hl)
  rw [this, he]
/-- The text of one span of an arena. -/
theorem Of1_eq (s : arena_Span) (a : List UInt8) (hr : rightA s a = true) (ha : a.length ≤ 2000000) : piece_Of [s] = some (tOf (exp1 s)) ∧ InA (exp1 s) a ∧ bytesA s a = bytesAt a (exp1 s) := by
  have h := hr
  unfold rightA at h
  simp only [decide_eq_true_eq] at h
  have hin : InA (exp1 s) a := fun x hx => by
    simp only [exp1, rangeI, List.mem_map, List.mem_range] at hx
    obtain ⟨i, hi, rfl⟩ := hx
    omega
  refine ⟨?_, hin, (bytesA_range h.1 h.2.1 (by omega)).1⟩
  have := OfG_eq [s] (by simp) (fun x hx h1 => by obtain rfl := List.mem_singleton.1 hx; simp only [Good]; omega) (by rw [expand_one]; exact inA_good hin ha) (by rw [expand_one]; simp only [exp1, rangeI_len]; omega)
  rw [this, expand_one]
theorem PLen_eq (r : List Int) : piece_Text_Len (tOf r) = some (r.length : Int) := rfl
def isQ (x : UInt8) : Bool := x == 44 || x == 34 || x == 13 || x == 10
def needs (b : List UInt8) : Bool := b.any isQ
def esc1 (x : UInt8) : List UInt8 := if x = 34 then [34, 34] else [x]
def esc (b : List UInt8) : List UInt8 := b.flatMap esc1
def put (b : List UInt8) : List UInt8 := if needs b = true then 34 :: (esc b ++ [34]) else b
theorem esc_snoc (b : List UInt8) (x : UInt8) : esc (b ++ [x]) = esc b ++ esc1 x := by simp [esc]
theorem esc1_len (x : UInt8) : (esc1 x).length ≤ 2 := by unfold esc1; split <;> simp
theorem esc_len (b : List UInt8) : (esc b).length ≤ 2 * b.length := by
  induction b with
  | nil => simp [esc]
  | cons x b ih =>
    rw [show esc (x :: b) = esc1 x ++ esc b by simp [esc]]
    have := esc1_len x
    simp only [List.length_append, List.length_cons]; omega
theorem put_len (b : List UInt8) : (put b).length ≤ 2 * b.length + 2 := by
  unfold put
  have := esc_len b
  split <;> simp <;> omega
/-- How many quotes. -/
def nq (b : List UInt8) : Nat := (b.filter (· == 34)).length
theorem nq_le (b : List UInt8) : nq b ≤ b.length := List.length_filter_le _ _
theorem nq_snoc (b : List UInt8) (x : UInt8) : nq (b ++ [x]) = nq b + (if x = 34 then 1 else 0) := by
  unfold nq
  rw [List.filter_append, List.length_append]
  congr 1
  by_cases h : x = 34
  · simp [h]
  · simp [h]
theorem esc_nq (b : List UInt8) : (esc b).length = b.length + nq b := by
  induction b using snoc_ind with
  | nil => rfl
  | snoc b x ih =>
    rw [esc_snoc, nq_snoc, List.length_append, ih, List.length_append]
    unfold esc1
    split <;> simp <;> omega
theorem needs_snoc (b : List UInt8) (x : UInt8) : needs (b ++ [x]) = (needs b || isQ x) := by simp [needs]
theorem class_eq (x : UInt8) : quote_class x = some (if x = 44 then 1 else if x = 34 then 2 else if x = 13 then 3 else if x = 10 then 4 else 0) := by
  unfold quote_class
  simp only [u8_44, u8_34, u8_13, u8_10]
  split
  · rfl
  · split
    · rfl
    · split
      · rfl
      · split <;> rfl
theorem class0 (x : UInt8) : (if x = 44 then 1 else if x = 34 then 2 else if x = 13 then 3 else if x = 10 then 4 else (0 : Int)) = 0 ↔ isQ x = false := by
  unfold isQ
  by_cases c1 : x = 44
  · simp [c1]
  · by_cases c2 : x = 34
    · simp [c2]
    · by_cases c3 : x = 13
      · simp [c3]
      · by_cases c4 : x = 10
        · simp [c4]
        · simp [c1, c2, c3, c4]
theorem class2 (x : UInt8) : (if x = 44 then 1 else if x = 34 then 2 else if x = 13 then 3 else if x = 10 then 4 else (0 : Int)) = 2 ↔ x = 34 := by
  by_cases c1 : x = 44
  · simp [c1]
  · by_cases c2 : x = 34
    · simp [c2]
    · by_cases c3 : x = 13
      · simp [c3]
      · by_cases c4 : x = 10
        · simp [c4]
        · simp [c1, c2, c3, c4]
theorem needs_eq (b : List UInt8) (hb : b.length ≤ 2000000) : quote_Needs b = some (needs b) := by
  obtain ⟨t, g1, g2⟩ := loop_for (f := quote_Needs.l1 b) (σ := Unit) (fun k _ => k) b (fun pre _ => needs pre = false) (fun t => match t with | .brk _ => needs b = false | .ret v => v = true ∧ needs b = true)
    (fun pre x suf _ hs hI => by
      have hpl : pre.length + 1 ≤ b.length := by rw [hs]; simp
      unfold quote_Needs.l1
      rw [if_pos (by omega), show idx b (pre.length : Int) = some x by rw [hs]; exact idx_at pre x suf, bnd_some', class_eq, bnd_some']
      cases hq : isQ x with
      | false =>
        rw [if_pos ((class0 x).2 hq), w64_id ⟨by omega, by omega⟩]
        exact .inl ⟨(), rfl, by rw [needs_snoc, hI, hq]; rfl⟩
      | true =>
        rw [if_neg (fun h => by rw [(class0 x).1 h] at hq; cases hq)]
        refine .inr ⟨_, rfl, rfl, ?_⟩
        rw [hs]
        simp [needs, hq])
    (fun _ hI => by
      refine ⟨Ex.brk (), ?_, hI⟩
      unfold quote_Needs.l1
      rw [if_neg (by omega)]) (s0 := ()) rfl
  unfold quote_Needs
  rw [g1, bnd_some']
  cases t with
  | brk u => simp only at g2 ⊢; rw [g2]
  | ret v => simp only at g2 ⊢; rw [g2.1, g2.2]
theorem quotes_eq (b : List UInt8) (hb : b.length ≤ 2000000) : quote_quotes b = some (nq b : Int) := by
  have h := loop_fold (f := quote_quotes.l1 b) (fun i (s : Int) => (s, i)) b (fun pre => (nq pre : Int)) (t := (nq b : Int))
    (fun pre x suf hs => by
      have hpl : pre.length + 1 ≤ b.length := by rw [hs]; simp
      have hn := nq_le pre
      unfold quote_quotes.l1
      simp only
      rw [if_pos (by omega), show idx b (pre.length : Int) = some x by rw [hs]; exact idx_at pre x suf, bnd_some', class_eq, bnd_some', nq_snoc]
      simp only [class2]
      by_cases c : x = 34
      · rw [if_pos c, if_pos c, w64_id ⟨by omega, by omega⟩, bnd_some', w64_id ⟨by omega, by omega⟩]; rfl
      · rw [if_neg c, if_neg c, bnd_some', w64_id ⟨by omega, by omega⟩]; rfl)
    (by
      unfold quote_quotes.l1
      simp only
      rw [if_neg (by omega)])
  unfold quote_quotes
  have h' : loop (quote_quotes.l1 b) (0, 0) = some (nq b : Int) := by simpa [nq] using h
  rw [h', bnd_some']
theorem width_eq (b : List UInt8) (hb : b.length ≤ 2000000) : quote_Width b = some ((put b).length : Int) := by
  have hn := nq_le b
  unfold quote_Width put
  rw [needs_eq b hb, bnd_some']
  cases needs b with
  | true =>
    rw [if_pos rfl, if_pos rfl, quotes_eq b hb, bnd_some', w64_id (x := (b.length : Int) + (nq b : Int)) ⟨by omega, by omega⟩, w64_id ⟨by omega, by omega⟩]
    simp [esc_nq]; omega
  | false => rw [if_neg (by simp), if_neg (by simp)]
theorem put_eq (b : List UInt8) (hb : b.length ≤ 2000000) : quote_Put b = some (put b) := by
  have hp := put_len b
  unfold quote_Put
  rw [width_eq b hb, bnd_some', mkc_of ⟨by omega, by omega⟩, bnd_some', needs_eq b hb, bnd_some']
  cases hn : needs b with
  | false =>
    rw [if_neg (by simp), app_of (by simp; omega), bnd_some']
    simp [put, hn]
  | true =>
    rw [if_pos rfl, app_of (by simp), bnd_some']
    have h := loop_fold (f := quote_Put.l1 b) (fun i (s : List UInt8) => (i, s)) b (fun pre => 34 :: esc pre) (t := 34 :: esc b)
      (fun pre x suf hs => by
        have hpl : pre.length + 1 ≤ b.length := by rw [hs]; simp
        have he := esc_len pre
        unfold quote_Put.l1
        simp only
        rw [if_pos (by omega), show idx b (pre.length : Int) = some x by rw [hs]; exact idx_at pre x suf, bnd_some', class_eq, bnd_some', esc_snoc]
        simp only [class2]
        by_cases c : x = 34
        · rw [if_pos c, app_of (by simp; omega), bnd_some', bnd_some', app_of (by simp; omega), bnd_some', w64_id ⟨by omega, by omega⟩]
          simp [esc1, c]
        · rw [if_neg c, bnd_some', app_of (by simp; omega), bnd_some', w64_id ⟨by omega, by omega⟩]
          simp [esc1, c])
      (by
        unfold quote_Put.l1
        simp only
        rw [if_neg (by omega)])
    have h' : loop (quote_Put.l1 b) (0, [34]) = some (34 :: esc b) := by simpa [esc] using h
    have he := esc_len b
    simp only [List.nil_append]
    rw [h', bnd_some', app_of (by simp; omega), bnd_some']
    simp [put, hn]
theorem CBytes_eq (r : List Int) (raw : arena_Span) (k : Bool) (a : List UInt8) (hr : InA r a) (ha : a.length ≤ 16384) (hl : r.length ≤ 2000000) : cell_Cell_Bytes ⟨tOf r, raw, k⟩ a = some (bytesAt a r) := by
  unfold cell_Cell_Bytes
  rw [Flat_eq (tOf r) r a rfl hr (by omega) hl, bnd_some']
theorem Plain_eq (r : List Int) (raw : arena_Span) (k : Bool) (a : List UInt8) (hr : InA r a) (ha : a.length ≤ 16384) (hl : r.length ≤ 2000000) : law07_Plain ⟨tOf r, raw, k⟩ a = some ⟨bytesAt a r, if k = true then bytesA raw a else [], k⟩ := by
  unfold law07_Plain
  rw [CBytes_eq r raw k a hr ha hl, bnd_some']
  dsimp only
  cases k with
  | true => rw [if_pos rfl, if_pos rfl, Bytes_eq _ _ (by omega), bnd_some', bnd_some']
  | false => rw [if_neg (by simp), if_neg (by simp), bnd_some']
theorem Print_eq (r : List Int) (raw : arena_Span) (k : Bool) (a : List UInt8) (hr : InA r a) (ha : a.length ≤ 16384) (hl : r.length ≤ 100000) : cell_Cell_Print ⟨tOf r, raw, k⟩ a = some (if k = true then bytesA raw a else put (bytesAt a r)) := by
  unfold cell_Cell_Print
  have hb := bytesAt_len a r
  cases k with
  | true => rw [if_pos rfl, if_pos rfl, Bytes_eq _ _ (by omega), bnd_some']
  | false => rw [if_neg (by simp), if_neg (by simp), CBytes_eq r raw false a hr ha (by omega), bnd_some', put_eq _ (by omega), bnd_some']
theorem PlainK_eq (r : List Int) (raw : arena_Span) (a : List UInt8) (hr : InA r a) (ha : a.length ≤ 16384) (hl : r.length ≤ 2000000) : law07_Plain ⟨tOf r, raw, true⟩ a = some ⟨bytesAt a r, bytesA raw a, true⟩ := by
  rw [Plain_eq r raw true a hr ha hl, if_pos rfl]
theorem PrintW_eq (r : List Int) (raw : arena_Span) (a : List UInt8) (hr : InA r a) (ha : a.length ≤ 16384) (hl : r.length ≤ 100000) : cell_Cell_Print ⟨tOf r, raw, false⟩ a = some (put (bytesAt a r)) := by
  rw [Print_eq r raw false a hr ha hl, if_neg (by simp)]
theorem Load_eq (r : List Int) (raw : arena_Span) (k : Int) (hr : GoodP r) (hl : r.length ≤ 2000000) : cell_Load ⟨raw, k, canon r⟩ = some ⟨tOf r, raw, true⟩ := by
  unfold cell_Load
  rw [OfC_eq r hr hl, bnd_some']
theorem CPut_eq (b a : List UInt8) (ha : a.length ≤ 16384) (hb : b.length ≤ 400) :
    (∃ s a', cell_Put b a = some (⟨tOf (exp1 s), ⟨0, 0⟩, false⟩, 0, a') ∧ InA (exp1 s) a' ∧ bytesAt a' (exp1 s) = b ∧ a'.length ≤ 16384 ∧ (exp1 s).length = b.length) ∨
    (cell_Put b a = some (⟨⟨[], 0⟩, ⟨0, 0⟩, false⟩, 6, a) ∧ 16384 < b.length + a.length) := by
  unfold cell_Put
  rw [if_neg (by omega), Keep_eq b a ha (by omega), bnd_some']
  obtain ⟨k1, k2, k3⟩ := keepA_spec b a ha
  rcases k3 with ⟨q1, q2, q3, q4⟩ | ⟨q1, q2, q3⟩
  · obtain ⟨o1, o2, o3⟩ := Of1_eq _ _ q3 (by omega)
    rw [if_pos q1, o1, bnd_some']
    refine .inl ⟨_, _, rfl, o2, by rw [← o3, q2], k1, ?_⟩
    rw [show (exp1 (keepA b a).1).length = (keepA b a).1.fN.toNat from rangeI_len _ _, q4]; omega
  · rw [if_neg (by rw [q1]; decide), q1, q3]
    exact .inr ⟨rfl, q2⟩
theorem cut8_eq (a : List UInt8) (n : Nat) : law08_cut a (n : Int) = some (a.take n) := by
  unfold law08_cut
  by_cases h : a.length > n
  · rw [if_pos (by omega), cut_of ⟨by omega, by omega, by omega⟩, bnd_some']; simp
  · rw [if_neg (by omega), List.take_of_length_le (by omega)]
theorem set_at {α : Type} (l : List α) (x y : α) (r : List α) (n : Nat) (h : n = l.length) : (l ++ x :: r).set n y = l ++ y :: r := by
  subst h
  induction l with
  | nil => rfl
  | cons a l ih => simp
def zc : cell_Cell := ⟨⟨[], 0⟩, ⟨0, 0⟩, false⟩
def kc (w : List UInt8) (j : Nat) : cell_Cell := ⟨tOf (fieldF w j).2.1, ⟨(j : Int), (((fieldF w j).2.2 - j : Nat) : Int)⟩, true⟩
def pc (w : List UInt8) (j : Nat) : ref07_Cell := ⟨bytesAt w (fieldF w j).2.1, (w.take (fieldF w j).2.2).drop j, true⟩
def short (w : List UInt8) (j : Nat) : Bool := decide ((fieldF w j).2.1.length ≤ 400)
theorem kc_eq (w : List UInt8) (hb : w.length ≤ 16384) (j : Nat) (hj : j ≤ w.length) : cell_Load (sField w j) = some (kc w j) := by
  obtain ⟨f1, f2, f3, f4, f5⟩ := fieldF_spec w (by omega) j hj
  exact Load_eq (fieldF w j).2.1 ⟨(j : Int), (((fieldF w j).2.2 - j : Nat) : Int)⟩ (fieldF w j).1 (inA_good f4 (by omega)) (by omega)
theorem rawA (w : List UInt8) (hb : w.length ≤ 16384) (j : Nat) (hj : j ≤ w.length) : bytesA ⟨(j : Int), (((fieldF w j).2.2 - j : Nat) : Int)⟩ w = (w.take (fieldF w j).2.2).drop j := by
  obtain ⟨f1, f2, f3, f4, f5⟩ := fieldF_spec w (by omega) j hj
  have hr : rightA ⟨(j : Int), (((fieldF w j).2.2 - j : Nat) : Int)⟩ w = true := by unfold rightA; simp only [decide_eq_true_eq]; omega
  unfold bytesA
  rw [if_pos hr]
  dsimp only
  rw [show ((j : Int) + (((fieldF w j).2.2 - j : Nat) : Int)).toNat = (fieldF w j).2.2 by omega, Int.toNat_natCast]
theorem kc_plain (w : List UInt8) (hb : w.length ≤ 16384) (j : Nat) (hj : j ≤ w.length) : law07_Plain (kc w j) w = some (pc w j) := by
  obtain ⟨f1, f2, f3, f4, f5⟩ := fieldF_spec w (by omega) j hj
  have h := PlainK_eq (fieldF w j).2.1 ⟨(j : Int), (((fieldF w j).2.2 - j : Nat) : Int)⟩ w f4 (by omega) (by omega)
  rw [rawA w hb j hj] at h
  exact h
/-- What a loaded row is: 40 cells at most, of 400 bytes at most. -/
def ldR (w : List UInt8) (i : Nat) : row_Row × Int := if (fs w i).1.length > 40 then (⟨[], 0, false⟩, 6) else if (fs w i).1.all (short w) = true then (⟨(fs w i).1.map (kc w), (sRow w i).fEnd, false⟩, 0) else (⟨[], 0, false⟩, 7)
def ldP (w : List UInt8) (i : Nat) : ref08_Row × Int := if (fs w i).1.length > 40 then (⟨[], 0, false⟩, 6) else if (fs w i).1.all (short w) = true then (⟨(fs w i).1.map (pc w), (sRow w i).fEnd, false⟩, 0) else (⟨[], 0, false⟩, 7)
theorem rowLoad_eq (w : List UInt8) (hb : w.length ≤ 16384) (i : Nat) (hi : i ≤ w.length) : row_Load (sRow w i) = some (ldR w i) := by
  obtain ⟨st1, st2⟩ := starts_spec w (by omega) i hi
  unfold row_Load ldR
  rw [show (sRow w i).fFields = (fs w i).1.map (sField w) from rfl, List.length_map]
  by_cases h40 : (fs w i).1.length > 40
  · rw [if_pos (by omega), if_pos h40]
  · rw [if_neg (by omega), if_neg h40, mkz_of (by omega), bnd_some', Int.toNat_natCast]
    obtain ⟨t, t1, t2⟩ := loop_for (f := row_Load.l1 (sRow w i)) (σ := List cell_Cell) (fun k s => (k, s)) (fs w i).1
      (fun pre s => s = pre.map (kc w) ++ List.replicate ((fs w i).1.length - pre.length) zc ∧ pre.all (short w) = true)
      (fun t => (fs w i).1.all (short w) = true ∧ t = Ex.brk ((fs w i).1.map (kc w)) ∨ (fs w i).1.all (short w) = false ∧ t = Ex.ret (⟨[], 0, false⟩, 7))
      (fun pre j suf s hs hI => by
        obtain ⟨hI1, hI2⟩ := hI
        have hlen : (fs w i).1.length = pre.length + (suf.length + 1) := by rw [hs]; simp
        have hj : j ≤ w.length := st1 j (by rw [hs]; simp)
        have hidx : idx (fs w i).1 (pre.length : Int) = some j := by rw [hs]; exact idx_at pre j suf
        rw [show (fs w i).1.length - pre.length = suf.length + 1 by omega, List.replicate_succ] at hI1
        have hx : idx s (pre.length : Int) = some zc := by rw [hI1]; exact idx_of (by rw [List.getElem?_append_right (by simp)]; simp)
        have hset : s.set pre.length (kc w j) = pre.map (kc w) ++ kc w j :: List.replicate suf.length zc := by rw [hI1]; exact set_at _ _ _ _ _ (by simp)
        have hx2 : idx (s.set pre.length (kc w j)) (pre.length : Int) = some (kc w j) := by rw [hset]; exact idx_of (by rw [List.getElem?_append_right (by simp)]; simp)
        unfold row_Load.l1
        simp only
        rw [show (sRow w i).fFields = (fs w i).1.map (sField w) from rfl, if_pos (by simp; omega), idx_map, hidx]
        simp only [Option.map_some, bnd_some']
        rw [kc_eq w hb j hj, bnd_some', hx, bnd_some', Int.toNat_natCast, hx2, bnd_some', show (kc w j).fText = tOf (fieldF w j).2.1 from rfl, PLen_eq, bnd_some']
        by_cases hsh : short w j = true
        · have hsh' := hsh
          unfold short at hsh'
          simp only [decide_eq_true_eq] at hsh'
          rw [if_neg (by omega), w64_id ⟨by omega, by omega⟩]
          refine .inl ⟨_, rfl, ?_, by simp [hI2, hsh]⟩
          rw [hset, show (fs w i).1.length - (pre ++ [j]).length = suf.length by simp; omega]
          simp
        · have hsh' := hsh
          unfold short at hsh'
          simp only [decide_eq_true_eq] at hsh'
          rw [if_pos (by omega)]
          refine .inr ⟨_, rfl, .inr ⟨?_, rfl⟩⟩
          rw [hs]; simp [hsh])
      (fun s hI => by
        obtain ⟨hI1, hI2⟩ := hI
        refine ⟨Ex.brk s, ?_, .inl ⟨hI2, ?_⟩⟩
        · unfold row_Load.l1
          simp only
          rw [show (sRow w i).fFields = (fs w i).1.map (sField w) from rfl, if_neg (by simp)]
        · rw [hI1]; simp) (s0 := List.replicate (fs w i).1.length zc) ⟨by simp, by simp⟩
    rw [show (⟨⟨[], 0⟩, ⟨0, 0⟩, false⟩ : cell_Cell) = zc from rfl, t1, bnd_some']
    rcases t2 with ⟨q, rfl⟩ | ⟨q, rfl⟩
    · dsimp only; rw [if_pos q]
    · dsimp only; rw [if_neg (by rw [q]; decide)]
theorem rowPlain_of (P : cell_Cell → Option ref07_Cell) (a : List UInt8) (hP : ∀ c, law07_Plain c a = P c) (L : List cell_Cell) (M : List ref07_Cell) (e : Int) (h : Bool) (hL : L.length ≤ 1000) (hm : ∀ (k : Nat) (c : cell_Cell), L[k]? = some c → ∃ m, P c = some m ∧ M[k]? = some m) (hl : L.length = M.length) : law08_Plain ⟨L, e, h⟩ a = some ⟨M, e, h⟩ := by
  have hh := loop_fold (f := law08_Plain.l1 ⟨L, e, h⟩ a) (fun k (s : List ref07_Cell) => (k, s)) L (fun pre => M.take pre.length) (t := M)
    (fun pre x suf hs => by
      have hlen : L.length = pre.length + (suf.length + 1) := by rw [hs]; simp
      have hx : L[pre.length]? = some x := by rw [hs]; simp
      obtain ⟨m, m1, m2⟩ := hm _ _ hx
      unfold law08_Plain.l1
      simp only
      rw [if_pos (by omega), idx_of hx, bnd_some', hP, m1, bnd_some', app_of (by simp; omega), bnd_some', w64_id ⟨by omega, by omega⟩]
      have hlt : pre.length < M.length := by omega
      have e2 : M.take (pre.length + 1) = M.take pre.length ++ [m] := by
        rw [List.take_succ_eq_append_getElem hlt]
        rw [List.getElem?_eq_getElem hlt] at m2
        rw [Option.some.inj m2]
      rw [show (pre ++ [x]).length = pre.length + 1 by simp, e2])
    (by
      unfold law08_Plain.l1
      simp only
      rw [if_neg (by omega), hl, List.take_length])
  unfold law08_Plain
  have h' : loop (law08_Plain.l1 ⟨L, e, h⟩ a) (0, []) = some M := by simpa using hh
  rw [h', bnd_some']
theorem ldPlain (w : List UInt8) (hb : w.length ≤ 16384) (i : Nat) (hi : i ≤ w.length) : law08_Plain (ldR w i).1 w = some (ldP w i).1 ∧ (ldR w i).2 = (ldP w i).2 := by
  obtain ⟨st1, st2⟩ := starts_spec w (by omega) i hi
  have hz (e : Int) (h : Bool) : law08_Plain ⟨[], e, h⟩ w = some ⟨[], e, h⟩ := rowPlain_of (fun c => law07_Plain c w) w (fun c => rfl) [] [] e h (by simp) (fun k c hk => by simp at hk) rfl
  unfold ldR ldP
  by_cases h40 : (fs w i).1.length > 40
  · rw [if_pos h40, if_pos h40]; exact ⟨hz 0 false, rfl⟩
  · rw [if_neg h40, if_neg h40]
    by_cases hs : (fs w i).1.all (short w) = true
    · rw [if_pos hs, if_pos hs]
      refine ⟨rowPlain_of (fun c => law07_Plain c w) w (fun c => rfl) _ _ _ _ (by simp; omega) (fun k c hk => ?_) (by simp), rfl⟩
      rw [List.getElem?_map] at hk ⊢
      cases hq : (fs w i).1[k]? with
      | none => rw [hq] at hk; simp at hk
      | some j =>
        rw [hq] at hk
        simp only [Option.map_some, Option.some.injEq] at hk
        subst hk
        exact ⟨pc w j, kc_plain w hb j (st1 j (List.mem_of_getElem? hq)), rfl⟩
    · rw [if_neg hs, if_neg hs]; exact ⟨hz 0 false, rfl⟩
theorem refCells_same (a b : List ref07_Cell) (ha : a.length ≤ 2000000) : ref07_Same a b = some (decide (a = b)) := by
  unfold ref07_Same
  by_cases c : (a.length : Int) = (b.length : Int)
  · rw [if_pos c]
    obtain ⟨t, h1, h2⟩ := loop_same (f := ref07_Same.l1 a b) () a b (by omega) (by omega) (fun i => rfl)
    rw [h1, bnd_some']
    cases t with
    | brk u => simp only at h2 ⊢; rw [decide_eq_true h2]
    | ret v => simp only at h2 ⊢; rw [h2.1, decide_eq_false h2.2]
  · rw [if_neg c, decide_eq_false (fun h => c (by rw [h]))]
theorem refRow_same (a b : ref08_Row) (ha : a.fCells.length ≤ 2000000) : ref08_Same a b = some (decide (a = b)) := by
  unfold ref08_Same
  by_cases c1 : a.fEnd = b.fEnd
  · rw [if_pos c1]
    by_cases c2 : a.fHidden = b.fHidden
    · rw [if_pos (by simpa using c2), refCells_same _ _ ha, bnd_some', bnd_some']
      congr 1
      by_cases c3 : a.fCells = b.fCells
      · rw [decide_eq_true c3, decide_eq_true]
        cases a; cases b; simp_all
      · rw [decide_eq_false c3, decide_eq_false (fun h => c3 (by rw [h]))]
    · rw [if_neg (by simpa using c2), bnd_some', decide_eq_false (fun h => c2 (by rw [h]))]
  · rw [if_neg c1, bnd_some', decide_eq_false (fun h => c1 (by rw [h]))]
/-- A row's print: the cells' prints, with commas between. -/
def joinP : List (List UInt8) → List UInt8
  | [] => []
  | [x] => x
  | x :: y :: l => x ++ 44 :: joinP (y :: l)
theorem joinP_snoc (l : List (List UInt8)) (x : List UInt8) (h : l ≠ []) : joinP (l ++ [x]) = joinP l ++ 44 :: x := by
  induction l with
  | nil => exact absurd rfl h
  | cons a l ih =>
    cases l with
    | nil => rfl
    | cons b l =>
      have := ih (by simp)
      simp only [List.cons_append, joinP] at this ⊢
      rw [this]; simp
theorem joinP_len (l : List (List UInt8)) (n : Nat) (h : ∀ x ∈ l, x.length ≤ n) : (joinP l).length ≤ l.length * (n + 1) := by
  induction l with
  | nil => simp [joinP]
  | cons a l ih =>
    have ha := h a (by simp)
    have hl := ih (fun x hx => h x (by simp [hx]))
    cases l with
    | nil => simp [joinP]; omega
    | cons b l =>
      simp only [joinP, List.length_append, List.length_cons, Nat.add_mul] at hl ⊢
      omega
theorem rowPrint_of (a : List UInt8) (L : List cell_Cell) (M : List (List UInt8)) (e : Int) (h : Bool) (hL : L.length ≤ 1000) (hm : ∀ (k : Nat) (c : cell_Cell), L[k]? = some c → ∃ m, cell_Cell_Print c a = some m ∧ M[k]? = some m) (hl : L.length = M.length) (hM : ∀ m ∈ M, m.length ≤ 2000000) : row_Row_Print ⟨L, e, h⟩ a = some (joinP M) := by
  have hh := loop_fold (f := row_Row_Print.l1 ⟨L, e, h⟩ a) (fun k (s : List UInt8) => (k, s)) L (fun pre => joinP (M.take pre.length)) (t := joinP M)
    (fun pre x suf hs => by
      have hlen : L.length = pre.length + (suf.length + 1) := by rw [hs]; simp
      have hx : L[pre.length]? = some x := by rw [hs]; simp
      obtain ⟨m, m1, m2⟩ := hm _ _ hx
      have hmb := hM m (List.mem_of_getElem? m2)
      have hjb := joinP_len (M.take pre.length) 2000000 (fun y hy => hM y (List.mem_of_mem_take hy))
      have hjb2 : (joinP (M.take pre.length)).length ≤ 3000000000 := by
        have : (M.take pre.length).length ≤ 1000 := by simp; omega
        have := Nat.mul_le_mul_right (2000000 + 1) this
        omega
      have hlt : pre.length < M.length := by omega
      have e2 : M.take (pre.length + 1) = M.take pre.length ++ [m] := by
        rw [List.take_succ_eq_append_getElem hlt]
        rw [List.getElem?_eq_getElem hlt] at m2
        rw [Option.some.inj m2]
      unfold row_Row_Print.l1
      simp only
      rw [if_pos (by omega), idx_of hx, bnd_some']
      have e3 : (if (pre.length : Int) > 0 then bnd (app 1 (joinP (M.take pre.length)) [44]) fun x18 => some x18 else some (joinP (M.take pre.length)) : Option (List UInt8)) = some (if pre = [] then [] else joinP (M.take pre.length) ++ [44]) := by
        cases pre with
        | nil => rw [if_neg (by simp), if_pos rfl]; simp [joinP]
        | cons p pre => rw [if_pos (by simp), app_of (by simp only [List.length_cons, List.length_nil] at hjb2 ⊢; omega), bnd_some', if_neg (by simp)]
      have hb3 : ((if pre = [] then [] else joinP (M.take pre.length) ++ [44]) : List UInt8).length ≤ 3000000001 := by
        split
        · simp
        · simp only [List.length_append, List.length_cons, List.length_nil]; omega
      rw [e3, bnd_some', m1, bnd_some', app_of (by omega), bnd_some', w64_id ⟨by omega, by omega⟩, show (pre ++ [x]).length = pre.length + 1 by simp, e2]
      cases pre with
      | nil => simp [joinP]
      | cons p pre =>
        rw [if_neg (by simp), joinP_snoc _ _ (by
          intro hc
          have h5 : (M.take (p :: pre).length).length = 0 := by rw [hc]; rfl
          rw [List.length_take, List.length_cons] at h5
          rw [List.length_cons] at hlt
          omega)]
        simp)
    (by
      unfold row_Row_Print.l1
      simp only
      rw [if_neg (by omega), hl, List.take_length])
  unfold row_Row_Print
  have h' : loop (row_Row_Print.l1 ⟨L, e, h⟩ a) (0, []) = some (joinP M) := by simpa [joinP] using hh
  rw [h', bnd_some']
theorem awake8_eq : law08_awake = some true := by
  obtain ⟨s, a', p1, p2, p3, p4, p5⟩ : ∃ s a', cell_Put [120] [] = some (⟨tOf (exp1 s), ⟨0, 0⟩, false⟩, 0, a') ∧ InA (exp1 s) a' ∧ bytesAt a' (exp1 s) = [120] ∧ a'.length ≤ 16384 ∧ (exp1 s).length = ([120] : List UInt8).length := by
    rcases CPut_eq [120] [] (by decide) (by decide) with h | ⟨_, h⟩
    · exact h
    · exact absurd h (by decide)
  have hput : put [120] = [120] := by decide
  have hr2 : row_Fresh 1 0 = some ⟨[zc], 0, false⟩ := by decide
  have hcl : slices_Clone_cell_Cell_cell_Cell [zc] = some [zc] := by decide
  have hp : ∀ e h, row_Row_Pad ⟨[zc], e, h⟩ 3 = some (e, h, [zc, zc, zc]) := fun e h => by
    unfold row_Row_Pad
    rw [hcl, bnd_some']
    have hl : loop (row_Row_Pad.l1 3) [zc] = some [zc, zc, zc] := by
      refine loop_next (s' := [zc, zc]) (by unfold row_Row_Pad.l1; rw [if_pos (by decide), app_of (by decide)]; rfl) (loop_next (s' := [zc, zc, zc]) (by unfold row_Row_Pad.l1; rw [if_pos (by decide), app_of (by decide)]; rfl) (loop_done (by unfold row_Row_Pad.l1; rw [if_neg (by decide)])))
    rw [hl]
    rfl
  unfold law08_awake
  rw [show arena_New_2 = some (0, []) from rfl, bnd_some', p1, bnd_some', hr2, bnd_some']
  have hset : row_Row_Set ⟨[zc], 0, false⟩ 2 ⟨tOf (exp1 s), ⟨0, 0⟩, false⟩ = some (⟨[zc, zc, ⟨tOf (exp1 s), ⟨0, 0⟩, false⟩], 0, false⟩, 0) := by
    unfold row_Row_Set
    rw [if_neg (by decide), show decide ((2 : Int) ≥ 40) = false from by decide, bnd_some', if_neg (by decide), show w64 (2 + 1) = 3 from by decide, hp, bnd_some']
    rfl
  rw [hset, bnd_some']
  have hat : row_Row_At ⟨[zc, zc, ⟨tOf (exp1 s), ⟨0, 0⟩, false⟩], 0, false⟩ 1 = some (zc, true) := rfl
  dsimp only
  rw [hat, bnd_some', if_pos rfl, show row_Row_Len ⟨[zc, zc, ⟨tOf (exp1 s), ⟨0, 0⟩, false⟩], 0, false⟩ = some 3 from rfl, bnd_some', if_pos rfl]
  dsimp only
  rw [if_pos rfl, show cell_Cell_Empty zc = some true from rfl, bnd_some', if_pos rfl]
  have hz : cell_Cell_Print zc a' = some [] := by
    have h := PrintW_eq [] ⟨0, 0⟩ a' (fun x hx => by simp at hx) p4 (by decide)
    rw [show (put (bytesAt a' []) : List UInt8) = [] from rfl] at h
    exact h
  have hx : cell_Cell_Print ⟨tOf (exp1 s), ⟨0, 0⟩, false⟩ a' = some [120] := by
    rw [PrintW_eq _ _ _ p2 p4 (by rw [p5]; decide), p3, hput]
  rw [rowPrint_of a' _ [[], [], [120]] 0 false (by simp) (fun k c hk => by
    match k with
    | 0 => simp only [List.getElem?_cons_zero, Option.some.injEq] at hk; subst hk; exact ⟨_, hz, rfl⟩
    | 1 => simp only [List.getElem?_cons_succ, List.getElem?_cons_zero, Option.some.injEq] at hk; subst hk; exact ⟨_, hz, rfl⟩
    | 2 => simp only [List.getElem?_cons_succ, List.getElem?_cons_zero, Option.some.injEq] at hk; subst hk; exact ⟨_, hx, rfl⟩
    | k + 3 => simp at hk) rfl (fun m hm => by simp at hm; rcases hm with rfl | rfl <;> decide)]
  rfl
def padL {α : Type} (l : List α) (n : Int) (z : α) : List α := l ++ List.replicate ((if 40 < n then 40 else n).toNat - l.length) z
theorem padL_map {α β : Type} (f : α → β) (l : List α) (n : Int) (z : α) : (padL l n z).map f = padL (l.map f) n (f z) := by simp [padL]
theorem padL_mem {α : Type} {l : List α} {n : Int} {z y : α} (h : y ∈ padL l n z) : y = z ∨ y ∈ l := by
  unfold padL at h
  rcases List.mem_append.1 h with h | h
  · exact .inr h
  · exact .inl (List.mem_replicate.1 h).2
theorem padL_len {α : Type} (l : List α) (n : Int) (z : α) (h : l.length ≤ 40) : (padL l n z).length ≤ 40 ∧ l.length ≤ (padL l n z).length ∧ (n ≤ 40 → n ≤ (padL l n z).length) := by
  unfold padL
  rw [List.length_append, List.length_replicate]
  split <;> omega
theorem clone_eq (l : List cell_Cell) (h : l.length ≤ 2000000) : slices_Clone_cell_Cell_cell_Cell l = some l := by
  unfold slices_Clone_cell_Cell_cell_Cell
  rw [app_of (by simp; omega), bnd_some', List.nil_append]
theorem hide_eq (L : List cell_Cell) (e : Int) (h b : Bool) (hL : L.length ≤ 2000000) : row_Row_Hide ⟨L, e, h⟩ b = some ⟨L, e, b⟩ := by
  unfold row_Row_Hide
  rw [clone_eq _ hL, bnd_some']
theorem fresh_eq (n e : Int) : row_Fresh n e = some ⟨padL [] (if n < 1 then 1 else n) zc, e, false⟩ := by
  unfold row_Fresh
  rw [bnd_some', mkz_of ⟨by split <;> split <;> omega, by split <;> split <;> omega⟩, bnd_some']
  have _ : (if 40 < (if 1 > n then 1 else n) then 40 else (if 1 > n then 1 else n)) = (if 40 < (if n < 1 then 1 else n) then 40 else (if n < 1 then 1 else n)) := rfl
  unfold padL
  rw [List.nil_append, List.length_nil, Nat.sub_zero]
  rfl
def Gd (a : List UInt8) (c : cell_Cell) : Prop := ∃ r raw k, c = ⟨tOf r, raw, k⟩ ∧ InA r a ∧ r.length ≤ 16384 ∧ rightA raw a = true
noncomputable def plC (a : List UInt8) (c : cell_Cell) : ref07_Cell := (law07_Plain c a).getD ⟨[], [], false⟩
theorem plC_is {a : List UInt8} (ha : a.length ≤ 16384) {r : List Int} {raw : arena_Span} {k : Bool} (h : InA r a) (hl : r.length ≤ 16384) : law07_Plain ⟨tOf r, raw, k⟩ a = some (plC a ⟨tOf r, raw, k⟩) ∧ plC a ⟨tOf r, raw, k⟩ = ⟨bytesAt a r, if k = true then bytesA raw a else [], k⟩ := by
  have := Plain_eq r raw k a h ha (by omega)
  unfold plC
  rw [this]; exact ⟨rfl, rfl⟩
theorem plC_eq {a : List UInt8} (ha : a.length ≤ 16384) {c : cell_Cell} (h : Gd a c) : law07_Plain c a = some (plC a c) := by
  obtain ⟨r, raw, k, rfl, h1, h2, h3⟩ := h
  exact (plC_is ha h1 h2).1
theorem rightA_app {s : arena_Span} {a : List UInt8} (h : rightA s a = true) (m : List UInt8) : rightA s (a ++ m) = true ∧ bytesA s (a ++ m) = bytesA s a := by
  have h' := h
  unfold rightA at h'
  simp only [decide_eq_true_eq] at h'
  obtain ⟨e1, e2⟩ := bytesA_range (s := s) (a := a) (by omega) (by omega) (by omega)
  have hl : ((a ++ m).length : Int) = a.length + m.length := by simp
  obtain ⟨f1, f2⟩ := bytesA_range (s := s) (a := a ++ m) (by omega) (by omega) (by omega)
  refine ⟨f2, ?_⟩
  rw [e1, f1]
  refine bytesAt_app (fun x hx => ?_) m
  simp only [exp1, rangeI, List.mem_map, List.mem_range] at hx
  obtain ⟨q, q1, q2⟩ := hx
  omega
theorem Gd.app {a : List UInt8} {c : cell_Cell} (h : Gd a c) (m : List UInt8) (ha : (a ++ m).length ≤ 16384) : Gd (a ++ m) c ∧ plC (a ++ m) c = plC a c := by
  obtain ⟨r, raw, k, rfl, h1, h2, h3⟩ := h
  obtain ⟨g1, g2⟩ := rightA_app h3 m
  refine ⟨⟨r, raw, k, rfl, inA_app h1 m, h2, g1⟩, ?_⟩
  have ha' : a.length ≤ 16384 := by rw [List.length_append] at ha; omega
  rw [(plC_is ha (inA_app h1 m) h2).2, (plC_is ha' h1 h2).2, bytesAt_app h1 m, g2]
def pz : ref07_Cell := ⟨[], [], false⟩
theorem zc_good (a : List UInt8) (ha : a.length ≤ 16384) : Gd a zc ∧ plC a zc = pz := by
  have h : zc = ⟨tOf [], ⟨0, 0⟩, false⟩ := rfl
  have hi : InA [] a := fun x hx => by simp at hx
  refine ⟨⟨[], ⟨0, 0⟩, false, h, hi, by simp, by unfold rightA; simp only [decide_eq_true_eq]; omega⟩, ?_⟩
  rw [h, (plC_is ha hi (by simp)).2]
  rfl
theorem equal_eq (a b : List UInt8) : bytes_Equal a b = some (a == b) := rfl
theorem cellSame_eq {w : List UInt8} (hw : w.length ≤ 16384) {c d : cell_Cell} (hc : Gd w c) (hd : Gd w d) : cell_Same c d w = some (decide (plC w c = plC w d)) := by
  obtain ⟨r, raw, k, rfl, h1, h2, h3⟩ := hc
  obtain ⟨r', raw', k', rfl, h1', h2', h3'⟩ := hd
  rw [(plC_is hw h1 h2).2, (plC_is hw h1' h2').2]
  unfold cell_Same
  by_cases hk : k = k'
  · subst hk
    rw [if_pos (by simp), CBytes_eq r raw k w h1 hw (by omega), bnd_some', CBytes_eq r' raw' k w h1' hw (by omega), bnd_some', equal_eq, bnd_some', bnd_some']
    by_cases hb : bytesAt w r = bytesAt w r'
    · rw [if_neg (by simp [hb])]
      cases k with
      | true =>
        dsimp only
        rw [if_pos rfl, Bytes_eq _ _ (by omega), bnd_some', Bytes_eq _ _ (by omega), bnd_some', equal_eq, bnd_some', bnd_some']
        simp only [if_true, hb]
        by_cases hr : bytesA raw w = bytesA raw' w
        · rw [hr]; simp
        · rw [decide_eq_false (fun h => hr (by injection h))]
          simpa using hr
      | false =>
        dsimp only
        rw [if_neg (by simp), bnd_some', hb]
        simp
    · rw [if_pos (by simp [hb])]
      rw [decide_eq_false (fun h => hb (by injection h))]
  · rw [if_neg (by simpa using hk), bnd_some', if_pos rfl]
    rw [decide_eq_false (fun h => hk (by injection h))]
def GR (a : List UInt8) (R : row_Row) : Prop := ∀ c ∈ R.fCells, Gd a c
noncomputable def plR (a : List UInt8) (R : row_Row) : ref08_Row := ⟨R.fCells.map (plC a), R.fEnd, R.fHidden⟩
theorem plR_eq {a : List UInt8} (ha : a.length ≤ 16384) {R : row_Row} (h : GR a R) (hl : R.fCells.length ≤ 1000) : law08_Plain R a = some (plR a R) := by
  obtain ⟨L, e, hd⟩ := R
  refine rowPlain_of (fun c => law07_Plain c a) a (fun c => rfl) L _ e hd hl (fun k c hk => ⟨plC a c, plC_eq ha (h c (List.mem_of_getElem? hk)), ?_⟩) (by simp)
  show (L.map (plC a))[k]? = _
  rw [List.getElem?_map, hk]; rfl
theorem GR.app {a : List UInt8} {R : row_Row} (h : GR a R) (m : List UInt8) (ha : (a ++ m).length ≤ 16384) : GR (a ++ m) R ∧ plR (a ++ m) R = plR a R := by
  refine ⟨fun c hc => ((h c hc).app m ha).1, ?_⟩
  unfold plR
  rw [List.map_congr_left (fun c hc => ((h c hc).app m ha).2)]
theorem rowSame_eq {a : List UInt8} (ha : a.length ≤ 16384) {R Q : row_Row} (hR : GR a R) (hQ : GR a Q) (hl : R.fCells.length ≤ 1000) : row_Same R Q a = some (decide (plR a R = plR a Q)) := by
  unfold row_Same
  by_cases c1 : R.fEnd = Q.fEnd
  · rw [if_pos c1, bnd_some']
    by_cases c2 : R.fHidden = Q.fHidden
    · rw [if_neg (by simp [c2])]
      have key : slices_EqualFunc_cell_Cell_cell_Cell_cell_Cell_cell_Cell R.fCells Q.fCells a = some (decide (R.fCells.map (plC a) = Q.fCells.map (plC a))) := by
        unfold slices_EqualFunc_cell_Cell_cell_Cell_cell_Cell_cell_Cell
        by_cases c3 : (R.fCells.length : Int) = (Q.fCells.length : Int)
        · rw [if_pos c3]
          obtain ⟨t, t1, t2⟩ := loop_for (f := slices_EqualFunc_cell_Cell_cell_Cell_cell_Cell_cell_Cell.l1 R.fCells Q.fCells a) (σ := Unit) (fun k _ => k) R.fCells (fun pre _ => pre.map (plC a) = (Q.fCells.take pre.length).map (plC a))
            (fun t => match t with | .brk _ => R.fCells.map (plC a) = Q.fCells.map (plC a) | .ret v => v = false ∧ R.fCells.map (plC a) ≠ Q.fCells.map (plC a))
            (fun pre x suf s hs hI => by
              have hlen : R.fCells.length = pre.length + (suf.length + 1) := by rw [hs]; simp
              have hx : R.fCells[pre.length]? = some x := by rw [hs]; simp
              have hlt : pre.length < Q.fCells.length := by omega
              have hy : Q.fCells[pre.length]? = some Q.fCells[pre.length] := List.getElem?_eq_getElem hlt
              have hsame := cellSame_eq ha (hR x (List.mem_of_getElem? hx)) (hQ _ (List.mem_of_getElem? hy))
              unfold slices_EqualFunc_cell_Cell_cell_Cell_cell_Cell_cell_Cell.l1
              rw [if_pos (by omega), idx_of hx, bnd_some', idx_of hy, bnd_some']
              unfold row_Same_1
              rw [hsame, bnd_some', bnd_some']
              by_cases hq : plC a x = plC a Q.fCells[pre.length]
              · rw [decide_eq_true hq, if_pos rfl, w64_id ⟨by omega, by omega⟩]
                refine .inl ⟨(), rfl, ?_⟩
                rw [List.map_append, hI, show (pre ++ [x]).length = pre.length + 1 by simp, List.take_succ_eq_append_getElem hlt, List.map_append]
                simp [hq]
              · rw [decide_eq_false hq, if_neg (by simp)]
                refine .inr ⟨_, rfl, rfl, fun h => hq ?_⟩
                have h1 : (R.fCells.map (plC a))[pre.length]? = (Q.fCells.map (plC a))[pre.length]? := by rw [h]
                rw [List.getElem?_map, List.getElem?_map, hx, hy] at h1
                exact Option.some.inj h1)
            (fun s hI => by
              refine ⟨Ex.brk (), ?_, ?_⟩
              · unfold slices_EqualFunc_cell_Cell_cell_Cell_cell_Cell_cell_Cell.l1
                rw [if_neg (by omega)]
              · dsimp only
                rw [hI, show R.fCells.length = Q.fCells.length by omega, List.take_length]) (s0 := ()) rfl
          rw [t1, bnd_some']
          cases t with
          | brk u => dsimp only at t2 ⊢; rw [decide_eq_true t2]
          | ret v => dsimp only at t2 ⊢; rw [t2.1, decide_eq_false t2.2]
        · rw [if_neg c3, decide_eq_false (fun h => c3 (by have := congrArg List.length h; simp at this; omega))]
      rw [key, bnd_some']
      congr 1
      unfold plR
      by_cases c3 : R.fCells.map (plC a) = Q.fCells.map (plC a)
      · rw [decide_eq_true c3, decide_eq_true (by rw [c1, c2, c3])]
      · rw [decide_eq_false c3, decide_eq_false (fun h => c3 (by injection h))]
    · rw [if_pos (by simpa using c2), decide_eq_false (fun h => c2 (by unfold plR at h; injection h))]
  · rw [if_neg c1, bnd_some', if_pos rfl, decide_eq_false (fun h => c1 (by unfold plR at h; injection h))]
theorem rPad_eq (M : List ref07_Cell) (e : Int) (h : Bool) (n : Int) (hM : M.length ≤ 40) : ref08_Pad ⟨M, e, h⟩ n = some (e, h, padL M n pz) := by
  unfold ref08_Pad
  have hn : (padL M n pz).length = M.length + ((if 40 < n then 40 else n).toNat - M.length) := by simp [padL]
  have hh := loop_nat (f := ref08_Pad.l1 ⟨M, e, h⟩ n) (fun k (s : List ref07_Cell) => (k, s)) (padL M n pz).length (fun i => (padL M n pz).take i) (t := padL M n pz)
    (fun i hi => by
      have hp := padL_len M n pz hM
      have e1 : (if (i : Int) < (M.length : Int) then some true else if (i : Int) < n then some (decide ((i : Int) < 40)) else some false : Option Bool) = some true := by
        by_cases c : i < M.length
        · rw [if_pos (by omega)]
        · rw [if_neg (by omega), if_pos (by rw [hn] at hi; split at hi <;> omega), decide_eq_true (by omega)]
      have hg : (padL M n pz)[i]? = some (if h : i < M.length then M[i] else pz) := by
        unfold padL
        by_cases c : i < M.length
        · rw [List.getElem?_append_left c, dif_pos c, List.getElem?_eq_getElem c]
        · rw [List.getElem?_append_right (by omega), dif_neg c, List.getElem?_replicate, if_pos (by omega)]
      have e2 : (if (i : Int) < (M.length : Int) then bnd (idx M (i : Int)) fun x21 => some (x21.fS, x21.fRaw, x21.fKept) else some ([], [], false) : Option ((List UInt8) × (List UInt8) × Bool)) = some ((if h : i < M.length then M[i] else pz).fS, (if h : i < M.length then M[i] else pz).fRaw, (if h : i < M.length then M[i] else pz).fKept) := by
        by_cases c : i < M.length
        · rw [if_pos (by omega), idx_of (List.getElem?_eq_getElem c), bnd_some', dif_pos c]
        · rw [if_neg (by omega), dif_neg c]; rfl
      unfold ref08_Pad.l1
      dsimp only
      rw [e1, bnd_some', if_pos rfl, e2, bnd_some', app_of (by rw [List.length_take]; simp; omega), bnd_some', w64_id ⟨by omega, by omega⟩]
      congr 3
      have hlt : i < (padL M n pz).length := hi
      rw [List.getElem?_eq_getElem hlt] at hg
      rw [List.take_succ_eq_append_getElem hlt, Option.some.inj hg])
    (by
      have hp := padL_len M n pz hM
      have e1 : (if ((padL M n pz).length : Int) < (M.length : Int) then some true else if ((padL M n pz).length : Int) < n then some (decide (((padL M n pz).length : Int) < 40)) else some false : Option Bool) = some false := by
        rw [if_neg (by omega)]
        by_cases c : ((padL M n pz).length : Int) < n
        · rw [if_pos c, decide_eq_false (by omega)]
        · rw [if_neg c]
      unfold ref08_Pad.l1
      dsimp only
      rw [e1, bnd_some', if_neg (by simp), List.take_length])
  have h' : loop (ref08_Pad.l1 ⟨M, e, h⟩ n) (0, []) = some (padL M n pz) := by simpa using hh
  rw [h', bnd_some']
theorem rFresh_eq (n e : Int) : ref08_Fresh n e = some ⟨padL [] (if n < 1 then 1 else n) pz, e, false⟩ := by
  unfold ref08_Fresh
  by_cases c : n < 1
  · rw [if_pos c, bnd_some', rPad_eq [] e false _ (by simp), bnd_some', if_pos c]
  · rw [if_neg c, bnd_some', rPad_eq [] e false _ (by simp), bnd_some', if_neg c]
/-- A row of the program and the document's. -/
structure Both (a : List UInt8) (R : row_Row) (w : ref08_Row) : Prop where
  good : GR a R
  same : plR a R = w
  few : R.fCells.length ≤ 40
theorem Both.app {a : List UInt8} {R : row_Row} {w : ref08_Row} (h : Both a R w) (m : List UInt8) (ha : (a ++ m).length ≤ 16384) : Both (a ++ m) R w := ⟨(h.good.app m ha).1, (h.good.app m ha).2.trans h.same, h.few⟩
theorem cellsOf {a : List UInt8} {R : row_Row} {w : ref08_Row} (h : plR a R = w) : R.fCells.map (plC a) = w.fCells ∧ w.fEnd = R.fEnd ∧ w.fHidden = R.fHidden := by subst h; exact ⟨rfl, rfl, rfl⟩
theorem kc_good (w : List UInt8) (hb : w.length ≤ 16384) (j : Nat) (hj : j ≤ w.length) : Gd w (kc w j) := by
  obtain ⟨f1, f2, f3, f4, f5⟩ := fieldF_spec w (by omega) j hj
  exact ⟨_, _, _, rfl, f4, by omega, by unfold rightA; simp only [decide_eq_true_eq]; omega⟩
theorem ld_both (w : List UInt8) (hb : w.length ≤ 16384) (i : Nat) (hi : i ≤ w.length) (h : (ldP w i).2 = 0) : Both w (ldR w i).1 (ldP w i).1 ∧ ((ldR w i).1.fCells.length = (fs w i).1.length) := by
  obtain ⟨st1, st2⟩ := starts_spec w (by omega) i hi
  obtain ⟨l1, l2⟩ := ldPlain w hb i hi
  have key : GR w (ldR w i).1 ∧ (ldR w i).1.fCells.length ≤ 40 ∧ ((ldR w i).1.fCells.length = (fs w i).1.length) := by
    unfold ldP at h
    unfold ldR
    by_cases h40 : (fs w i).1.length > 40
    · rw [if_pos h40] at h; exact absurd h (by decide)
    · rw [if_neg h40] at h ⊢
      by_cases hs : (fs w i).1.all (short w) = true
      · rw [if_pos hs]
        refine ⟨fun c hc => ?_, by simp; omega, by simp⟩
        obtain ⟨j, hj, rfl⟩ := List.mem_map.1 hc
        exact kc_good w hb j (st1 j hj)
      · rw [if_neg hs] at h; exact absurd h (by decide)
  refine ⟨⟨key.1, ?_, key.2.1⟩, key.2.2⟩
  rw [plR_eq hb key.1 (by omega)] at l1
  exact Option.some.inj l1
theorem idx0 {α : Type} (x : α) (l : List α) : idx (x :: l) 0 = some x := rfl
theorem idx1 {α : Type} (x y : α) (l : List α) : idx (x :: y :: l) 1 = some y := rfl
theorem fresh_both (A : List UInt8) (hA : A.length ≤ 16384) (n e : Int) (hd : Bool) : ∃ F Q G, row_Fresh n e = some F ∧ row_Row_Hide F hd = some Q ∧ ref08_Fresh n e = some G ∧ Both A Q ⟨G.fCells, G.fEnd, hd⟩ := by
  obtain ⟨z1, z2⟩ := zc_good A hA
  have hp := padL_len ([] : List cell_Cell) (if n < 1 then 1 else n) zc (by simp)
  refine ⟨_, _, _, fresh_eq n e, hide_eq _ _ _ hd (by omega), rFresh_eq n e, fun c hc => ?_, ?_, hp.1⟩
  · rcases padL_mem hc with rfl | hc
    · exact z1
    · cases hc
  · unfold plR
    dsimp only
    rw [padL_map, z2]; rfl
theorem load_both (s : List UInt8) (h : s.length ≤ 600) (b : List UInt8) (ha : (s ++ b).length ≤ 16384) (k : Nat) (i : scan_Row) (hi : ((rs s).map (sRow s))[k]? = some i) (hd : Bool) :
    ∃ X, row_Load i = some X ∧ (X.2 = 0 → ∃ Y, row_Row_Hide X.1 hd = some Y ∧ Both (s ++ b) Y (plR (s ++ b) Y)) := by
  rw [List.getElem?_map] at hi
  cases hq : (rs s)[k]? with
  | none => rw [hq] at hi; cases hi
  | some j =>
    rw [hq] at hi
    obtain rfl := Option.some.inj hi
    obtain ⟨r1, r2⟩ := rsF_spec s (by omega) s.length 0 (by omega)
    have hj : j < s.length := r1 j (List.mem_of_getElem? hq)
    refine ⟨_, rowLoad_eq s (by omega) j (by omega), fun h0 => ?_⟩
    obtain ⟨l1, l2⟩ := ldPlain s (by omega) j (by omega)
    obtain ⟨g1, g2⟩ := ld_both s (by omega) j (by omega) (by rw [← l2]; exact h0)
    have g3 := g1.app b ha
    have hf := g3.few
    have hg := g3.good
    generalize (ldR s j).1 = R at hf hg
    obtain ⟨L, e', h'⟩ := R
    exact ⟨_, hide_eq L e' h' hd (Nat.le_trans hf (by decide)), hg, rfl, hf⟩
theorem both_plain {A : List UInt8} (hA : A.length ≤ 16384) {R : row_Row} {w : ref08_Row} (h : Both A R w) : law08_Plain R A = some w ∧ ref08_Same w w = some true := by
  have hf := h.few
  have := congrArg List.length (cellsOf h.same).1
  rw [List.length_map] at this
  exact ⟨by rw [plR_eq hA h.good (by omega), h.same], by rw [refRow_same _ _ (by omega), decide_eq_true rfl]⟩
/-- What a round takes: the row that it makes, or the one of the file. -/
theorem round_row (s b : List UInt8) (hs : s.length ≤ 1048576) (hb : b.length ≤ 600) (k : Nat) (n e : Int) (hd : Bool) :
    ∃ F Q G L, row_Fresh n e = some F ∧ row_Row_Hide F hd = some Q ∧ ref08_Fresh n e = some G ∧ Both (s.take 600 ++ b) Q ⟨G.fCells, G.fEnd, hd⟩ ∧ scan_All s = some L ∧
      ((if (k : Int) < (L.length : Int) then some (decide ((s.length : Int) ≤ 600)) else some false : Option Bool) = some false ∨
       (if (k : Int) < (L.length : Int) then some (decide ((s.length : Int) ≤ 600)) else some false : Option Bool) = some true ∧
         ∃ i X, idx L (k : Int) = some i ∧ row_Load i = some X ∧ (X.2 ≠ 0 ∨ X.2 = 0 ∧ ∃ Y, row_Row_Hide X.1 hd = some Y ∧ Both (s.take 600 ++ b) Y (plR (s.take 600 ++ b) Y))) := by
  have hA : (s.take 600 ++ b).length ≤ 16384 := by rw [List.length_append, List.length_take]; omega
  obtain ⟨F, Q, G, f1, f2, f3, f4⟩ := fresh_both (s.take 600 ++ b) hA n e hd
  refine ⟨F, Q, G, _, f1, f2, f3, f4, sAll_eq s (by omega), ?_⟩
  by_cases c : (k : Int) < (((rs s).map (sRow s)).length : Int)
  · rw [if_pos c]
    by_cases c2 : (s.length : Int) ≤ 600
    · rw [decide_eq_true c2]
      have hlt : k < ((rs s).map (sRow s)).length := by omega
      have hi := List.getElem?_eq_getElem hlt
      have e1 : s.take 600 = s := List.take_of_length_le (by omega)
      rw [e1] at hA ⊢
      obtain ⟨X, x1, x2⟩ := load_both s (by omega) b hA k _ hi hd
      refine .inr ⟨rfl, _, X, idx_of hi, x1, ?_⟩
      by_cases c3 : X.2 = 0
      · exact .inr ⟨c3, x2 c3⟩
      · exact .inl c3
    · rw [decide_eq_false c2]; exact .inl rfl
  · rw [if_neg c]; exact .inl rfl
theorem round0 (a0 : (List UInt8) × (List UInt8)) (a1 : Int × Int) (a2 : Bool × Bool) (hs : a0.1.length ≤ 1048576) (b : List UInt8) (hb : b.length ≤ 600) :
    ∃ P w, Both (a0.1.take 600 ++ b) P w ∧ law08_RowSame.l1 a0 a1 a2 (0, a0.1.take 600 ++ b) (0, [], 0, false, [], 0, false, [], 0, false, [], 0, false) =
      some (.next (1, P.fCells, P.fEnd, P.fHidden, [], 0, false, w.fCells, w.fEnd, w.fHidden, [], 0, false)) := by
  have hA : (a0.1.take 600 ++ b).length ≤ 16384 := by rw [List.length_append, List.length_take]; omega
  obtain ⟨F, Q, G, L, f1, f2, f3, f4, f5, f6⟩ := round_row a0.1 b hs hb 0 a1.1 a1.2 a2.1
  rw [show (((0 : Nat)) : Int) = 0 from rfl] at f6
  have z : ((0 : Int) - 1 = 0) = False := by decide
  have z2 : w64 (1 - 0) = 1 := by decide
  obtain ⟨p1, p2⟩ := both_plain hA f4
  unfold law08_RowSame.l1
  rcases f6 with h | ⟨h, i, X, g1, g2, g3⟩
  · refine ⟨Q, _, f4, ?_⟩
    simp only [idx0, idx1, bnd_some', z, z2, f1, f2, f3, f5, h, if_true, if_false, Bool.false_eq_true]
    rw [if_pos (by decide), p1, bnd_some', p2, bnd_some', if_pos rfl]
    rfl
  · rcases g3 with g3 | ⟨g3, Y, g4, g5⟩
    · refine ⟨Q, _, f4, ?_⟩
      simp only [idx0, idx1, bnd_some', z, z2, f1, f2, f3, f5, h, if_true, if_false, g1, g2, g3]
      rw [if_pos (by decide), p1, bnd_some', p2, bnd_some', if_pos rfl]
      rfl
    · obtain ⟨q1, q2⟩ := both_plain hA g5
      refine ⟨Y, _, g5, ?_⟩
      simp only [idx0, idx1, bnd_some', z, z2, f1, f2, f3, f5, h, if_true, if_false, g1, g2, g3, g4, q1]
      rw [if_pos (by decide), q2, bnd_some', if_pos rfl]
      rfl
theorem round1 (a0 : (List UInt8) × (List UInt8)) (a1 : Int × Int) (a2 : Bool × Bool) (hs : a0.1.length ≤ 1048576) (b : List UInt8) (hb : b.length ≤ 600) (P : row_Row) (w : ref08_Row) :
    ∃ P' w', Both (a0.1.take 600 ++ b) P' w' ∧ law08_RowSame.l1 a0 a1 a2 (0, a0.1.take 600 ++ b) (1, P.fCells, P.fEnd, P.fHidden, [], 0, false, w.fCells, w.fEnd, w.fHidden, [], 0, false) =
      some (.next (2, P.fCells, P.fEnd, P.fHidden, P'.fCells, P'.fEnd, P'.fHidden, w.fCells, w.fEnd, w.fHidden, w'.fCells, w'.fEnd, w'.fHidden)) := by
  have hA : (a0.1.take 600 ++ b).length ≤ 16384 := by rw [List.length_append, List.length_take]; omega
  obtain ⟨F, Q, G, L, f1, f2, f3, f4, f5, f6⟩ := round_row a0.1 b hs hb 1 a1.2 a1.1 a2.2
  rw [show (((1 : Nat)) : Int) = 1 from rfl] at f6
  have z : ((1 : Int) - 1 = 0) = True := by decide
  have z0 : ((1 : Int) = 0) = False := by decide
  have z2 : w64 (1 - 1) = 0 := by decide
  obtain ⟨p1, p2⟩ := both_plain hA f4
  unfold law08_RowSame.l1
  rcases f6 with h | ⟨h, i, X, g1, g2, g3⟩
  · refine ⟨Q, _, f4, ?_⟩
    simp only [idx0, idx1, bnd_some', z, z0, z2, f1, f2, f3, f5, h, if_true, if_false, Bool.false_eq_true]
    rw [if_pos (by decide), p1, bnd_some', p2, bnd_some', if_pos rfl]
    rfl
  · rcases g3 with g3 | ⟨g3, Y, g4, g5⟩
    · refine ⟨Q, _, f4, ?_⟩
      simp only [idx0, idx1, bnd_some', z, z0, z2, f1, f2, f3, f5, h, if_true, if_false, g1, g2, g3]
      rw [if_pos (by decide), p1, bnd_some', p2, bnd_some', if_pos rfl]
      rfl
    · obtain ⟨q1, q2⟩ := both_plain hA g5
      refine ⟨Y, _, g5, ?_⟩
      simp only [idx0, idx1, bnd_some', z, z0, z2, f1, f2, f3, f5, h, if_true, if_false, g1, g2, g3, g4, q1]
      rw [if_pos (by decide), q2, bnd_some', if_pos rfl]
      rfl
theorem RowSame_holds (a0 : (List UInt8) × (List UInt8)) (a1 : Int × Int) (a2 : Bool × Bool) (hs : a0.1.length ≤ 1048576) : law08_RowSame a0 a1 a2 = some true := by
  unfold law08_RowSame
  rw [show ((600 : Int)) = ((600 : Nat) : Int) from rfl, cut8_eq, bnd_some', cut8_eq, bnd_some']
  have hb : (a0.2.take 600).length ≤ 600 := by simp; omega
  have h1 : (a0.1.take 600).length ≤ 600 := by simp; omega
  rw [catS, if_pos (by omega), bnd_some']
  have hA : (a0.1.take 600 ++ a0.2.take 600).length ≤ 16384 := by rw [List.length_append]; omega
  rw [New_eq _ (by rw [List.length_append]; omega), bnd_some']
  dsimp only
  obtain ⟨P, w, b1, r1⟩ := round0 a0 a1 a2 hs _ hb
  obtain ⟨P', w', b2, r2⟩ := round1 a0 a1 a2 hs _ hb P w
  have hlp : loop (law08_RowSame.l1 a0 a1 a2 (0, a0.1.take 600 ++ a0.2.take 600)) (0, [], 0, false, [], 0, false, [], 0, false, [], 0, false) =
      some (Ex.brk (P.fCells, P.fEnd, P.fHidden, P'.fCells, P'.fEnd, P'.fHidden, w.fCells, w.fEnd, w.fHidden, w'.fCells, w'.fEnd, w'.fHidden)) := by
    refine loop_next r1 (loop_next r2 (loop_done ?_))
    unfold law08_RowSame.l1
    rw [if_neg (show ¬ ((2 : Int) < 2) by decide)]
  rw [hlp, bnd_some']
  have hf := b1.few
  have s1 := rowSame_eq hA b1.good b2.good (by omega)
  have s2 := rowSame_eq hA b1.good b1.good (by omega)
  have hl := congrArg List.length (cellsOf b1.same).1
  rw [List.length_map] at hl
  have s3 := refRow_same w w' (by omega)
  dsimp only
  rw [show (⟨P.fCells, P.fEnd, P.fHidden⟩ : row_Row) = P from rfl, show (⟨P'.fCells, P'.fEnd, P'.fHidden⟩ : row_Row) = P' from rfl, show (⟨w.fCells, w.fEnd, w.fHidden⟩ : ref08_Row) = w from rfl, show (⟨w'.fCells, w'.fEnd, w'.fHidden⟩ : ref08_Row) = w' from rfl, s1, bnd_some', s3, bnd_some', b1.same, b2.same, if_pos (beq_self_eq_true _), s2, bnd_some', decide_eq_true rfl, if_pos rfl, awake8_eq, bnd_some', bnd_some']
end Go.Proofs.Ytbcbggdgkdfciaa.S
