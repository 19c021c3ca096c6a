/- Plain facts for one law: printed by prune.py out of Can Pie0 Are ScaA ScaB Scd Fla QuoA QuoB Cel Row. -/
import Derived.Test.YtpmhiiemklhbhaaG0
import Derived.Test.YtpmhiiemklhbhaaG1xa
import Derived.Test.YtpmhiiemklhbhaaG1xb
import Derived.Test.YtpmhiiemklhbhaaG1xc
import Derived.Test.YtpmhiiemklhbhaaSD
set_option linter.unusedVariables false
namespace Go.Proofs.Ytpmhiiemklhbhaa.S
open Go Go.Sm
def rangeI (a : Int) (n : Nat) : List Int := (List.range n).map fun i : Nat => a + (i : Int)
theorem rangeI_succ (a : Int) (n : Nat) : rangeI a (n + 1) = rangeI a n ++ [a + (n : Int)] := by simp [rangeI, List.range_succ]
theorem rangeI_len (a : Int) (n : Nat) : (rangeI a n).length = n := by simp [rangeI]
theorem rangeI_add (a : Int) (m : Nat) : ∀ n : Nat, rangeI a (m + n) = rangeI a m ++ rangeI (a + (m : Int)) n
  | 0 => by simp [rangeI]
  | n + 1 => by rw [← Nat.add_assoc, rangeI_succ, rangeI_add a m n, rangeI_succ, List.append_assoc]; congr 2; simp; omega
def exp1 (s : arena_Span) : List Int := rangeI s.fAt s.fN.toNat
def expand (L : List arena_Span) : List Int := L.flatMap exp1
theorem expand_append (L M : List arena_Span) : expand (L ++ M) = expand L ++ expand M := by simp [expand]
theorem expand_one (s : arena_Span) : expand [s] = exp1 s := by simp [expand]
/-- One span more. -/
def addS (L : List arena_Span) (s : arena_Span) : List arena_Span :=
  if s.fN < 1 then L else match L.getLast? with
    | none => [s]
    | some k => if k.fAt + k.fN = s.fAt then L.dropLast ++ [⟨k.fAt, k.fN + s.fN⟩] else L ++ [s]
theorem addS_nil {s : arena_Span} (h : ¬ s.fN < 1) : addS [] s = [s] := by simp [addS, h]
theorem addS_less {L : List arena_Span} {s : arena_Span} (h : s.fN < 1) : addS L s = L := by simp [addS, h]
theorem addS_snoc {L : List arena_Span} {k s : arena_Span} (h : ¬ s.fN < 1) : addS (L ++ [k]) s = if k.fAt + k.fN = s.fAt then L ++ [⟨k.fAt, k.fN + s.fN⟩] else L ++ [k] ++ [s] := by simp [addS, h]
def addI (L : List arena_Span) (x : Int) : List arena_Span := addS L ⟨x, 1⟩
def canon (r : List Int) : List arena_Span := r.foldl addI []
theorem snoc_cases (L : List arena_Span) : L = [] ∨ ∃ M k, L = M ++ [k] := by
  rcases List.eq_nil_or_concat L with h | ⟨M, k, h⟩
  · exact .inl h
  · exact .inr ⟨M, k, by simpa using h⟩
theorem addI_range (a : Int) (L : List arena_Span) : ∀ n : Nat, (rangeI a n).foldl addI L = addS L ⟨a, n⟩
  | 0 => by rw [addS_less (by simp)]; rfl
  | n + 1 => by
    rw [rangeI_succ, List.foldl_append, addI_range a L n]
    simp only [List.foldl_cons, List.foldl_nil, addI]
    have h1 : ¬ ((1 : Int) < 1) := by omega
    have h2 : ¬ ((((n + 1 : Nat) : Int)) < 1) := by omega
    cases n with
    | zero => rw [addS_less (L := L) (s := ⟨a, ((0 : Nat) : Int)⟩) (by simp)]; simp
    | succ n =>
      have h3 : ¬ ((((n + 1 : Nat) : Int)) < 1) := by omega
      rcases snoc_cases L with rfl | ⟨M, k, rfl⟩
      · rw [addS_nil h3, addS_nil h2, show [(⟨a, ((n + 1 : Nat) : Int)⟩ : arena_Span)] = [] ++ [⟨a, ((n + 1 : Nat) : Int)⟩] from rfl, addS_snoc h1]
        simp only [List.nil_append]
        rw [if_pos trivial]; simp
      · rw [addS_snoc h3, addS_snoc h2]
        by_cases hk : k.fAt + k.fN = a
        · rw [if_pos hk, if_pos hk, addS_snoc h1]
          simp only
          rw [if_pos (by omega)]
          simp; omega
        · rw [if_neg hk, if_neg hk, addS_snoc h1]
          simp only
          rw [if_pos trivial]; simp
theorem addS_exp (L : List arena_Span) (s : arena_Span) : addS L s = (exp1 s).foldl addI L := by
  unfold exp1
  rw [addI_range]
  by_cases h : s.fN < 1
  · rw [addS_less h, addS_less (by simp; omega)]
  · rw [Int.toNat_of_nonneg (by omega)]
/-- Spans that may be: their numbers are small. -/
def Good (s : arena_Span) : Prop := 0 ≤ s.fAt ∧ 1 ≤ s.fN ∧ s.fAt + s.fN ≤ 2097152
theorem addS_good {L : List arena_Span} {s : arena_Span} (hL : ∀ k ∈ L, Good k) (hs : 1 ≤ s.fN → Good s) : ∀ k ∈ addS L s, Good k := by
  by_cases h : s.fN < 1
  · rw [addS_less h]; exact hL
  · have hs' := hs (by omega)
    rcases snoc_cases L with rfl | ⟨M, k, rfl⟩
    · rw [addS_nil h]; simpa using hs'
    · rw [addS_snoc h]
      split
      · rename_i hk
        intro x hx
        rcases List.mem_append.1 hx with hx | hx
        · exact hL x (List.mem_append_left _ hx)
        · have := hL k (by simp)
          simp at hx; subst hx
          simp only [Good] at this hs' ⊢
          omega
      · intro x hx
        rcases List.mem_append.1 hx with hx | hx
        · exact hL x hx
        · simp at hx; subst hx; exact hs'
theorem addS_expand {L : List arena_Span} {s : arena_Span} (hL : ∀ k ∈ L, Good k) : expand (addS L s) = expand L ++ exp1 s := by
  by_cases h : s.fN < 1
  · rw [addS_less h]; simp [exp1, rangeI, show s.fN.toNat = 0 by omega]
  · rcases snoc_cases L with rfl | ⟨M, k, rfl⟩
    · rw [addS_nil h, expand_one]; rfl
    · rw [addS_snoc h]
      split
      · rename_i hk
        have := hL k (by simp)
        simp only [Good] at this
        simp only [expand_append, expand_one, List.append_assoc]
        congr 1
        simp only [exp1]
        rw [show (k.fN + s.fN).toNat = k.fN.toNat + s.fN.toNat by omega, rangeI_add]
        congr 2; omega
      · rw [expand_append, expand_one]
theorem canon_snoc (r : List Int) (x : Int) : canon (r ++ [x]) = addI (canon r) x := by simp [canon, List.foldl_append]
/-- Places that may be. -/
def GoodP (r : List Int) : Prop := ∀ x ∈ r, 0 ≤ x ∧ x < 2097152
theorem canon_good : ∀ (r : List Int), GoodP r → ∀ k ∈ canon r, Good k := by
  intro r
  induction r using snoc_ind with
  | nil => intro _ k hk; cases hk
  | snoc r x ih =>
    intro hr
    rw [canon_snoc]
    exact addS_good (ih fun y hy => hr y (by simp [hy])) (fun _ => by have := hr x (by simp); simp only [Good]; omega)
theorem canon_expand (r : List Int) (hr : GoodP r) : expand (canon r) = r := by
  induction r using snoc_ind with
  | nil => rfl
  | snoc r x ih =>
    have hr' : GoodP r := fun y hy => hr y (by simp [hy])
    rw [canon_snoc, addI, addS_expand (canon_good r hr'), ih hr']
    simp [exp1, rangeI]
/-- The text of places. -/
def tOf (r : List Int) : piece_Text := ⟨canon r, (r.length : Int)⟩
theorem join_eq (k s : arena_Span) (hk : Good k) (hs : Good s) : arena_Join k s = some (if k.fAt + k.fN = s.fAt then (⟨k.fAt, k.fN + s.fN⟩, true) else (⟨0, 0⟩, false)) := by
  simp only [Good] at hk hs
  unfold arena_Join
  rw [if_neg (by omega), if_neg (by omega), bnd_some', w64_id ⟨by omega, by omega⟩]
  by_cases h : k.fAt + k.fN = s.fAt
  · have : s = (⟨k.fAt + k.fN, s.fN⟩ : arena_Span) := by cases s; simp_all
    rw [if_pos h, if_neg (by simp only [Bool.not_eq_true', beq_eq_false_iff_ne, ne_eq, Classical.not_not]; exact this), w64_id ⟨by omega, by omega⟩]
  · have : s ≠ (⟨k.fAt + k.fN, s.fN⟩ : arena_Span) := fun e => h (congrArg arena_Span.fAt e).symm
    rw [if_neg h, if_pos (by simpa using this)]
theorem addI_len (L : List arena_Span) (s : arena_Span) : (addS L s).length ≤ L.length + 1 := by
  by_cases h : s.fN < 1
  · rw [addS_less h]; omega
  · rcases snoc_cases L with rfl | ⟨M, k, rfl⟩
    · rw [addS_nil h]; simp
    · rw [addS_snoc h]; split <;> simp
theorem canon_len : ∀ r : List Int, (canon r).length ≤ r.length := by
  intro r
  induction r using snoc_ind with
  | nil => simp [canon]
  | snoc r x ih => rw [canon_snoc]; have := addI_len (canon r) ⟨x, 1⟩; simp only [addI, List.length_append, List.length_cons, List.length_nil]; omega
theorem idx_map {α β : Type} (g : α → β) (l : List α) (i : Int) : idx (l.map g) i = (idx l i).map g := by
  unfold idx; split <;> simp
theorem exp_sub {r : List Int} (hr : GoodP r) {pre suf : List arena_Span} (h : canon r = pre ++ suf) : GoodP (expand pre) ∧ (expand pre).length ≤ r.length ∧ r = expand pre ++ expand suf := by
  have := canon_expand r hr
  rw [h, expand_append] at this
  exact ⟨fun x hx => hr x (by rw [← this]; simp [hx]), by rw [← this]; simp, this.symm⟩
theorem goodP_app {r q : List Int} (hr : GoodP r) (hq : GoodP q) : GoodP (r ++ q) := fun x hx => (List.mem_append.1 hx).elim (hr x) (hq x)
theorem with_eq (s : arena_Span) (n : Int) (L : List arena_Span) (hL : ∀ k ∈ L, Good k) (hs : 1 ≤ s.fN → Good s) (hn : 0 ≤ n ∧ n ≤ 1073741824) (hlen : L.length ≤ 1073741824) :
    piece_Text_with_2 s n L = some (n + (s.fN.toNat : Int), addS L s) := by
  unfold piece_Text_with_2
  by_cases h : s.fN < 1
  · rw [if_pos h, addS_less h, show s.fN.toNat = 0 by omega]; simp
  · have hs' := hs (by omega)
    have hs2 := hs'
    simp only [Good] at hs2
    rw [if_neg h]
    have e1 : w64 (n + s.fN) = n + (s.fN.toNat : Int) := by rw [w64_id ⟨by omega, by omega⟩]; omega
    have happ : ∀ M : List arena_Span, M.length ≤ 1073741824 → app 16 M [s] = some (M ++ [s]) := fun M hM => app_of (by simp; omega)
    rcases snoc_cases L with rfl | ⟨M, k, rfl⟩
    · rw [addS_nil h]
      simp [show w64 (-1) = -1 from rfl, happ [] (by simp), e1]
    · have hlen' : M.length + 1 ≤ 1073741824 := by simpa using hlen
      have e2 : w64 (((M ++ [k]).length : Int) - 1) = (M.length : Int) := by simp [w64_id (x := (M.length : Int)) ⟨by omega, by omega⟩]
      rw [e2, if_pos (by omega), idx_at, bnd_some', join_eq k s (hL k (by simp)) hs', bnd_some', addS_snoc h, e1]
      by_cases hk : k.fAt + k.fN = s.fAt
      · rw [if_pos hk, if_pos hk]; simp
      · rw [if_neg hk, if_neg hk]; simp [happ (M ++ [k]) (by simpa using hlen)]
theorem made (b : List UInt8) (h : b.length ≤ 1000000000) : mkz 1 (b.length : Int) (0 : UInt8) = some (List.replicate b.length 0) := by
  rw [mkz_of (by omega)]; simp
theorem made_over (b : List UInt8) : over (List.replicate b.length (0 : UInt8)) b = b := over_same (by simp)
theorem New_eq (a : List UInt8) (h : a.length ≤ 4096) : arena_New a = some (.inr (0, a)) := by
  unfold arena_New
  rw [if_neg (by omega), made a (by omega), bnd_some', made_over]
def rightA (s : arena_Span) (a : List UInt8) : Bool := decide (0 ≤ s.fAt ∧ 0 ≤ s.fN ∧ s.fAt ≤ a.length ∧ s.fN ≤ a.length - s.fAt)
theorem Right_eq (s : arena_Span) (a : List UInt8) (ha : a.length ≤ 1000000000) : arena_Arena_Right s a = some (rightA s a) := by
  unfold arena_Arena_Right rightA
  by_cases h1 : 0 ≤ s.fAt
  · rw [if_pos h1]
    by_cases h2 : 0 ≤ s.fN
    · rw [if_pos h2]
      by_cases h3 : s.fAt ≤ (a.length : Int)
      · rw [if_pos h3, w64_id ⟨by omega, by omega⟩, bnd_some']
        simp [h1, h2, h3]
      · rw [if_neg h3, bnd_some']; simp [h3]
    · rw [if_neg h2, bnd_some']; simp [h2]
  · rw [if_neg h1, bnd_some']; simp [h1]
def bytesA (s : arena_Span) (a : List UInt8) : List UInt8 := if rightA s a = true then (a.take (s.fAt + s.fN).toNat).drop s.fAt.toNat else []
theorem bytesA_len (s : arena_Span) (a : List UInt8) : (bytesA s a).length ≤ a.length := by
  unfold bytesA; split <;> simp; omega
theorem Bytes_eq (s : arena_Span) (a : List UInt8) (ha : a.length ≤ 1000000000) : arena_Arena_Bytes s a = some (bytesA s a) := by
  have hl := bytesA_len s a
  unfold arena_Arena_Bytes arena_Arena_part
  rw [Right_eq s a ha, bnd_some']
  cases h : rightA s a with
  | false =>
    rw [if_neg (by simp), bnd_some']
    simp only
    rw [made [] (by simp), bnd_some', made_over]
    simp [bytesA, h]
  | true =>
    have hr := h
    unfold rightA at hr
    simp only [decide_eq_true_eq] at hr
    have hb : bytesA s a = (a.take (s.fAt + s.fN).toNat).drop s.fAt.toNat := by simp [bytesA, h]
    rw [if_pos rfl, w64_id ⟨by omega, by omega⟩, cut_of ⟨by omega, by omega, by omega⟩, bnd_some', bnd_some']
    simp only
    rw [cut_of ⟨by omega, by omega, by omega⟩, bnd_some', ← hb, made _ (by omega), bnd_some', made_over]
theorem u8n (x : UInt8) (c : UInt8) : ((x.toNat : Int) = (c.toNat : Int)) ↔ x = c := ⟨fun h => UInt8.toNat_inj.1 (by omega), fun h => by rw [h]⟩
theorem u8_44 (x : UInt8) : ((x.toNat : Int) = 44) ↔ x = 44 := u8n x 44
theorem u8_13 (x : UInt8) : ((x.toNat : Int) = 13) ↔ x = 13 := u8n x 13
theorem u8_10 (x : UInt8) : ((x.toNat : Int) = 10) ↔ x = 10 := u8n x 10
theorem u8_34 (x : UInt8) : ((x.toNat : Int) = 34) ↔ x = 34 := u8n x 34
def at_ (b : List UInt8) (c : UInt8) (i : Nat) : Bool := b[i]? == some c
def isMark (x : UInt8) : Bool := x == 44 || x == 13 || x == 10
def mk (b : List UInt8) (i : Nat) : Bool := match b[i]? with | none => true | some x => isMark x
theorem mk_out {b : List UInt8} {i : Nat} (h : b.length ≤ i) : mk b i = true := by unfold mk; rw [List.getElem?_eq_none h]
theorem mk_in {b : List UInt8} {i : Nat} (h : mk b i = false) : i < b.length := by
  rcases Nat.lt_or_ge i b.length with h' | h'
  · exact h'
  · rw [mk_out h'] at h; cases h
theorem at_in {b : List UInt8} {c : UInt8} {i : Nat} (h : at_ b c i = true) : i < b.length := by
  simp only [at_, beq_iff_eq] at h
  exact (List.getElem?_eq_some_iff.1 h).1
theorem done_eq (b : List UInt8) (i : Nat) : scan_reader_done b (i : Int) = some (decide (b.length ≤ i)) := by
  unfold scan_reader_done
  congr 1
  exact decide_eq_decide.2 ⟨fun h => by omega, fun h => by omega⟩
theorem is_eq (c : UInt8) (b : List UInt8) (i : Nat) : scan_reader_is c b (i : Int) = some (at_ b c i) := by
  unfold scan_reader_is
  rw [done_eq, bnd_some']
  by_cases h : b.length ≤ i
  · rw [decide_eq_true h, if_pos rfl, bnd_some']
    simp [at_, List.getElem?_eq_none h]
  · rw [decide_eq_false h, if_neg (by simp), idx_nat (List.getElem?_eq_getElem (by omega)), bnd_some', bnd_some']
    simp only [at_, List.getElem?_eq_getElem (show i < b.length by omega)]
    congr 1
    rw [Bool.eq_iff_iff, beq_iff_eq, beq_iff_eq, u8n, Option.some.injEq]
theorem quote_eq (b : List UInt8) (i : Nat) : ref05_quote b (i : Int) = some (at_ b 34 i) := by
  unfold ref05_quote
  by_cases h : (i : Int) < (b.length : Int)
  · have h' : i < b.length := by omega
    rw [if_pos h, idx_nat (List.getElem?_eq_getElem h'), bnd_some', bnd_some']
    simp only [at_, List.getElem?_eq_getElem h']
    congr 1
    rw [Bool.eq_iff_iff, beq_iff_eq, beq_iff_eq, u8_34, Option.some.injEq]
  · rw [if_neg h, bnd_some']
    simp [at_, List.getElem?_eq_none (show b.length ≤ i by omega)]
theorem marked_eq (b : List UInt8) (i : Nat) : scan_reader_marked b (i : Int) = some (mk b i) := by
  unfold scan_reader_marked
  rw [done_eq, bnd_some']
  by_cases h : b.length ≤ i
  · rw [decide_eq_true h, if_pos rfl, mk_out h]
  · have h' : i < b.length := by omega
    rw [decide_eq_false h, if_neg (by simp), idx_nat (List.getElem?_eq_getElem h'), bnd_some']
    simp only [mk, List.getElem?_eq_getElem h', isMark, u8_44, u8_13]
    by_cases c1 : b[i] = 44
    · simp [c1]
    · by_cases c2 : b[i] = 13
      · simp [c2]
      · have e : (((b[i]).toNat : Int) == 10) = (b[i] == 10) := by rw [Bool.eq_iff_iff, beq_iff_eq, beq_iff_eq, u8_10]
        rw [if_neg c1, if_neg c2, bnd_some', e]
        cases hb : b[i] == 10 <;> simp [c1, c2]
theorem mark_eq (b : List UInt8) (i : Nat) : ref05_mark b (i : Int) = some (mk b i) := by
  unfold ref05_mark
  by_cases h : (i : Int) ≥ (b.length : Int)
  · rw [if_pos h, bnd_some', mk_out (by omega)]
  · have h' : i < b.length := by omega
    rw [if_neg h, idx_nat (List.getElem?_eq_getElem h'), bnd_some']
    simp only [mk, List.getElem?_eq_getElem h', isMark, u8_44, u8_13]
    by_cases c1 : b[i] = 44
    · simp [c1]
    · by_cases c2 : b[i] = 13
      · simp [c2]
      · have e : (((b[i]).toNat : Int) == 10) = (b[i] == 10) := by rw [Bool.eq_iff_iff, beq_iff_eq, beq_iff_eq, u8_10]
        rw [if_neg c1, if_neg c2, bnd_some', e]
        simp [c1, c2]
def tlF (b : List UInt8) : Nat → Nat → Nat
  | 0, i => i
  | n + 1, i => if mk b i = true then i else tlF b n (i + 1)
def tl (b : List UInt8) (i : Nat) : Nat := tlF b b.length i
theorem tlF_spec (b : List UInt8) : ∀ n i, b.length ≤ i + n → i ≤ tlF b n i ∧ mk b (tlF b n i) = true ∧ (∀ k, i ≤ k → k < tlF b n i → mk b k = false) ∧ (i ≤ b.length → tlF b n i ≤ b.length)
  | 0, i, h => ⟨Nat.le_refl _, mk_out h, fun k h1 h2 => by simp only [tlF] at h2; omega, id⟩
  | n + 1, i, h => by
    simp only [tlF]
    by_cases c : mk b i = true
    · rw [if_pos c]; exact ⟨Nat.le_refl _, c, fun k h1 h2 => by omega, id⟩
    · rw [if_neg c]
      have hi := mk_in (by simpa using c)
      obtain ⟨h1, h2, h3, h4⟩ := tlF_spec b n (i + 1) (by omega)
      refine ⟨by omega, h2, fun k k1 k2 => ?_, fun _ => h4 hi⟩
      by_cases hk : k = i
      · subst hk; simpa using c
      · exact h3 k (by omega) k2
theorem tl_spec (b : List UInt8) (i : Nat) : i ≤ tl b i ∧ mk b (tl b i) = true ∧ (∀ k, i ≤ k → k < tl b i → mk b k = false) ∧ (i ≤ b.length → tl b i ≤ b.length) := tlF_spec b b.length i (by omega)
/-- Does a quote stand among so many bytes? -/
def aq (b : List UInt8) (i n : Nat) : Bool := (List.range n).any fun k => at_ b 34 (i + k)
theorem aq_succ (b : List UInt8) (i n : Nat) : aq b i (n + 1) = (aq b i n || at_ b 34 (i + n)) := by simp [aq, List.range_succ]
theorem plain_eq (b : List UInt8) (i : Nat) (hi : i ≤ b.length) (hb : b.length ≤ 2000000) : scan_reader_plain b (i : Int) = some (aq b i (tl b i - i), ((tl b i : Nat) : Int)) := by
  obtain ⟨h1, h2, h3, h4⟩ := tl_spec b i
  have h4' := h4 hi
  have h := loop_nat (f := scan_reader_plain.l1 b) (fun k (s : Bool) => (s, (i : Int) + k)) (tl b i - i) (fun n => aq b i n) (t := (aq b i (tl b i - i), ((tl b i : Nat) : Int)))
    (fun k hk => by
      unfold scan_reader_plain.l1
      simp only
      rw [show (i : Int) + (k : Int) = ((i + k : Nat) : Int) by omega, marked_eq, bnd_some', h3 (i + k) (by omega) (by omega), if_neg (by simp), is_eq, bnd_some', aq_succ]
      have e : (if aq b i k = true then some true else some (at_ b 34 (i + k)) : Option Bool) = some (aq b i k || at_ b 34 (i + k)) := by cases aq b i k <;> rfl
      rw [e, bnd_some', w64_id ⟨by omega, by omega⟩]
      congr 3)
    (by
      unfold scan_reader_plain.l1
      simp only
      rw [show (i : Int) + ((tl b i - i : Nat) : Int) = ((tl b i : Nat) : Int) by omega, marked_eq, bnd_some', h2, if_pos rfl])
  unfold scan_reader_plain
  have h' : loop (scan_reader_plain.l1 b) (false, (i : Int)) = some (aq b i (tl b i - i), ((tl b i : Nat) : Int)) := by simpa [aq] using h
  rw [h', bnd_some']
theorem till_eq (b : List UInt8) (i : Nat) (hi : i ≤ b.length) (hb : b.length ≤ 2000000) : ref05_till b (i : Int) = some ((tl b i : Nat) : Int) := by
  obtain ⟨h1, h2, h3, h4⟩ := tl_spec b i
  have h4' := h4 hi
  have h := loop_nat (f := ref05_till.l1 b) (fun k (_ : Unit) => (i : Int) + k) (tl b i - i) (fun _ => ()) (t := ((tl b i : Nat) : Int))
    (fun k hk => by
      unfold ref05_till.l1
      rw [show (i : Int) + (k : Int) = ((i + k : Nat) : Int) by omega, mark_eq, bnd_some', h3 (i + k) (by omega) (by omega), if_neg (by simp), w64_id ⟨by omega, by omega⟩]
      congr 2)
    (by
      unfold ref05_till.l1
      rw [show (i : Int) + ((tl b i - i : Nat) : Int) = ((tl b i : Nat) : Int) by omega, mark_eq, bnd_some', h2, if_pos rfl])
  unfold ref05_till
  have h' : loop (ref05_till.l1 b) (i : Int) = some ((tl b i : Nat) : Int) := by simpa using h
  rw [h', bnd_some']
theorem places2_eq (i j : Nat) (L : List Int) (hij : i ≤ j) (hj : j ≤ 2000000) (hL : L.length ≤ 2000000) : ref05_places_2 (i : Int) (j : Int) L = some (L ++ rangeI (i : Int) (j - i)) := by
  have h := loop_nat (f := ref05_places_2.l1 (j : Int)) (fun k (s : List Int) => ((i : Int) + k, s)) (j - i) (fun n => L ++ rangeI (i : Int) n) (t := L ++ rangeI (i : Int) (j - i))
    (fun k hk => by
      unfold ref05_places_2.l1
      simp only
      rw [if_pos (by omega), app_of (by simp [rangeI_len]; omega), bnd_some', w64_id ⟨by omega, by omega⟩, rangeI_succ, List.append_assoc]
      congr 3)
    (by
      unfold ref05_places_2.l1
      simp only
      rw [if_neg (by omega)])
  unfold ref05_places_2
  have h' : loop (ref05_places_2.l1 (j : Int)) ((i : Int), L) = some (L ++ rangeI (i : Int) (j - i)) := by simpa [rangeI] using h
  rw [h', bnd_some']
theorem places_eq (i j : Nat) (hij : i ≤ j) (hj : j ≤ 2000000) : ref05_places (i : Int) (j : Int) = some (rangeI (i : Int) (j - i)) := by
  have h := loop_nat (f := ref05_places.l1 (j : Int)) (fun k (s : List Int) => ((i : Int) + k, s)) (j - i) (fun n => rangeI (i : Int) n) (t := rangeI (i : Int) (j - i))
    (fun k hk => by
      unfold ref05_places.l1
      simp only
      rw [if_pos (by omega), app_of (by simp [rangeI_len]; omega), bnd_some', w64_id ⟨by omega, by omega⟩, rangeI_succ]
      congr 3)
    (by
      unfold ref05_places.l1
      simp only
      rw [if_neg (by omega)])
  unfold ref05_places
  have h' : loop (ref05_places.l1 (j : Int)) ((i : Int), []) = some (rangeI (i : Int) (j - i)) := by simpa [rangeI] using h
  rw [h', bnd_some']
theorem kind_eq (b : List UInt8) (i j : Nat) (hij : i ≤ j) (hj : j ≤ 2000000) : loop (ref05_field.l2 b (j : Int)) ((i : Int), 0) = some (if aq b i (j - i) = true then 2 else 0) := by
  have h := loop_nat (f := ref05_field.l2 b (j : Int)) (fun k (s : Int) => ((i : Int) + k, s)) (j - i) (fun n => if aq b i n = true then 2 else 0) (t := if aq b i (j - i) = true then 2 else 0)
    (fun k hk => by
      unfold ref05_field.l2
      simp only
      rw [if_pos (by omega), show (i : Int) + (k : Int) = ((i + k : Nat) : Int) by omega, quote_eq, bnd_some', aq_succ]
      have e : (if at_ b 34 (i + k) = true then some 2 else some (if aq b i k = true then 2 else 0) : Option Int) = some (if (aq b i k || at_ b 34 (i + k)) = true then 2 else 0) := by
        cases aq b i k <;> cases at_ b 34 (i + k) <;> rfl
      rw [e, bnd_some', w64_id ⟨by omega, by omega⟩]
      congr 3)
    (by
      unfold ref05_field.l2
      simp only
      rw [if_neg (by omega)])
  simpa [aq] using h
theorem addS_canon (p : List Int) (i : Int) (n : Nat) : addS (canon p) ⟨i, n⟩ = canon (p ++ rangeI i n) := by
  rw [← addI_range]; simp [canon, List.foldl_append]
theorem add2_eq (i j : Nat) (p : List Int) (hp : GoodP p) (hpl : p.length ≤ 2000000) (hij : i ≤ j) (hj : j ≤ 2000000) : scan_parts_add_2 (i : Int) (j : Int) (canon p) = some (canon (p ++ rangeI (i : Int) (j - i))) := by
  have hc := canon_len p
  have hg := canon_good p hp
  unfold scan_parts_add_2
  by_cases h : (j : Int) ≤ (i : Int)
  · rw [if_pos h, show j - i = 0 by omega]; simp [rangeI]
  · have hs' : Good (⟨(i : Int), ((j - i : Nat) : Int)⟩ : arena_Span) := by simp only [Good]; omega
    have hlt : ¬ ((⟨(i : Int), ((j - i : Nat) : Int)⟩ : arena_Span).fN < 1) := by simp only; omega
    rw [if_neg h, ← addS_canon, w64_id (x := (j : Int) - (i : Int)) ⟨by omega, by omega⟩, show (j : Int) - (i : Int) = ((j - i : Nat) : Int) by omega]
    generalize hL : canon p = L at *
    have happ : ∀ M : List arena_Span, M.length ≤ 2000000 → app 16 M [(⟨(i : Int), ((j - i : Nat) : Int)⟩ : arena_Span)] = some (M ++ [⟨(i : Int), ((j - i : Nat) : Int)⟩]) := fun M hM => app_of (by simp; omega)
    rcases snoc_cases L with rfl | ⟨M, k, rfl⟩
    · rw [addS_nil hlt]
      simp [show w64 (-1) = -1 from rfl, happ [] (by simp)]
    · have hlen' : M.length + 1 ≤ 2000000 := by simp at hc; omega
      have e2 : w64 (((M ++ [k]).length : Int) - 1) = (M.length : Int) := by simp [w64_id (x := (M.length : Int)) ⟨by omega, by omega⟩]
      rw [e2, if_pos (by omega), idx_at, bnd_some', join_eq k _ (hg k (by simp)) hs', bnd_some', addS_snoc hlt]
      by_cases hk : k.fAt + k.fN = (i : Int)
      · rw [if_pos hk, if_pos hk]; simp
      · rw [if_neg hk, if_neg hk]; simp [happ (M ++ [k]) (by simp; omega)]
theorem add_eq (i j : Nat) (hij : i ≤ j) (hj : j ≤ 2000000) : scan_parts_add (i : Int) (j : Int) = some (canon (rangeI (i : Int) (j - i))) := by
  unfold scan_parts_add
  by_cases h : (j : Int) ≤ (i : Int)
  · rw [if_pos h, show j - i = 0 by omega]; rfl
  · rw [if_neg h, if_neg (by simp [show w64 (-1) = -1 from rfl]), app_of (by simp), bnd_some', w64_id ⟨by omega, by omega⟩]
    have := addS_canon [] (i : Int) (j - i)
    rw [List.nil_append] at this
    rw [← this, show canon [] = [] from rfl, addS_nil (by simp only; omega)]
    simp only [List.nil_append]
    congr 3; omega
def rq (b : List UInt8) : Nat → Nat → List Int → Nat × List Int
  | 0, i, acc => (i, acc)
  | n + 1, i, acc => if i < b.length ∧ (at_ b 34 i = false ∨ at_ b 34 (i + 1) = true) then rq b n (i + (if at_ b 34 i = true then 2 else 1)) (acc ++ [(i : Int)]) else (i, acc)
theorem rq_spec (b : List UInt8) : ∀ n i acc, b.length ≤ i + n → i ≤ b.length → acc.length ≤ i → (∀ x ∈ acc, 0 ≤ x ∧ x < (i : Int)) →
    let r := rq b n i acc
    i ≤ r.1 ∧ r.1 ≤ b.length ∧ r.2.length ≤ r.1 ∧ (∀ x ∈ r.2, 0 ≤ x ∧ x < (r.1 : Int)) ∧ (r.1 < b.length → at_ b 34 r.1 = true)
  | 0, i, acc, h, hi, hl, ha => ⟨Nat.le_refl _, hi, hl, ha, fun h' => by simp only [rq] at h'; omega⟩
  | n + 1, i, acc, h, hi, hl, ha => by
    simp only [rq]
    by_cases c : i < b.length ∧ (at_ b 34 i = false ∨ at_ b 34 (i + 1) = true)
    · rw [if_pos c]
      have h2 : i + (if at_ b 34 i = true then 2 else 1) ≤ b.length := by
        split
        · rename_i hq
          rcases c.2 with h' | h'
          · rw [hq] at h'; cases h'
          · have := at_in h'; omega
        · omega
      have h1 : i + 1 ≤ i + (if at_ b 34 i = true then 2 else 1) := by split <;> omega
      obtain ⟨g1, g2, g3, g4, g5⟩ := rq_spec b n (i + (if at_ b 34 i = true then 2 else 1)) (acc ++ [(i : Int)]) (by omega) h2 (by simp; omega) (by
        intro x hx
        rcases List.mem_append.1 hx with hx | hx
        · have := ha x hx; omega
        · simp at hx; omega)
      exact ⟨by omega, g2, g3, g4, g5⟩
    · rw [if_neg c]
      refine ⟨Nat.le_refl _, hi, hl, ha, fun h' => ?_⟩
      cases hq : at_ b 34 i with
      | true => rfl
      | false => exact absurd ⟨h', .inl hq⟩ c
theorem rqLoop_eq (b : List UInt8) (hb : b.length ≤ 2000000) : ∀ n (i : Nat) acc, b.length ≤ i + n → i ≤ b.length → acc.length ≤ i → loop (ref05_field.l1 b) ((i : Int), acc) = some (((rq b n i acc).1 : Int), (rq b n i acc).2) := by
  intro n
  induction n with
  | zero =>
    intro i acc h hi hl
    refine loop_done ?_
    unfold ref05_field.l1
    simp only
    rw [if_neg (by omega), bnd_some', if_neg (by simp)]
    rfl
  | succ n ih =>
    intro i acc h hi hl
    simp only [rq]
    by_cases hlt : i < b.length
    · by_cases c : at_ b 34 i = false ∨ at_ b 34 (i + 1) = true
      · rw [if_pos ⟨hlt, c⟩]
        have h2 : i + (if at_ b 34 i = true then 2 else 1) ≤ b.length := by
          split
          · rename_i hq
            rcases c with h' | h'
            · rw [hq] at h'; cases h'
            · have := at_in h'; omega
          · omega
        have h1 : i + 1 ≤ i + (if at_ b 34 i = true then 2 else 1) := by split <;> omega
        refine loop_next (s' := (((i + (if at_ b 34 i = true then 2 else 1) : Nat) : Int), acc ++ [(i : Int)])) ?_ (ih _ _ (by omega) h2 (by simp; omega))
        unfold ref05_field.l1
        simp only
        rw [if_pos (by omega), quote_eq, bnd_some', w64_id (x := (i : Int) + 1) ⟨by omega, by omega⟩]
        rw [show (i : Int) + 1 = ((i + 1 : Nat) : Int) by omega, quote_eq, bnd_some']
        have e : (if at_ b 34 i = true then some (at_ b 34 (i + 1)) else some true : Option Bool) = some true := by
          cases hq : at_ b 34 i with
          | false => rfl
          | true => rcases c with h' | h'
                    · rw [hq] at h'; cases h'
                    · simp [h']
        rw [e, bnd_some', if_pos rfl, app_of (by simp; omega), bnd_some', bnd_some']
        cases hq : at_ b 34 i with
        | true =>
          rw [if_pos rfl, bnd_some', w64_id ⟨by omega, by omega⟩]
          simp; omega
        | false =>
          rw [if_neg (by simp), bnd_some', w64_id ⟨by omega, by omega⟩]
          simp
      · rw [if_neg (fun h' => c h'.2)]
        have hq : at_ b 34 i = true := by
          cases hq : at_ b 34 i with
          | true => rfl
          | false => exact absurd (.inl hq) c
        have hq2 : at_ b 34 (i + 1) = false := by
          cases hq2 : at_ b 34 (i + 1) with
          | false => rfl
          | true => exact absurd (.inr hq2) c
        refine loop_done ?_
        unfold ref05_field.l1
        simp only
        rw [if_pos (by omega), quote_eq, bnd_some', hq, if_pos rfl, w64_id (x := (i : Int) + 1) ⟨by omega, by omega⟩, show (i : Int) + 1 = ((i + 1 : Nat) : Int) by omega, quote_eq, bnd_some', hq2, bnd_some', if_neg (by simp)]
    · rw [if_neg (fun h' => hlt h'.1)]
      refine loop_done ?_
      unfold ref05_field.l1
      simp only
      rw [if_neg (by omega), bnd_some', if_neg (by simp)]
theorem rq_fuel (b : List UInt8) : ∀ n m i acc, b.length ≤ i + n → b.length ≤ i + m → rq b n i acc = rq b m i acc
  | 0, 0, i, acc, _, _ => rfl
  | 0, m + 1, i, acc, h, _ => by simp only [rq]; rw [if_neg (fun h' => by omega)]
  | n + 1, 0, i, acc, _, h => by simp only [rq]; rw [if_neg (fun h' => by omega)]
  | n + 1, m + 1, i, acc, h, h' => by
    simp only [rq]
    split
    · have h1 : i + 1 ≤ i + (if at_ b 34 i = true then 2 else 1) := by split <;> omega
      exact rq_fuel b n m _ _ (by omega) (by omega)
    · rfl
/-- Bytes that are no quotes are passed. -/
theorem rq_skip (b : List UInt8) (i : Nat) (acc : List Int) (n : Nat) (hn : b.length ≤ i + n) : ∀ k, i + k ≤ b.length → (∀ j, i ≤ j → j < i + k → at_ b 34 j = false) → rq b n i acc = rq b n (i + k) (acc ++ rangeI (i : Int) k)
  | 0, _, _ => by simp [rangeI]
  | k + 1, hk, hq => by
    rw [rq_skip b i acc n hn k (by omega) (fun j h1 h2 => hq j h1 (by omega)), rq_fuel b n (n + 1) (i + k) _ (by omega) (by omega)]
    simp only [rq]
    have h0 := hq (i + k) (by omega) (by omega)
    rw [if_pos ⟨by omega, .inl h0⟩, h0, if_neg (by simp), rangeI_succ, List.append_assoc, show i + (k + 1) = i + k + 1 from rfl, show ((i + k : Nat) : Int) = (i : Int) + (k : Int) by omega]
/-- The next quote. -/
def nqF (b : List UInt8) : Nat → Nat → Nat
  | 0, i => i
  | n + 1, i => if i < b.length ∧ at_ b 34 i = false then nqF b n (i + 1) else i
theorem nqF_spec (b : List UInt8) : ∀ n i, b.length ≤ i + n → i ≤ b.length → i ≤ nqF b n i ∧ nqF b n i ≤ b.length ∧ (∀ j, i ≤ j → j < nqF b n i → at_ b 34 j = false) ∧ (nqF b n i < b.length → at_ b 34 (nqF b n i) = true)
  | 0, i, h, hi => ⟨Nat.le_refl _, hi, fun j h1 h2 => by simp only [nqF] at h2; omega, fun h' => by simp only [nqF] at h'; omega⟩
  | n + 1, i, h, hi => by
    simp only [nqF]
    by_cases c : i < b.length ∧ at_ b 34 i = false
    · rw [if_pos c]
      obtain ⟨h1, h2, h3, h4⟩ := nqF_spec b n (i + 1) (by omega) (by omega)
      refine ⟨by omega, h2, fun j j1 j2 => ?_, h4⟩
      by_cases hj : j = i
      · subst hj; exact c.2
      · exact h3 j (by omega) j2
    · rw [if_neg c]
      refine ⟨Nat.le_refl _, hi, fun j h1 h2 => by omega, fun h' => ?_⟩
      cases hq : at_ b 34 i with
      | true => rfl
      | false => exact absurd ⟨h', hq⟩ c
theorem skip_eq (b : List UInt8) (hb : b.length ≤ 2000000) : ∀ n (i : Nat), b.length ≤ i + n → i ≤ b.length → loop (scan_reader_quoted.l1 b) (i : Int) = some ((nqF b n i : Nat) : Int) := by
  have stop : ∀ i : Nat, ¬ (i < b.length ∧ at_ b 34 i = false) → scan_reader_quoted.l1 b (i : Int) = some (.done (i : Int)) := fun i c => by
    unfold scan_reader_quoted.l1
    rw [done_eq, bnd_some']
    by_cases h : b.length ≤ i
    · rw [decide_eq_true h, if_pos rfl, bnd_some', if_neg (by simp)]
    · have : at_ b 34 i = true := by
        cases hq : at_ b 34 i with
        | true => rfl
        | false => exact absurd ⟨by omega, hq⟩ c
      rw [decide_eq_false h, if_neg (by simp), is_eq, bnd_some', this, bnd_some', if_neg (by simp)]
  intro n
  induction n with
  | zero => intro i h hi; exact loop_done (stop i (fun h' => by omega))
  | succ n ih =>
    intro i h hi
    simp only [nqF]
    by_cases c : i < b.length ∧ at_ b 34 i = false
    · rw [if_pos c]
      refine loop_next (s' := ((i + 1 : Nat) : Int)) ?_ (ih _ (by omega) (by omega))
      unfold scan_reader_quoted.l1
      rw [done_eq, bnd_some', decide_eq_false (by omega), if_neg (by simp), is_eq, bnd_some', c.2, bnd_some', if_pos (by rfl), w64_id ⟨by omega, by omega⟩]
      congr 2
    · rw [if_neg c]; exact loop_done (stop i c)
/-- What a field with a quote ahead comes to, from where its bytes ended. -/
def qEnd (b : List UInt8) (r : Nat × List Int) : Int × List Int × Nat :=
  if b.length ≤ r.1 then (4, r.2, r.1) else (if r.1 + 1 < tl b (r.1 + 1) then 3 else 1, r.2 ++ rangeI ((r.1 + 1 : Nat) : Int) (tl b (r.1 + 1) - (r.1 + 1)), tl b (r.1 + 1))
theorem goodP_of {p : List Int} {m : Nat} (h : ∀ x ∈ p, 0 ≤ x ∧ x < (m : Int)) (hm : m ≤ 2000000) : GoodP p := fun x hx => by have := h x hx; omega
theorem goodP_range {i n : Nat} (h : i + n ≤ 2000000) : GoodP (rangeI (i : Int) n) := fun x hx => by
  simp only [rangeI, List.mem_map, List.mem_range] at hx
  obtain ⟨k, hk, rfl⟩ := hx; omega
theorem label_eq (b : List UInt8) (hb : b.length ≤ 2000000) : ∀ n (i : Nat) acc, b.length ≤ i + n → i ≤ b.length → acc.length ≤ i → (∀ x ∈ acc, 0 ≤ x ∧ x < (i : Int)) →
    loop (scan_reader_quoted.l2 b) ((i : Int), (i : Int), canon acc) = some ((qEnd b (rq b n i acc)).1, canon (qEnd b (rq b n i acc)).2.1, (((qEnd b (rq b n i acc)).2.2 : Nat) : Int)) := by
  intro n
  induction n using Nat.strongRecOn with
  | _ n ih =>
    intro i acc h hi hl ha
    obtain ⟨g1, g2, g3, g4⟩ := nqF_spec b b.length i (by omega) hi
    have hsk := skip_eq b hb b.length i (by omega) hi
    generalize nqF b b.length i = t at *
    have hskip : rq b n i acc = rq b n t (acc ++ rangeI (i : Int) (t - i)) := by
      have := rq_skip b i acc n h (t - i) (by omega) (fun j h1 h2 => g3 j h1 (by omega))
      rwa [show i + (t - i) = t by omega] at this
    have hga := goodP_of ha (by omega)
    have hr : GoodP (rangeI (i : Int) (t - i)) := goodP_range (by omega)
    by_cases ht : b.length ≤ t
    · refine loop_done ?_
      unfold scan_reader_quoted.l2
      simp only
      rw [hsk, bnd_some', done_eq, bnd_some', decide_eq_true ht, if_pos rfl, add2_eq i t acc hga (by omega) g1 (by omega), bnd_some', hskip]
      have e : rq b n t (acc ++ rangeI (i : Int) (t - i)) = (t, acc ++ rangeI (i : Int) (t - i)) := by
        cases n with
        | zero => rfl
        | succ n => simp only [rq]; rw [if_neg (fun h' => by omega)]
      rw [e, qEnd, if_pos ht]
    · have htl : t < b.length := by omega
      have hqt := g4 htl
      cases hn : at_ b 34 (t + 1) with
      | true =>
        have h2 := at_in hn
        obtain ⟨m, rfl⟩ : ∃ m, n = m + 1 := ⟨n - 1, by omega⟩
        have e : rq b (m + 1) t (acc ++ rangeI (i : Int) (t - i)) = rq b m (t + 2) (acc ++ rangeI (i : Int) (t + 1 - i)) := by
          simp only [rq]
          rw [if_pos ⟨htl, .inr hn⟩, hqt, if_pos rfl, show t + 1 - i = (t - i) + 1 by omega, rangeI_succ, List.append_assoc]
          congr 4; omega
        refine loop_next (s' := (((t + 2 : Nat) : Int), ((t + 2 : Nat) : Int), canon (acc ++ rangeI (i : Int) (t + 1 - i)))) ?_ ?_
        · unfold scan_reader_quoted.l2
          simp only
          rw [hsk, bnd_some', done_eq, bnd_some', decide_eq_false ht, if_neg (by simp), w64_id (x := (t : Int) + 1) ⟨by omega, by omega⟩, show (t : Int) + 1 = ((t + 1 : Nat) : Int) by omega, is_eq, bnd_some', hn, if_pos rfl, add2_eq i (t + 1) acc hga (by omega) (by omega) (by omega), bnd_some', w64_id ⟨by omega, by omega⟩]
          congr 4
        · rw [hskip, e]
          refine ih m (by omega) (t + 2) _ (by omega) (by omega) (by simp [rangeI_len]; omega) (fun x hx => ?_)
          rcases List.mem_append.1 hx with hx | hx
          · have := ha x hx; omega
          · simp only [rangeI, List.mem_map, List.mem_range] at hx
            obtain ⟨k, hk, rfl⟩ := hx; omega
      | false =>
        have e : rq b n t (acc ++ rangeI (i : Int) (t - i)) = (t, acc ++ rangeI (i : Int) (t - i)) := by
          cases n with
          | zero => rfl
          | succ n =>
            simp only [rq]
            rw [if_neg]
            rintro ⟨_, h' | h'⟩
            · rw [hqt] at h'; cases h'
            · rw [hn] at h'; cases h'
        obtain ⟨t1, t2, t3, t4⟩ := tl_spec b (t + 1)
        have t4' := t4 (by omega)
        refine loop_done ?_
        unfold scan_reader_quoted.l2
        simp only
        rw [hsk, bnd_some', done_eq, bnd_some', decide_eq_false ht, if_neg (by simp), w64_id (x := (t : Int) + 1) ⟨by omega, by omega⟩, show (t : Int) + 1 = ((t + 1 : Nat) : Int) by omega, is_eq, bnd_some', hn, if_neg (by simp),
          w64_id (x := ((t + 1 : Nat) : Int) - 1) ⟨by omega, by omega⟩, show ((t + 1 : Nat) : Int) - 1 = (t : Int) by omega, add2_eq i t acc hga (by omega) g1 (by omega), bnd_some', plain_eq b (t + 1) (by omega) hb, bnd_some']
        simp only
        rw [add2_eq (t + 1) (tl b (t + 1)) _ (goodP_app hga hr) (by simp [rangeI_len]; omega) t1 (by omega), bnd_some', hskip, e, qEnd, if_neg ht]
        by_cases c : t + 1 < tl b (t + 1)
        · rw [if_pos (by omega), if_pos c]
        · rw [if_neg (by omega), if_neg c]
def fieldF (b : List UInt8) (i : Nat) : Int × List Int × Nat :=
  if at_ b 34 i = true then qEnd b (rq b b.length (i + 1) []) else (if aq b i (tl b i - i) = true then 2 else 0, rangeI (i : Int) (tl b i - i), tl b i)
theorem fieldF_spec (b : List UInt8) (hb : b.length ≤ 2000000) (i : Nat) (hi : i ≤ b.length) : i ≤ (fieldF b i).2.2 ∧ (fieldF b i).2.2 ≤ b.length ∧ mk b (fieldF b i).2.2 = true ∧ (∀ x ∈ (fieldF b i).2.1, 0 ≤ x ∧ x < (b.length : Int)) ∧ (fieldF b i).2.1.length ≤ b.length := by
  unfold fieldF
  have hr : ∀ {p m : Nat}, p + m ≤ b.length → ∀ x ∈ rangeI (p : Int) m, 0 ≤ x ∧ x < (b.length : Int) := fun {p m} h x hx => by
    simp only [rangeI, List.mem_map, List.mem_range] at hx
    obtain ⟨k, hk, rfl⟩ := hx; omega
  by_cases c : at_ b 34 i = true
  · rw [if_pos c]
    have hi' := at_in c
    obtain ⟨g1, g2, g3, g4, g5⟩ := rq_spec b b.length (i + 1) [] (by omega) (by omega) (by simp) (by simp)
    generalize rq b b.length (i + 1) [] = r at *
    unfold qEnd
    by_cases d : b.length ≤ r.1
    · rw [if_pos d]
      exact ⟨by simp only; omega, g2, mk_out d, fun x hx => by have := g4 x hx; omega, by simp only; omega⟩
    · rw [if_neg d]
      obtain ⟨t1, t2, t3, t4⟩ := tl_spec b (r.1 + 1)
      have t4' := t4 (by omega)
      refine ⟨by simp only; omega, t4', t2, fun x hx => ?_, by simp [rangeI_len]; omega⟩
      rcases List.mem_append.1 hx with hx | hx
      · have := g4 x hx; omega
      · exact hr (by omega) x hx
  · rw [if_neg c]
    obtain ⟨t1, t2, t3, t4⟩ := tl_spec b i
    have t4' := t4 hi
    exact ⟨t1, t4', t2, hr (by omega), by simp [rangeI_len]; omega⟩
def sField (b : List UInt8) (i : Nat) : scan_Field := ⟨⟨(i : Int), (((fieldF b i).2.2 - i : Nat) : Int)⟩, (fieldF b i).1, canon (fieldF b i).2.1⟩
def rField (b : List UInt8) (i : Nat) : ref05_Field := ⟨⟨(i : Int), (((fieldF b i).2.2 - i : Nat) : Int)⟩, (fieldF b i).1, (fieldF b i).2.1⟩
theorem sField_eq (b : List UInt8) (hb : b.length ≤ 2000000) (i : Nat) (hi : i ≤ b.length) : scan_reader_field b (i : Int) = some (sField b i, (((fieldF b i).2.2 : Nat) : Int)) := by
  obtain ⟨s1, s2, s3, s4, s5⟩ := fieldF_spec b hb i hi
  have key : (if at_ b 34 i = true then bnd (scan_reader_quoted b (i : Int)) fun x6 => some (x6.2.2, x6.1, x6.2.1) else bnd (scan_reader_bare b (i : Int)) fun x7 => some (x7.2.2, x7.1, x7.2.1) : Option (Int × Int × (List arena_Span))) = some ((((fieldF b i).2.2 : Nat) : Int), (fieldF b i).1, canon (fieldF b i).2.1) := by
    unfold fieldF
    by_cases c : at_ b 34 i = true
    · have hi' := at_in c
      rw [if_pos c, if_pos c]
      unfold scan_reader_quoted
      rw [w64_id ⟨by omega, by omega⟩, show (i : Int) + 1 = ((i + 1 : Nat) : Int) by omega]
      have := label_eq b hb b.length (i + 1) [] (by omega) (by omega) (by simp) (by simp)
      rw [show canon [] = [] from rfl] at this
      rw [this, bnd_some']
    · rw [if_neg c, if_neg c]
      obtain ⟨t1, t2, t3, t4⟩ := tl_spec b i
      have t4' := t4 hi
      unfold scan_reader_bare
      rw [plain_eq b i hi hb, bnd_some']
      simp only
      rw [add_eq i (tl b i) t1 (by omega), bnd_some']
      cases aq b i (tl b i - i) <;> rfl
  unfold scan_reader_field
  rw [is_eq, bnd_some', key, bnd_some', w64_id ⟨by omega, by omega⟩]
  unfold sField
  congr 4; omega
theorem rField_eq (b : List UInt8) (hb : b.length ≤ 2000000) (i : Nat) (hi : i ≤ b.length) : ref05_field b (i : Int) = some (rField b i) := by
  obtain ⟨s1, s2, s3, s4, s5⟩ := fieldF_spec b hb i hi
  unfold ref05_field
  rw [quote_eq, bnd_some']
  unfold rField
  unfold fieldF at *
  by_cases c : at_ b 34 i = true
  · have hi' := at_in c
    simp only [if_pos c] at *
    rw [w64_id (x := (i : Int) + 1) ⟨by omega, by omega⟩, show (i : Int) + 1 = ((i + 1 : Nat) : Int) by omega, rqLoop_eq b hb b.length (i + 1) [] (by omega) (by omega) (by simp), bnd_some']
    obtain ⟨g1, g2, g3, g4, g5⟩ := rq_spec b b.length (i + 1) [] (by omega) (by omega) (by simp) (by simp)
    generalize rq b b.length (i + 1) [] = r at *
    unfold qEnd at *
    by_cases d : b.length ≤ r.1
    · simp only [if_pos d] at *
      rw [if_pos (by omega), w64_id ⟨by omega, by omega⟩]
      congr 3; omega
    · simp only [if_neg d] at *
      obtain ⟨t1, t2, t3, t4⟩ := tl_spec b (r.1 + 1)
      have t4' := t4 (by omega)
      rw [if_neg (by omega), w64_id (x := (r.1 : Int) + 1) ⟨by omega, by omega⟩, show (r.1 : Int) + 1 = ((r.1 + 1 : Nat) : Int) by omega, till_eq b (r.1 + 1) (by omega) hb, bnd_some']
      have e : (if ((tl b (r.1 + 1) : Nat) : Int) > ((r.1 + 1 : Nat) : Int) then some 3 else some 1 : Option Int) = some (if r.1 + 1 < tl b (r.1 + 1) then 3 else 1) := by
        by_cases h : r.1 + 1 < tl b (r.1 + 1)
        · rw [if_pos h, if_pos (by omega)]
        · rw [if_neg h, if_neg (by omega)]
      rw [e, bnd_some', places2_eq _ _ _ t1 (by omega) (by omega), bnd_some', w64_id ⟨by omega, by omega⟩]
      congr 3; omega
  · simp only [if_neg c] at *
    obtain ⟨t1, t2, t3, t4⟩ := tl_spec b i
    have t4' := t4 hi
    rw [till_eq b i hi hb, bnd_some', places_eq _ _ t1 (by omega), bnd_some', kind_eq _ _ _ t1 (by omega), bnd_some', w64_id ⟨by omega, by omega⟩]
    congr 3; omega
abbrev fe (b : List UInt8) (i : Nat) : Nat := (fieldF b i).2.2
/-- Where a row's fields begin, and where the last one ends. -/
def fsF (b : List UInt8) : Nat → Nat → List Nat × Nat
  | 0, i => ([i], fe b i)
  | n + 1, i => if at_ b 44 (fe b i) = true then (i :: (fsF b n (fe b i + 1)).1, (fsF b n (fe b i + 1)).2) else ([i], fe b i)
def fs (b : List UInt8) (i : Nat) : List Nat × Nat := fsF b b.length i
theorem fsF_spec (b : List UInt8) (hb : b.length ≤ 2000000) : ∀ n i, b.length ≤ i + n → i ≤ b.length → i ≤ (fsF b n i).2 ∧ (fsF b n i).2 ≤ b.length ∧ mk b (fsF b n i).2 = true ∧ at_ b 44 (fsF b n i).2 = false ∧ (∀ j ∈ (fsF b n i).1, j ≤ b.length) ∧ (fsF b n i).1.length ≤ b.length + 1 - i := by
  intro n
  induction n with
  | zero =>
    intro i h hi
    obtain ⟨s1, s2, s3, s4, s5⟩ := fieldF_spec b hb i hi
    have : at_ b 44 (fe b i) = false := by
      cases hc : at_ b 44 (fe b i) with
      | false => rfl
      | true => have := at_in hc; simp only [fe] at this; omega
    exact ⟨s1, s2, s3, this, by simp only [fsF]; simpa using hi, by simp only [fsF, List.length_cons, List.length_nil]; omega⟩
  | succ n ih =>
    intro i h hi
    obtain ⟨s1, s2, s3, s4, s5⟩ := fieldF_spec b hb i hi
    simp only [fsF]
    by_cases c : at_ b 44 (fe b i) = true
    · have hlt := at_in c
      simp only [if_pos c]
      have h0 : i ≤ fe b i := s1
      obtain ⟨h1, h2, h3, h4, h5, h6⟩ := ih (fe b i + 1) (by omega) (by omega)
      refine ⟨by omega, h2, h3, h4, fun j hj => ?_, by simp only [List.length_cons]; omega⟩
      rcases List.mem_cons.1 hj with rfl | hj
      · exact hi
      · exact h5 j hj
    · simp only [if_neg c]
      exact ⟨s1, s2, s3, by simpa using c, by simpa using hi, by simp only [List.length_cons, List.length_nil]; omega⟩
def endF (b : List UInt8) (e : Nat) : Int × Nat := if at_ b 10 e = true then (1, e + 1) else if at_ b 13 e = true then (if at_ b 10 (e + 1) = true then (2, e + 2) else (3, e + 1)) else (0, e)
theorem end_eq (b : List UInt8) (hb : b.length ≤ 2000000) (e : Nat) (he : e ≤ b.length) : scan_reader_end b (e : Int) = some ((endF b e).1, (((endF b e).2 : Nat) : Int)) := by
  unfold scan_reader_end endF
  rw [is_eq, bnd_some', w64_id (x := (e : Int) + 1) ⟨by omega, by omega⟩, show (e : Int) + 1 = ((e + 1 : Nat) : Int) by omega, is_eq, bnd_some', is_eq, bnd_some', w64_id (x := ((e + 1 : Nat) : Int) + 1) ⟨by omega, by omega⟩]
  cases at_ b 10 e <;> cases at_ b 13 e <;> cases at_ b 10 (e + 1) <;> simp <;> omega
theorem endF_spec (b : List UInt8) (e : Nat) (he : e ≤ b.length) : e ≤ (endF b e).2 ∧ (endF b e).2 ≤ b.length ∧ ((mk b e = true) → at_ b 44 e = false → e < b.length → e < (endF b e).2) := by
  unfold endF
  by_cases c1 : at_ b 10 e = true
  · have := at_in c1
    rw [if_pos c1]; exact ⟨by simp, by simp only; omega, fun _ _ _ => by simp⟩
  · rw [if_neg c1]
    by_cases c2 : at_ b 13 e = true
    · have := at_in c2
      rw [if_pos c2]
      by_cases c3 : at_ b 10 (e + 1) = true
      · have := at_in c3
        rw [if_pos c3]; exact ⟨by simp, by simp only; omega, fun _ _ _ => by simp⟩
      · rw [if_neg c3]; exact ⟨by simp, by simp only; omega, fun _ _ _ => by simp⟩
    · rw [if_neg c2]
      refine ⟨Nat.le_refl _, he, fun hm h44 hlt => ?_⟩
      exfalso
      simp only [at_, List.getElem?_eq_getElem hlt, mk, isMark] at *
      simp at c1 c2 hm h44
      rcases hm with (h | h) | h
      · exact h44 h
      · exact c2 h
      · exact c1 h
def sRow (b : List UInt8) (i : Nat) : scan_Row := ⟨(fs b i).1.map (sField b), (endF b (fs b i).2).1⟩
def rRow (b : List UInt8) (i : Nat) : ref05_Row := ⟨(fs b i).1.map (rField b), (endF b (fs b i).2).1⟩
def nx (b : List UInt8) (i : Nat) : Nat := (endF b (fs b i).2).2
theorem sRowLoop (b : List UInt8) (hb : b.length ≤ 2000000) : ∀ n i acc, b.length ≤ i + n → i ≤ b.length → acc.length ≤ i → loop (scan_reader_row.l1 b) (((fe b i : Nat) : Int), acc ++ [sField b i]) = some ((((fsF b n i).2 : Nat) : Int), acc ++ (fsF b n i).1.map (sField b)) := by
  have stop : ∀ i acc, at_ b 44 (fe b i) = false → scan_reader_row.l1 b (((fe b i : Nat) : Int), acc) = some (.done (((fe b i : Nat) : Int), acc)) := fun i acc h => by
    unfold scan_reader_row.l1
    simp only
    rw [is_eq, bnd_some', h, if_neg (by simp)]
  intro n
  induction n with
  | zero =>
    intro i acc h hi hl
    obtain ⟨s1, s2, s3, s4, s5⟩ := fieldF_spec b hb i hi
    refine loop_done (stop i _ ?_)
    cases hc : at_ b 44 (fe b i) with
    | false => rfl
    | true => have := at_in hc; simp only [fe] at this; omega
  | succ n ih =>
    intro i acc h hi hl
    obtain ⟨s1, s2, s3, s4, s5⟩ := fieldF_spec b hb i hi
    have h0 : i ≤ fe b i := s1
    simp only [fsF]
    by_cases c : at_ b 44 (fe b i) = true
    · have hlt := at_in c
      rw [if_pos c]
      refine loop_next (s' := (((fe b (fe b i + 1) : Nat) : Int), (acc ++ [sField b i]) ++ [sField b (fe b i + 1)])) ?_ ?_
      · unfold scan_reader_row.l1
        simp only
        rw [is_eq, bnd_some', c, if_pos rfl, w64_id ⟨by omega, by omega⟩, show ((fe b i : Nat) : Int) + 1 = ((fe b i + 1 : Nat) : Int) by omega, sField_eq b hb _ (by omega), bnd_some', app_of (by simp; omega), bnd_some']
      · rw [ih (fe b i + 1) (acc ++ [sField b i]) (by omega) (by omega) (by simp; omega)]
        simp
    · rw [if_neg c]
      exact loop_done (stop i _ (by simpa using c))
theorem sRow_eq (b : List UInt8) (hb : b.length ≤ 2000000) (i : Nat) (hi : i ≤ b.length) : scan_reader_row b (i : Int) = some (sRow b i, ((nx b i : Nat) : Int)) := by
  obtain ⟨h1, h2, h3, h4, h5, h6⟩ := fsF_spec b hb b.length i (by omega) hi
  unfold scan_reader_row
  rw [sField_eq b hb i hi, bnd_some']
  have := sRowLoop b hb b.length i [] (by omega) hi (by simp)
  simp only [List.nil_append] at this
  simp only
  rw [this, bnd_some']
  simp only
  rw [end_eq b hb _ h2, bnd_some']
  rfl
theorem rRowLoop (b : List UInt8) (hb : b.length ≤ 2000000) : ∀ n i acc, b.length ≤ i + n → i ≤ b.length → acc.length ≤ i → loop (ref05_One.l1 b) ((i : Int), acc) = some ((((fsF b n i).2 : Nat) : Int), acc ++ (fsF b n i).1.map (rField b)) := by
  have one : ∀ (i : Nat) acc, i ≤ b.length → acc.length ≤ i → ref05_One.l1 b ((i : Int), acc) = some (if at_ b 44 (fe b i) = true then .next (((fe b i + 1 : Nat) : Int), acc ++ [rField b i]) else .done (((fe b i : Nat) : Int), acc ++ [rField b i])) := fun i acc hi hl => by
    obtain ⟨s1, s2, s3, s4, s5⟩ := fieldF_spec b hb i hi
    unfold ref05_One.l1
    simp only
    rw [rField_eq b hb i hi, bnd_some', app_of (by simp; omega), bnd_some']
    have e : w64 ((rField b i).fRaw.fAt + (rField b i).fRaw.fN) = ((fe b i : Nat) : Int) := by
      simp only [rField, fe]
      rw [w64_id ⟨by omega, by omega⟩]; omega
    rw [e]
    have e2 : (if ((fe b i : Nat) : Int) ≥ (b.length : Int) then some true else bnd (idx b ((fe b i : Nat) : Int)) fun x23 => some (!((x23.toNat : Int) == 44)) : Option Bool) = some (!(at_ b 44 (fe b i))) := by
      by_cases h : b.length ≤ fe b i
      · rw [if_pos (by omega)]
        simp [at_, List.getElem?_eq_none h]
      · have h' : fe b i < b.length := by omega
        rw [if_neg (by omega), idx_nat (List.getElem?_eq_getElem h'), bnd_some']
        simp only [at_, List.getElem?_eq_getElem h']
        congr 2
        rw [Bool.eq_iff_iff, beq_iff_eq, beq_iff_eq, u8_44, Option.some.injEq]
    rw [e2, bnd_some']
    cases hc : at_ b 44 (fe b i) with
    | true =>
      have := at_in hc
      rw [if_neg (by simp), if_pos rfl, w64_id ⟨by omega, by omega⟩]
      congr 3
    | false => rw [if_pos (by rfl), if_neg (by simp)]
  intro n
  induction n with
  | zero =>
    intro i acc h hi hl
    obtain ⟨s1, s2, s3, s4, s5⟩ := fieldF_spec b hb i hi
    refine loop_done ?_
    rw [one i acc hi hl, if_neg]
    · rfl
    · intro hc; have := at_in hc; simp only [fe] at this; omega
  | succ n ih =>
    intro i acc h hi hl
    obtain ⟨s1, s2, s3, s4, s5⟩ := fieldF_spec b hb i hi
    have h0 : i ≤ fe b i := s1
    simp only [fsF]
    by_cases c : at_ b 44 (fe b i) = true
    · have hlt := at_in c
      rw [if_pos c]
      refine loop_next (by rw [one i acc hi hl, if_pos c]) ?_
      rw [ih (fe b i + 1) (acc ++ [rField b i]) (by omega) (by omega) (by simp; omega)]
      simp
    · rw [if_neg c]
      exact loop_done (by rw [one i acc hi hl, if_neg c]; rfl)
theorem rRow_eq (b : List UInt8) (hb : b.length ≤ 2000000) (i : Nat) (hi : i < b.length) : ref05_One b (i : Int) = some (rRow b i, ((nx b i : Nat) : Int)) := by
  obtain ⟨h1, h2, h3, h4, h5, h6⟩ := fsF_spec b hb b.length i (by omega) (by omega)
  unfold ref05_One
  rw [if_neg (by omega), decide_eq_false (by omega), bnd_some', if_neg (by simp)]
  have := rRowLoop b hb b.length i [] (by omega) (by omega) (by simp)
  simp only [List.nil_append] at this
  rw [this, bnd_some']
  unfold rRow nx
  rw [show fs b i = fsF b b.length i from rfl]
  generalize fsF b b.length i = r at *
  obtain ⟨L, e⟩ := r
  simp only at *
  unfold endF
  have q : ∀ (c : UInt8) (n : Nat), (c.toNat = n) → ∀ x : UInt8, ((x.toNat : Int) == (n : Int)) = (x == c) := fun c n hc x => by
    rw [Bool.eq_iff_iff, beq_iff_eq, beq_iff_eq, ← u8n, hc]
  have e10 : (if (e : Int) < (b.length : Int) then bnd (idx b (e : Int)) fun x27 => some ((x27.toNat : Int) == 10) else some false : Option Bool) = some (at_ b 10 e) := by
    by_cases h : e < b.length
    · rw [if_pos (by omega), idx_nat (List.getElem?_eq_getElem h), bnd_some']
      simp only [at_, List.getElem?_eq_getElem h]
      rw [show ((10 : Int)) = ((10 : Nat) : Int) from rfl, q 10 10 rfl]
      simp
    · rw [if_neg (by omega)]; simp [at_, List.getElem?_eq_none (show b.length ≤ e by omega)]
  rw [e10, bnd_some']
  by_cases c1 : at_ b 10 e = true
  · rw [if_pos c1, if_pos c1, w64_id ⟨by omega, by omega⟩]; rfl
  · rw [if_neg c1, if_neg c1, w64_id (x := (e : Int) + 1) ⟨by omega, by omega⟩]
    have e13 : (if (e : Int) + 1 < (b.length : Int) then bnd (idx b (e : Int)) fun x31 => if (x31.toNat : Int) = 13 then bnd (idx b ((e : Int) + 1)) fun x33 => some ((x33.toNat : Int) == 10) else some false else some false : Option Bool) = some (at_ b 13 e && at_ b 10 (e + 1)) := by
      by_cases h : e + 1 < b.length
      · have h' : e < b.length := by omega
        rw [if_pos (by omega), idx_nat (List.getElem?_eq_getElem h'), bnd_some', show (e : Int) + 1 = ((e + 1 : Nat) : Int) by omega, idx_nat (List.getElem?_eq_getElem h), bnd_some']
        simp only [at_, List.getElem?_eq_getElem h, List.getElem?_eq_getElem h']
        rw [show ((10 : Int)) = ((10 : Nat) : Int) from rfl, q 10 10 rfl]
        simp only [u8_13]
        by_cases c : b[e] = 13
        · simp [c]
        · simp [c]
      · rw [if_neg (by omega)]
        have : at_ b 10 (e + 1) = false := by simp [at_, List.getElem?_eq_none (show b.length ≤ e + 1 by omega)]
        rw [this]; simp
    rw [e13, bnd_some']
    by_cases c2 : at_ b 13 e = true
    · have := at_in c2
      rw [if_pos c2, c2]
      by_cases c3 : at_ b 10 (e + 1) = true
      · rw [if_pos c3, c3, if_pos (by rfl), w64_id ⟨by omega, by omega⟩]; rfl
      · rw [if_neg c3, if_neg (by simpa using c3), if_pos (by omega)]; rfl
    · have hlt : ¬ e < b.length := by
        intro hlt
        simp only [at_, List.getElem?_eq_getElem hlt, mk, isMark] at *
        simp at c1 c2 h3 h4
        rcases h3 with (h | h) | h
        · exact h4 h
        · exact c2 h
        · exact c1 h
      rw [if_neg c2, if_neg (by simp [c2]), if_neg (by omega)]
theorem nx_lt (b : List UInt8) (hb : b.length ≤ 2000000) (i : Nat) (hi : i < b.length) : i < nx b i ∧ nx b i ≤ b.length := by
  obtain ⟨h1, h2, h3, h4, h5, h6⟩ := fsF_spec b hb b.length i (by omega) (by omega)
  obtain ⟨g1, g2, g3⟩ := endF_spec b (fs b i).2 h2
  refine ⟨?_, g2⟩
  rcases Nat.lt_or_ge (fs b i).2 b.length with h | h
  · have := g3 h3 h4 h
    have h1' : i ≤ (fs b i).2 := h1
    simp only [nx]; omega
  · simp only [nx]; omega
/-- Where rows begin. -/
def rsF (b : List UInt8) : Nat → Nat → List Nat
  | 0, _ => []
  | n + 1, i => if i < b.length then i :: rsF b n (nx b i) else []
theorem sAllLoop (b : List UInt8) (hb : b.length ≤ 2000000) : ∀ n i acc, b.length ≤ i + n → i ≤ b.length → acc.length ≤ i → loop (scan_All.l1 b) (acc, (i : Int)) = some (acc ++ (rsF b n i).map (sRow b)) := by
  have stop : ∀ (i : Nat) acc, b.length ≤ i → scan_All.l1 b (acc, (i : Int)) = some (.done acc) := fun i acc h => by
    unfold scan_All.l1
    simp only
    rw [done_eq, bnd_some', decide_eq_true h, if_pos rfl]
  intro n
  induction n with
  | zero => intro i acc h hi hl; rw [show acc ++ (rsF b 0 i).map (sRow b) = acc by simp [rsF]]; exact loop_done (stop i acc (by omega))
  | succ n ih =>
    intro i acc h hi hl
    simp only [rsF]
    by_cases c : i < b.length
    · rw [if_pos c]
      obtain ⟨n1, n2⟩ := nx_lt b hb i c
      refine loop_next (s' := (acc ++ [sRow b i], ((nx b i : Nat) : Int))) ?_ ?_
      · unfold scan_All.l1
        simp only
        rw [done_eq, bnd_some', decide_eq_false (by omega), if_neg (by simp), sRow_eq b hb i hi, bnd_some', app_of (by simp; omega), bnd_some']
      · rw [ih _ _ (by omega) n2 (by simp; omega)]; simp
    · rw [if_neg c, show acc ++ List.map (sRow b) [] = acc by simp]; exact loop_done (stop i acc (by omega))
def rs (b : List UInt8) : List Nat := rsF b b.length 0
theorem sAll_eq (b : List UInt8) (hb : b.length ≤ 2000000) : scan_All b = some ((rs b).map (sRow b)) := by
  unfold scan_All
  have := sAllLoop b hb b.length 0 [] (by omega) (by omega) (by simp)
  rw [show ((0 : Nat) : Int) = 0 from rfl] at this
  rw [this, bnd_some']; rfl
theorem starts_spec (b : List UInt8) (hb : b.length ≤ 2000000) (i : Nat) (hi : i ≤ b.length) : (∀ j ∈ (fs b i).1, j ≤ b.length) ∧ (fs b i).1.length ≤ 2000001 := by
  obtain ⟨h1, h2, h3, h4, h5, h6⟩ := fsF_spec b hb b.length i (by omega) hi
  exact ⟨h5, by have : (fs b i).1.length ≤ b.length + 1 - i := h6
                omega⟩
def bytesAt (b : List UInt8) (p : List Int) : List UInt8 := p.filterMap fun x => b[x.toNat]?
theorem bytesAt_append (b : List UInt8) (p r : List Int) : bytesAt b (p ++ r) = bytesAt b p ++ bytesAt b r := by simp [bytesAt]
theorem bytesAt_len (b : List UInt8) (p : List Int) : (bytesAt b p).length ≤ p.length := List.length_filterMap_le _ _
theorem take_one (b : List UInt8) (n : Nat) (h : n < b.length) : b.take (n + 1) = b.take n ++ [b[n]] := List.take_succ_eq_append_getElem h
theorem bytes_range (b : List UInt8) (a : Nat) : ∀ n, a + n ≤ b.length → (b.take (a + n)).drop a = bytesAt b (rangeI (a : Int) n)
  | 0, h => by rw [List.drop_eq_nil_of_le (by simp; omega)]; rfl
  | n + 1, h => by
    rw [← Nat.add_assoc, take_one b (a + n) (by omega), List.drop_append_of_le_length (by simp; omega), bytes_range b a n (by omega), rangeI_succ, bytesAt_append]
    congr 1
    simp only [bytesAt, List.filterMap_cons, List.filterMap_nil]
    rw [show ((a : Int) + (n : Int)).toNat = a + n by omega, List.getElem?_eq_getElem (by omega)]
theorem text_eq (b : List UInt8) (hb : b.length ≤ 2000000) (p : List Int) (hp : ∀ x ∈ p, 0 ≤ x ∧ x < (b.length : Int)) (hl : p.length ≤ 2000000) : ref05_Text b p = some (bytesAt b p) := by
  have h := loop_fold (f := ref05_Text.l1 b p) (fun i (s : List UInt8) => (s, i)) p (fun pre => bytesAt b pre) (t := bytesAt b p)
    (fun pre x suf hs => by
      have hx := hp x (by rw [hs]; simp)
      have hpl : pre.length + 1 ≤ p.length := by rw [hs]; simp
      have hbl := bytesAt_len b pre
      unfold ref05_Text.l1
      simp only
      rw [if_pos (by omega), show idx p (pre.length : Int) = some x by rw [hs]; exact idx_at pre x suf, bnd_some', w64_id (x := x + 1) ⟨by omega, by omega⟩, cut_of ⟨by omega, by omega, by omega⟩, bnd_some', w64_id ⟨by omega, by omega⟩]
      have e : (b.take (x + 1).toNat).drop x.toNat = bytesAt b [x] := by
        have := bytes_range b x.toNat 1 (by omega)
        rw [show (x + 1).toNat = x.toNat + 1 by omega, this, show rangeI ((x.toNat : Nat) : Int) 1 = [x] by simp [rangeI]; omega]
      rw [e, bytesAt_append]
      have hl1 := bytesAt_len b [x]
      simp only [List.length_cons, List.length_nil] at hl1
      rw [catS, if_pos (by omega), bnd_some'])
    (by
      unfold ref05_Text.l1
      simp only
      rw [if_neg (by omega)])
  unfold ref05_Text
  have h' : loop (ref05_Text.l1 b p) ([], 0) = some (bytesAt b p) := by simpa [bytesAt] using h
  rw [h', bnd_some']
theorem rAllLoop (b : List UInt8) (hb : b.length ≤ 2000000) : ∀ n i acc, b.length ≤ i + n → i ≤ b.length → acc.length ≤ i → loop (ref05_All.l1 b) ((i : Int), acc) = some (acc ++ (rsF b n i).map (rRow b)) := by
  have stop : ∀ (i : Nat) acc, b.length ≤ i → ref05_All.l1 b ((i : Int), acc) = some (.done acc) := fun i acc h => by
    unfold ref05_All.l1
    simp only
    rw [if_neg (by omega)]
  intro n
  induction n with
  | zero => intro i acc h hi hl; rw [show acc ++ (rsF b 0 i).map (rRow b) = acc by simp [rsF]]; exact loop_done (stop i acc (by omega))
  | succ n ih =>
    intro i acc h hi hl
    simp only [rsF]
    by_cases c : i < b.length
    · rw [if_pos c]
      obtain ⟨n1, n2⟩ := nx_lt b hb i c
      refine loop_next (s' := (((nx b i : Nat) : Int), acc ++ [rRow b i])) ?_ ?_
      · unfold ref05_All.l1
        simp only
        rw [if_pos (by omega), rRow_eq b hb i c, bnd_some', app_of (by simp; omega), bnd_some']
      · rw [ih _ _ (by omega) n2 (by simp; omega)]; simp
    · rw [if_neg c, show acc ++ List.map (rRow b) [] = acc by simp]; exact loop_done (stop i acc (by omega))
theorem rAll_eq (b : List UInt8) (hb : b.length ≤ 2000000) : ref05_All b = some ((rs b).map (rRow b)) := by
  unfold ref05_All
  have := rAllLoop b hb b.length 0 [] (by omega) (by omega) (by simp)
  rw [show ((0 : Nat) : Int) = 0 from rfl] at this
  rw [this, bnd_some']; rfl
def InA (r : List Int) (a : List UInt8) : Prop := ∀ x ∈ r, 0 ≤ x ∧ x < (a.length : Int)
theorem inA_good {r : List Int} {a : List UInt8} (h : InA r a) (ha : a.length ≤ 2000000) : GoodP r := fun x hx => by have := h x hx; omega
theorem bytesA_range {s : arena_Span} {a : List UInt8} (h0 : 0 ≤ s.fAt) (h1 : 0 ≤ s.fN) (h2 : s.fAt + s.fN ≤ a.length) : bytesA s a = bytesAt a (exp1 s) ∧ rightA s a = true := by
  have hr : rightA s a = true := by unfold rightA; simp only [decide_eq_true_eq]; omega
  refine ⟨?_, hr⟩
  unfold bytesA
  rw [if_pos hr]
  have := bytes_range a s.fAt.toNat s.fN.toNat (by omega)
  rw [show (s.fAt + s.fN).toNat = s.fAt.toNat + s.fN.toNat by omega, this, exp1, show ((s.fAt.toNat : Nat) : Int) = s.fAt by omega]
theorem exp1_last {x : arena_Span} (h : 1 ≤ x.fN) : x.fAt + ((x.fN.toNat - 1 : Nat) : Int) ∈ exp1 x := by
  simp only [exp1, rangeI, List.mem_map, List.mem_range]
  exact ⟨x.fN.toNat - 1, by omega, rfl⟩
theorem Flat_eq (t : piece_Text) (r : List Int) (a : List UInt8) (ht : t.fL = canon r) (hr : InA r a) (ha : a.length ≤ 2000000) (hl : r.length ≤ 2000000) : piece_Text_Flat t a = some (bytesAt a r) := by
  have p1 := inA_good hr ha
  have hc := canon_len r
  have hg := canon_good r p1
  have h := loop_fold (f := piece_Text_Flat.l1 t a) (fun k (s : List UInt8) => (k, s)) (canon r) (fun pre => bytesAt a (expand pre)) (t := bytesAt a r)
    (fun pre x suf hs => by
      obtain ⟨g1, g2, g3⟩ := exp_sub p1 (show canon r = pre ++ (x :: suf) from hs)
      have hx : Good x := hg x (by rw [hs]; simp)
      simp only [Good] at hx
      have hpl : pre.length + 1 ≤ (canon r).length := by rw [hs]; simp
      have hbl := bytesAt_len a (expand pre)
      have hin : x.fAt + x.fN ≤ (a.length : Int) := by
        have := hr (x.fAt + ((x.fN.toNat - 1 : Nat) : Int)) (by
          rw [g3, show x :: suf = [x] ++ suf from rfl, expand_append, expand_one]
          simp only [List.mem_append]
          exact .inr (.inl (exp1_last (by omega))))
        omega
      obtain ⟨e1, e2⟩ := bytesA_range (s := x) (a := a) (by omega) (by omega) hin
      have hl1 := bytesAt_len a (exp1 x)
      have hl2 : (exp1 x).length = x.fN.toNat := rangeI_len _ _
      unfold piece_Text_Flat.l1
      rw [ht]
      simp only
      rw [if_pos (by omega), show idx (canon r) (pre.length : Int) = some x by rw [hs]; exact idx_at pre x suf, bnd_some', Bytes_eq _ _ (by omega), bnd_some', e1, app_of (by omega), bnd_some', w64_id ⟨by omega, by omega⟩, expand_append, expand_one, bytesAt_append])
    (by
      unfold piece_Text_Flat.l1
      rw [ht]
      simp only
      rw [if_neg (by omega), canon_expand r p1])
  unfold piece_Text_Flat
  have h' : loop (piece_Text_Flat.l1 t a) (0, []) = some (bytesAt a r) := by simpa [bytesAt, expand] using h
  rw [h', bnd_some']
theorem OfG_eq (fa : List arena_Span) (h1 : fa.length ≤ 2000000) (h2 : ∀ s ∈ fa, 1 ≤ s.fN → Good s) (hp : GoodP (expand fa)) (hl : (expand fa).length ≤ 2000000) : piece_Of fa = some (tOf (expand fa)) := by
  have h : loop (piece_Of.l1 fa) (0, 0, []) = some (((expand fa).length : Int), canon (expand fa)) := by
    refine loop_fold (f := piece_Of.l1 fa) (fun i (s : Int × List arena_Span) => (i, s)) fa (fun pre => (((expand pre).length : Int), canon (expand pre))) (t := (((expand fa).length : Int), canon (expand fa))) ?_ ?_
    · intro pre x suf hs
      have hpre : GoodP (expand pre) ∧ (expand pre).length ≤ (expand fa).length := by
        have e : expand fa = expand pre ++ expand (x :: suf) := by rw [hs, expand_append]
        exact ⟨fun y hy => hp y (by rw [e]; exact List.mem_append.2 (.inl hy)), by rw [e]; simp⟩
      have h1' : pre.length + 1 ≤ fa.length := by rw [hs]; simp
      have hc := canon_len (expand pre)
      unfold piece_Of.l1
      simp only
      rw [if_pos (by omega), show idx fa (pre.length : Int) = some x by rw [hs]; exact idx_at pre x suf, bnd_some', with_eq x _ _ (canon_good _ hpre.1) (h2 x (by rw [hs]; simp)) ⟨by omega, by omega⟩ (by omega), bnd_some', w64_id ⟨by omega, by omega⟩, expand_append, expand_one]
      simp only [addS_exp]
      rw [show (exp1 x).foldl addI (canon (expand pre)) = canon (expand pre ++ exp1 x) by simp [canon, List.foldl_append]]
      simp [exp1, rangeI_len]
    · unfold piece_Of.l1
      simp only
      rw [if_neg (by omega)]
  unfold piece_Of
  rw [h, bnd_some']
  rfl
/-- The text of spans side by side. -/
theorem OfC_eq (r : List Int) (hr : GoodP r) (hl : r.length ≤ 2000000) : piece_Of (canon r) = some (tOf r) := by
  have hc := canon_len r
  have he := canon_expand r hr
  have := OfG_eq (canon r) (by omega) (fun s hs _ => canon_good r hr s hs) (by rw [he]; exact hr) (by rw [he]; exact hl)
  rw [this, he]
theorem PLen_eq (r : List Int) : piece_Text_Len (tOf r) = some (r.length : Int) := rfl
theorem CBytes_eq (r : List Int) (raw : arena_Span) (k : Bool) (a : List UInt8) (hr : InA r a) (ha : a.length ≤ 16384) (hl : r.length ≤ 2000000) : cell_Cell_Bytes ⟨tOf r, raw, k⟩ a = some (bytesAt a r) := by
  unfold cell_Cell_Bytes
  rw [Flat_eq (tOf r) r a rfl hr (by omega) hl, bnd_some']
theorem Plain_eq (r : List Int) (raw : arena_Span) (k : Bool) (a : List UInt8) (hr : InA r a) (ha : a.length ≤ 16384) (hl : r.length ≤ 2000000) : law07_Plain ⟨tOf r, raw, k⟩ a = some ⟨bytesAt a r, if k = true then bytesA raw a else [], k⟩ := by
  unfold law07_Plain
  rw [CBytes_eq r raw k a hr ha hl, bnd_some']
  dsimp only
  cases k with
  | true => rw [if_pos rfl, if_pos rfl, Bytes_eq _ _ (by omega), bnd_some', bnd_some']
  | false => rw [if_neg (by simp), if_neg (by simp), bnd_some']
theorem PlainK_eq (r : List Int) (raw : arena_Span) (a : List UInt8) (hr : InA r a) (ha : a.length ≤ 16384) (hl : r.length ≤ 2000000) : law07_Plain ⟨tOf r, raw, true⟩ a = some ⟨bytesAt a r, bytesA raw a, true⟩ := by
  rw [Plain_eq r raw true a hr ha hl, if_pos rfl]
theorem Load_eq (r : List Int) (raw : arena_Span) (k : Int) (hr : GoodP r) (hl : r.length ≤ 2000000) : cell_Load ⟨raw, k, canon r⟩ = some ⟨tOf r, raw, true⟩ := by
  unfold cell_Load
  rw [OfC_eq r hr hl, bnd_some']
theorem set_at {α : Type} (l : List α) (x y : α) (r : List α) (n : Nat) (h : n = l.length) : (l ++ x :: r).set n y = l ++ y :: r := by
  subst h
  induction l with
  | nil => rfl
  | cons a l ih => simp
def zc : cell_Cell := ⟨⟨[], 0⟩, ⟨0, 0⟩, false⟩
def kc (w : List UInt8) (j : Nat) : cell_Cell := ⟨tOf (fieldF w j).2.1, ⟨(j : Int), (((fieldF w j).2.2 - j : Nat) : Int)⟩, true⟩
def pc (w : List UInt8) (j : Nat) : ref07_Cell := ⟨bytesAt w (fieldF w j).2.1, (w.take (fieldF w j).2.2).drop j, true⟩
def short (w : List UInt8) (j : Nat) : Bool := decide ((fieldF w j).2.1.length ≤ 400)
theorem kc_eq (w : List UInt8) (hb : w.length ≤ 16384) (j : Nat) (hj : j ≤ w.length) : cell_Load (sField w j) = some (kc w j) := by
  obtain ⟨f1, f2, f3, f4, f5⟩ := fieldF_spec w (by omega) j hj
  exact Load_eq (fieldF w j).2.1 ⟨(j : Int), (((fieldF w j).2.2 - j : Nat) : Int)⟩ (fieldF w j).1 (inA_good f4 (by omega)) (by omega)
theorem rawA (w : List UInt8) (hb : w.length ≤ 16384) (j : Nat) (hj : j ≤ w.length) : bytesA ⟨(j : Int), (((fieldF w j).2.2 - j : Nat) : Int)⟩ w = (w.take (fieldF w j).2.2).drop j := by
  obtain ⟨f1, f2, f3, f4, f5⟩ := fieldF_spec w (by omega) j hj
  have hr : rightA ⟨(j : Int), (((fieldF w j).2.2 - j : Nat) : Int)⟩ w = true := by unfold rightA; simp only [decide_eq_true_eq]; omega
  unfold bytesA
  rw [if_pos hr]
  dsimp only
  rw [show ((j : Int) + (((fieldF w j).2.2 - j : Nat) : Int)).toNat = (fieldF w j).2.2 by omega, Int.toNat_natCast]
theorem kc_plain (w : List UInt8) (hb : w.length ≤ 16384) (j : Nat) (hj : j ≤ w.length) : law07_Plain (kc w j) w = some (pc w j) := by
  obtain ⟨f1, f2, f3, f4, f5⟩ := fieldF_spec w (by omega) j hj
  have h := PlainK_eq (fieldF w j).2.1 ⟨(j : Int), (((fieldF w j).2.2 - j : Nat) : Int)⟩ w f4 (by omega) (by omega)
  rw [rawA w hb j hj] at h
  exact h
/-- What a loaded row is: 40 cells at most, of 400 bytes at most. -/
def ldR (w : List UInt8) (i : Nat) : row_Row × Int := if (fs w i).1.length > 40 then (⟨[], 0, false⟩, 6) else if (fs w i).1.all (short w) = true then (⟨(fs w i).1.map (kc w), (sRow w i).fEnd, false⟩, 0) else (⟨[], 0, false⟩, 7)
def ldP (w : List UInt8) (i : Nat) : ref08_Row × Int := if (fs w i).1.length > 40 then (⟨[], 0, false⟩, 6) else if (fs w i).1.all (short w) = true then (⟨(fs w i).1.map (pc w), (sRow w i).fEnd, false⟩, 0) else (⟨[], 0, false⟩, 7)
theorem rowLoad_eq (w : List UInt8) (hb : w.length ≤ 16384) (i : Nat) (hi : i ≤ w.length) : row_Load (sRow w i) = some (ldR w i) := by
  obtain ⟨st1, st2⟩ := starts_spec w (by omega) i hi
  unfold row_Load ldR
  rw [show (sRow w i).fFields = (fs w i).1.map (sField w) from rfl, List.length_map]
  by_cases h40 : (fs w i).1.length > 40
  · rw [if_pos (by omega), if_pos h40]
  · rw [if_neg (by omega), if_neg h40, mkz_of (by omega), bnd_some', Int.toNat_natCast]
    obtain ⟨t, t1, t2⟩ := loop_for (f := row_Load.l1 (sRow w i)) (σ := List cell_Cell) (fun k s => (k, s)) (fs w i).1
      (fun pre s => s = pre.map (kc w) ++ List.replicate ((fs w i).1.length - pre.length) zc ∧ pre.all (short w) = true)
      (fun t => (fs w i).1.all (short w) = true ∧ t = Ex.brk ((fs w i).1.map (kc w)) ∨ (fs w i).1.all (short w) = false ∧ t = Ex.ret (⟨[], 0, false⟩, 7))
      (fun pre j suf s hs hI => by
        obtain ⟨hI1, hI2⟩ := hI
        have hlen : (fs w i).1.length = pre.length + (suf.length + 1) := by rw [hs]; simp
        have hj : j ≤ w.length := st1 j (by rw [hs]; simp)
        have hidx : idx (fs w i).1 (pre.length : Int) = some j := by rw [hs]; exact idx_at pre j suf
        rw [show (fs w i).1.length - pre.length = suf.length + 1 by omega, List.replicate_succ] at hI1
        have hx : idx s (pre.length : Int) = some zc := by rw [hI1]; exact idx_of (by rw [List.getElem?_append_right (by simp)]; simp)
        have hset : s.set pre.length (kc w j) = pre.map (kc w) ++ kc w j :: List.replicate suf.length zc := by rw [hI1]; exact set_at _ _ _ _ _ (by simp)
        have hx2 : idx (s.set pre.length (kc w j)) (pre.length : Int) = some (kc w j) := by rw [hset]; exact idx_of (by rw [List.getElem?_append_right (by simp)]; simp)
        unfold row_Load.l1
        simp only
        rw [show (sRow w i).fFields = (fs w i).1.map (sField w) from rfl, if_pos (by simp; omega), idx_map, hidx]
        simp only [Option.map_some, bnd_some']
        rw [kc_eq w hb j hj, bnd_some', hx, bnd_some', Int.toNat_natCast, hx2, bnd_some', show (kc w j).fText = tOf (fieldF w j).2.1 from rfl, PLen_eq, bnd_some']
        by_cases hsh : short w j = true
        · have hsh' := hsh
          unfold short at hsh'
          simp only [decide_eq_true_eq] at hsh'
          rw [if_neg (by omega), w64_id ⟨by omega, by omega⟩]
          refine .inl ⟨_, rfl, ?_, by simp [hI2, hsh]⟩
          rw [hset, show (fs w i).1.length - (pre ++ [j]).length = suf.length by simp; omega]
          simp
        · have hsh' := hsh
          unfold short at hsh'
          simp only [decide_eq_true_eq] at hsh'
          rw [if_pos (by omega)]
          refine .inr ⟨_, rfl, .inr ⟨?_, rfl⟩⟩
          rw [hs]; simp [hsh])
      (fun s hI => by
        obtain ⟨hI1, hI2⟩ := hI
        refine ⟨Ex.brk s, ?_, .inl ⟨hI2, ?_⟩⟩
        · unfold row_Load.l1
          simp only
          rw [show (sRow w i).fFields = (fs w i).1.map (sField w) from rfl, if_neg (by simp)]
        · rw [hI1]; simp) (s0 := List.replicate (fs w i).1.length zc) ⟨by simp, by simp⟩
    rw [show (⟨⟨[], 0⟩, ⟨0, 0⟩, false⟩ : cell_Cell) = zc from rfl, t1, bnd_some']
    rcases t2 with ⟨q, rfl⟩ | ⟨q, rfl⟩
    · dsimp only; rw [if_pos q]
    · dsimp only; rw [if_neg (by rw [q]; decide)]
theorem refLoad_eq (w : List UInt8) (hb : w.length ≤ 16384) (i : Nat) (hi : i ≤ w.length) : ref08_Load w (rRow w i) = some (ldP w i) := by
  obtain ⟨st1, st2⟩ := starts_spec w (by omega) i hi
  unfold ref08_Load ldP
  rw [show (rRow w i).fFields = (fs w i).1.map (rField w) from rfl, List.length_map]
  by_cases h40 : (fs w i).1.length > 40
  · rw [if_pos (by omega), if_pos h40]
  · rw [if_neg (by omega), if_neg h40]
    obtain ⟨t, t1, t2⟩ := loop_for (f := ref08_Load.l1 w (rRow w i)) (σ := List ref07_Cell) (fun k s => (k, s)) (fs w i).1
      (fun pre s => s = pre.map (pc w) ∧ pre.all (short w) = true)
      (fun t => (fs w i).1.all (short w) = true ∧ t = Ex.brk ((fs w i).1.map (pc w)) ∨ (fs w i).1.all (short w) = false ∧ t = Ex.ret (⟨[], 0, false⟩, 7))
      (fun pre j suf s hs hI => by
        obtain ⟨hI1, hI2⟩ := hI
        have hlen : (fs w i).1.length = pre.length + (suf.length + 1) := by rw [hs]; simp
        have hj : j ≤ w.length := st1 j (by rw [hs]; simp)
        have hidx : idx (fs w i).1 (pre.length : Int) = some j := by rw [hs]; exact idx_at pre j suf
        obtain ⟨f1, f2, f3, f4, f5⟩ := fieldF_spec w (by omega) j hj
        have hcut : cut w (j : Int) (w64 ((j : Int) + (((fieldF w j).2.2 - j : Nat) : Int))) = some ((w.take (fieldF w j).2.2).drop j) := by
          rw [w64_id ⟨by omega, by omega⟩, cut_of ⟨by omega, by omega, by omega⟩]
          rw [show ((j : Int) + (((fieldF w j).2.2 - j : Nat) : Int)).toNat = (fieldF w j).2.2 by omega, Int.toNat_natCast]
        unfold ref08_Load.l1
        simp only
        rw [show (rRow w i).fFields = (fs w i).1.map (rField w) from rfl, if_pos (by simp; omega), idx_map, hidx]
        simp only [Option.map_some, bnd_some']
        rw [show (rField w j).fRaw = ⟨(j : Int), (((fieldF w j).2.2 - j : Nat) : Int)⟩ from rfl, show (rField w j).fBytes = (fieldF w j).2.1 from rfl]
        dsimp only
        by_cases hsh : short w j = true
        · have hsh' := hsh
          unfold short at hsh'
          simp only [decide_eq_true_eq] at hsh'
          rw [if_neg (by omega), text_eq w (by omega) _ f4 (by omega), bnd_some', hcut, bnd_some', app_of (by rw [hI1]; simp; omega), bnd_some', w64_id ⟨by omega, by omega⟩]
          refine .inl ⟨_, rfl, ?_, by simp [hI2, hsh]⟩
          rw [hI1]; simp [pc]
        · have hsh' := hsh
          unfold short at hsh'
          simp only [decide_eq_true_eq] at hsh'
          rw [if_pos (by omega)]
          refine .inr ⟨_, rfl, .inr ⟨?_, rfl⟩⟩
          rw [hs]; simp [hsh])
      (fun s hI => by
        obtain ⟨hI1, hI2⟩ := hI
        refine ⟨Ex.brk s, ?_, .inl ⟨hI2, ?_⟩⟩
        · unfold ref08_Load.l1
          simp only
          rw [show (rRow w i).fFields = (fs w i).1.map (rField w) from rfl, if_neg (by simp)]
        · rw [hI1]) (s0 := []) ⟨rfl, rfl⟩
    rw [t1, bnd_some']
    rcases t2 with ⟨q, rfl⟩ | ⟨q, rfl⟩
    · dsimp only; rw [if_pos q]; rfl
    · dsimp only; rw [if_neg (by rw [q]; decide)]
end Go.Proofs.Ytpmhiiemklhbhaa.S
