/- Plain facts for one law: printed by prune.py out of Ba2 Tv2 Gr2 Gro Grp Grq Grs Grt CoK. -/
import Derived.Test.YtpmhiiemklhbhaaGreatG0
import Derived.Test.YtpmhiiemklhbhaaGreatG1xa
import Derived.Test.YtpmhiiemklhbhaaGreatG1xb
import Derived.Test.YtpmhiiemklhbhaaGreatG1xc
import Derived.Test.YtpmhiiemklhbhaaGreatG1xd
import Derived.Test.YtpmhiiemklhbhaaGreatSD
set_option linter.unusedVariables false
namespace Go.Proofs.YtpmhiiemklhbhaaGreat.S
open Go Go.Sm
def rangeI (a : Int) (n : Nat) : List Int := (List.range n).map fun i : Nat => a + (i : Int)
theorem rangeI_succ (a : Int) (n : Nat) : rangeI a (n + 1) = rangeI a n ++ [a + (n : Int)] := by simp [rangeI, List.range_succ]
theorem rangeI_len (a : Int) (n : Nat) : (rangeI a n).length = n := by simp [rangeI]
theorem rangeI_add (a : Int) (m : Nat) : ∀ n : Nat, rangeI a (m + n) = rangeI a m ++ rangeI (a + (m : Int)) n
  | 0 => by simp [rangeI]
  | n + 1 => by rw [← Nat.add_assoc, rangeI_succ, rangeI_add a m n, rangeI_succ, List.append_assoc]; congr 2; simp; omega
def exp1 (s : arena_Span) : List Int := rangeI s.fAt s.fN.toNat
def expand (L : List arena_Span) : List Int := L.flatMap exp1
theorem expand_append (L M : List arena_Span) : expand (L ++ M) = expand L ++ expand M := by simp [expand]
theorem expand_one (s : arena_Span) : expand [s] = exp1 s := by simp [expand]
/-- One span more. -/
def addS (L : List arena_Span) (s : arena_Span) : List arena_Span :=
  if s.fN < 1 then L else match L.getLast? with
    | none => [s]
    | some k => if k.fAt + k.fN = s.fAt then L.dropLast ++ [⟨k.fAt, k.fN + s.fN⟩] else L ++ [s]
theorem addS_nil {s : arena_Span} (h : ¬ s.fN < 1) : addS [] s = [s] := by simp [addS, h]
theorem addS_less {L : List arena_Span} {s : arena_Span} (h : s.fN < 1) : addS L s = L := by simp [addS, h]
theorem addS_snoc {L : List arena_Span} {k s : arena_Span} (h : ¬ s.fN < 1) : addS (L ++ [k]) s = if k.fAt + k.fN = s.fAt then L ++ [⟨k.fAt, k.fN + s.fN⟩] else L ++ [k] ++ [s] := by simp [addS, h]
def addI (L : List arena_Span) (x : Int) : List arena_Span := addS L ⟨x, 1⟩
def canon (r : List Int) : List arena_Span := r.foldl addI []
theorem snoc_cases (L : List arena_Span) : L = [] ∨ ∃ M k, L = M ++ [k] := by
  rcases List.eq_nil_or_concat L with h | ⟨M, k, h⟩
  · exact .inl h
  · exact .inr ⟨M, k, by simpa using h⟩
theorem addI_range (a : Int) (L : List arena_Span) : ∀ n : Nat, (rangeI a n).foldl addI L = addS L ⟨a, n⟩
  | 0 => by rw [addS_less (by simp)]; rfl
  | n + 1 => by
    rw [rangeI_succ, List.foldl_append, addI_range a L n]
    simp only [List.foldl_cons, List.foldl_nil, addI]
    have h1 : ¬ ((1 : Int) < 1) := by omega
    have h2 : ¬ ((((n + 1 : Nat) : Int)) < 1) := by omega
    cases n with
    | zero => rw [addS_less (L := L) (s := ⟨a, ((0 : Nat) : Int)⟩) (by simp)]; simp
    | succ n =>
      have h3 : ¬ ((((n + 1 : Nat) : Int)) < 1) := by omega
      rcases snoc_cases L with rfl | ⟨M, k, rfl⟩
      · rw [addS_nil h3, addS_nil h2, show [(⟨a, ((n + 1 : Nat) : Int)⟩ : arena_Span)] = [] ++ [⟨a, ((n + 1 : Nat) : Int)⟩] from rfl, addS_snoc h1]
        simp only [List.nil_append]
        rw [if_pos trivial]; simp
      · rw [addS_snoc h3, addS_snoc h2]
        by_cases hk : k.fAt + k.fN = a
        · rw [if_pos hk, if_pos hk, addS_snoc h1]
          simp only
          rw [if_pos (by omega)]
          simp; omega
        · rw [if_neg hk, if_neg hk, addS_snoc h1]
          simp only
          rw [if_pos trivial]; simp
theorem addS_exp (L : List arena_Span) (s : arena_Span) : addS L s = (exp1 s).foldl addI L := by
  unfold exp1
  rw [addI_range]
  by_cases h : s.fN < 1
  · rw [addS_less h, addS_less (by simp; omega)]
  · rw [Int.toNat_of_nonneg (by omega)]
/-- Spans that may be: their numbers are small. -/
def Good (s : arena_Span) : Prop := 0 ≤ s.fAt ∧ 1 ≤ s.fN ∧ s.fAt + s.fN ≤ 2097152
theorem addS_good {L : List arena_Span} {s : arena_Span} (hL : ∀ k ∈ L, Good k) (hs : 1 ≤ s.fN → Good s) : ∀ k ∈ addS L s, Good k := by
  by_cases h : s.fN < 1
  · rw [addS_less h]; exact hL
  · have hs' := hs (by omega)
    rcases snoc_cases L with rfl | ⟨M, k, rfl⟩
    · rw [addS_nil h]; simpa using hs'
    · rw [addS_snoc h]
      split
      · rename_i hk
        intro x hx
        rcases List.mem_append.1 hx with hx | hx
        · exact hL x (List.mem_append_left _ hx)
        · have := hL k (by simp)
          simp at hx; subst hx
          simp only [Good] at this hs' ⊢
          omega
      · intro x hx
        rcases List.mem_append.1 hx with hx | hx
        · exact hL x hx
        · simp at hx; subst hx; exact hs'
theorem addS_expand {L : List arena_Span} {s : arena_Span} (hL : ∀ k ∈ L, Good k) : expand (addS L s) = expand L ++ exp1 s := by
  by_cases h : s.fN < 1
  · rw [addS_less h]; simp [exp1, rangeI, show s.fN.toNat = 0 by omega]
  · rcases snoc_cases L with rfl | ⟨M, k, rfl⟩
    · rw [addS_nil h, expand_one]; rfl
    · rw [addS_snoc h]
      split
      · rename_i hk
        have := hL k (by simp)
        simp only [Good] at this
        simp only [expand_append, expand_one, List.append_assoc]
        congr 1
        simp only [exp1]
        rw [show (k.fN + s.fN).toNat = k.fN.toNat + s.fN.toNat by omega, rangeI_add]
        congr 2; omega
      · rw [expand_append, expand_one]
theorem canon_snoc (r : List Int) (x : Int) : canon (r ++ [x]) = addI (canon r) x := by simp [canon, List.foldl_append]
/-- Places that may be. -/
def GoodP (r : List Int) : Prop := ∀ x ∈ r, 0 ≤ x ∧ x < 2097152
theorem canon_good : ∀ (r : List Int), GoodP r → ∀ k ∈ canon r, Good k := by
  intro r
  induction r using snoc_ind with
  | nil => intro _ k hk; cases hk
  | snoc r x ih =>
    intro hr
    rw [canon_snoc]
    exact addS_good (ih fun y hy => hr y (by simp [hy])) (fun _ => by have := hr x (by simp); simp only [Good]; omega)
theorem canon_expand (r : List Int) (hr : GoodP r) : expand (canon r) = r := by
  induction r using snoc_ind with
  | nil => rfl
  | snoc r x ih =>
    have hr' : GoodP r := fun y hy => hr y (by simp [hy])
    rw [canon_snoc, addI, addS_expand (canon_good r hr'), ih hr']
    simp [exp1, rangeI]
/-- The text of places. -/
def tOf (r : List Int) : piece_Text := ⟨canon r, (r.length : Int)⟩
theorem join_eq (k s : arena_Span) (hk : Good k) (hs : Good s) : arena_Join k s = some (if k.fAt + k.fN = s.fAt then (⟨k.fAt, k.fN + s.fN⟩, true) else (⟨0, 0⟩, false)) := by
  simp only [Good] at hk hs
  unfold arena_Join
  rw [if_neg (by omega), if_neg (by omega), bnd_some', w64_id ⟨by omega, by omega⟩]
  by_cases h : k.fAt + k.fN = s.fAt
  · have : s = (⟨k.fAt + k.fN, s.fN⟩ : arena_Span) := by cases s; simp_all
    rw [if_pos h, if_neg (by simp only [Bool.not_eq_true', beq_eq_false_iff_ne, ne_eq, Classical.not_not]; exact this), w64_id ⟨by omega, by omega⟩]
  · have : s ≠ (⟨k.fAt + k.fN, s.fN⟩ : arena_Span) := fun e => h (congrArg arena_Span.fAt e).symm
    rw [if_neg h, if_pos (by simpa using this)]
theorem addI_len (L : List arena_Span) (s : arena_Span) : (addS L s).length ≤ L.length + 1 := by
  by_cases h : s.fN < 1
  · rw [addS_less h]; omega
  · rcases snoc_cases L with rfl | ⟨M, k, rfl⟩
    · rw [addS_nil h]; simp
    · rw [addS_snoc h]; split <;> simp
theorem canon_len : ∀ r : List Int, (canon r).length ≤ r.length := by
  intro r
  induction r using snoc_ind with
  | nil => simp [canon]
  | snoc r x ih => rw [canon_snoc]; have := addI_len (canon r) ⟨x, 1⟩; simp only [addI, List.length_append, List.length_cons, List.length_nil]; omega
theorem idx_map {α β : Type} (g : α → β) (l : List α) (i : Int) : idx (l.map g) i = (idx l i).map g := by
  unfold idx; split <;> simp
theorem exp_sub {r : List Int} (hr : GoodP r) {pre suf : List arena_Span} (h : canon r = pre ++ suf) : GoodP (expand pre) ∧ (expand pre).length ≤ r.length ∧ r = expand pre ++ expand suf := by
  have := canon_expand r hr
  rw [h, expand_append] at this
  exact ⟨fun x hx => hr x (by rw [← this]; simp [hx]), by rw [← this]; simp, this.symm⟩
theorem goodP_app {r q : List Int} (hr : GoodP r) (hq : GoodP q) : GoodP (r ++ q) := fun x hx => (List.mem_append.1 hx).elim (hr x) (hq x)
theorem with_eq (s : arena_Span) (n : Int) (L : List arena_Span) (hL : ∀ k ∈ L, Good k) (hs : 1 ≤ s.fN → Good s) (hn : 0 ≤ n ∧ n ≤ 1073741824) (hlen : L.length ≤ 1073741824) :
    piece_Text_with_2 s n L = some (n + (s.fN.toNat : Int), addS L s) := by
  unfold piece_Text_with_2
  by_cases h : s.fN < 1
  · rw [if_pos h, addS_less h, show s.fN.toNat = 0 by omega]; simp
  · have hs' := hs (by omega)
    have hs2 := hs'
    simp only [Good] at hs2
    rw [if_neg h]
    have e1 : w64 (n + s.fN) = n + (s.fN.toNat : Int) := by rw [w64_id ⟨by omega, by omega⟩]; omega
    have happ : ∀ M : List arena_Span, M.length ≤ 1073741824 → app 16 M [s] = some (M ++ [s]) := fun M hM => app_of (by simp; omega)
    rcases snoc_cases L with rfl | ⟨M, k, rfl⟩
    · rw [addS_nil h]
      simp [show w64 (-1) = -1 from rfl, happ [] (by simp), e1]
    · have hlen' : M.length + 1 ≤ 1073741824 := by simpa using hlen
      have e2 : w64 (((M ++ [k]).length : Int) - 1) = (M.length : Int) := by simp [w64_id (x := (M.length : Int)) ⟨by omega, by omega⟩]
      rw [e2, if_pos (by omega), idx_at, bnd_some', join_eq k s (hL k (by simp)) hs', bnd_some', addS_snoc h, e1]
      by_cases hk : k.fAt + k.fN = s.fAt
      · rw [if_pos hk, if_pos hk]; simp
      · rw [if_neg hk, if_neg hk]; simp [happ (M ++ [k]) (by simpa using hlen)]
theorem made (b : List UInt8) (h : b.length ≤ 1000000000) : mkz 1 (b.length : Int) (0 : UInt8) = some (List.replicate b.length 0) := by
  rw [mkz_of (by omega)]; simp
theorem made_over (b : List UInt8) : over (List.replicate b.length (0 : UInt8)) b = b := over_same (by simp)
theorem New_eq (a : List UInt8) (h : a.length ≤ 4096) : arena_New a = some (.inr (0, a)) := by
  unfold arena_New
  rw [if_neg (by omega), made a (by omega), bnd_some', made_over]
def rightA (s : arena_Span) (a : List UInt8) : Bool := decide (0 ≤ s.fAt ∧ 0 ≤ s.fN ∧ s.fAt ≤ a.length ∧ s.fN ≤ a.length - s.fAt)
theorem Right_eq (s : arena_Span) (a : List UInt8) (ha : a.length ≤ 1000000000) : arena_Arena_Right s a = some (rightA s a) := by
  unfold arena_Arena_Right rightA
  by_cases h1 : 0 ≤ s.fAt
  · rw [if_pos h1]
    by_cases h2 : 0 ≤ s.fN
    · rw [if_pos h2]
      by_cases h3 : s.fAt ≤ (a.length : Int)
      · rw [if_pos h3, w64_id ⟨by omega, by omega⟩, bnd_some']
        simp [h1, h2, h3]
      · rw [if_neg h3, bnd_some']; simp [h3]
    · rw [if_neg h2, bnd_some']; simp [h2]
  · rw [if_neg h1, bnd_some']; simp [h1]
def bytesA (s : arena_Span) (a : List UInt8) : List UInt8 := if rightA s a = true then (a.take (s.fAt + s.fN).toNat).drop s.fAt.toNat else []
theorem bytesA_len (s : arena_Span) (a : List UInt8) : (bytesA s a).length ≤ a.length := by
  unfold bytesA; split <;> simp; omega
theorem Bytes_eq (s : arena_Span) (a : List UInt8) (ha : a.length ≤ 1000000000) : arena_Arena_Bytes s a = some (bytesA s a) := by
  have hl := bytesA_len s a
  unfold arena_Arena_Bytes arena_Arena_part
  rw [Right_eq s a ha, bnd_some']
  cases h : rightA s a with
  | false =>
    rw [if_neg (by simp), bnd_some']
    simp only
    rw [made [] (by simp), bnd_some', made_over]
    simp [bytesA, h]
  | true =>
    have hr := h
    unfold rightA at hr
    simp only [decide_eq_true_eq] at hr
    have hb : bytesA s a = (a.take (s.fAt + s.fN).toNat).drop s.fAt.toNat := by simp [bytesA, h]
    rw [if_pos rfl, w64_id ⟨by omega, by omega⟩, cut_of ⟨by omega, by omega, by omega⟩, bnd_some', bnd_some']
    simp only
    rw [cut_of ⟨by omega, by omega, by omega⟩, bnd_some', ← hb, made _ (by omega), bnd_some', made_over]
theorem u8n (x : UInt8) (c : UInt8) : ((x.toNat : Int) = (c.toNat : Int)) ↔ x = c := ⟨fun h => UInt8.toNat_inj.1 (by omega), fun h => by rw [h]⟩
theorem u8_44 (x : UInt8) : ((x.toNat : Int) = 44) ↔ x = 44 := u8n x 44
theorem u8_13 (x : UInt8) : ((x.toNat : Int) = 13) ↔ x = 13 := u8n x 13
theorem u8_10 (x : UInt8) : ((x.toNat : Int) = 10) ↔ x = 10 := u8n x 10
theorem u8_34 (x : UInt8) : ((x.toNat : Int) = 34) ↔ x = 34 := u8n x 34
def at_ (b : List UInt8) (c : UInt8) (i : Nat) : Bool := b[i]? == some c
def isMark (x : UInt8) : Bool := x == 44 || x == 13 || x == 10
def mk (b : List UInt8) (i : Nat) : Bool := match b[i]? with | none => true | some x => isMark x
theorem mk_out {b : List UInt8} {i : Nat} (h : b.length ≤ i) : mk b i = true := by unfold mk; rw [List.getElem?_eq_none h]
theorem mk_in {b : List UInt8} {i : Nat} (h : mk b i = false) : i < b.length := by
  rcases Nat.lt_or_ge i b.length with h' | h'
  · exact h'
  · rw [mk_out h'] at h; cases h
theorem at_in {b : List UInt8} {c : UInt8} {i : Nat} (h : at_ b c i = true) : i < b.length := by
  simp only [at_, beq_iff_eq] at h
  exact (List.getElem?_eq_some_iff.1 h).1
theorem done_eq (b : List UInt8) (i : Nat) : scan_reader_done b (i : Int) = some (decide (b.length ≤ i)) := by
  unfold scan_reader_done
  congr 1
  exact decide_eq_decide.2 ⟨fun h => by omega, fun h => by omega⟩
theorem is_eq (c : UInt8) (b : List UInt8) (i : Nat) : scan_reader_is c b (i : Int) = some (at_ b c i) := by
  unfold scan_reader_is
  rw [done_eq, bnd_some']
  by_cases h : b.length ≤ i
  · rw [decide_eq_true h, if_pos rfl, bnd_some']
    simp [at_, List.getElem?_eq_none h]
  · rw [decide_eq_false h, if_neg (by simp), idx_nat (List.getElem?_eq_getElem (by omega)), bnd_some', bnd_some']
    simp only [at_, List.getElem?_eq_getElem (show i < b.length by omega)]
    congr 1
    rw [Bool.eq_iff_iff, beq_iff_eq, beq_iff_eq, u8n, Option.some.injEq]
theorem quote_eq (b : List UInt8) (i : Nat) : ref05_quote b (i : Int) = some (at_ b 34 i) := by
  unfold ref05_quote
  by_cases h : (i : Int) < (b.length : Int)
  · have h' : i < b.length := by omega
    rw [if_pos h, idx_nat (List.getElem?_eq_getElem h'), bnd_some', bnd_some']
    simp only [at_, List.getElem?_eq_getElem h']
    congr 1
    rw [Bool.eq_iff_iff, beq_iff_eq, beq_iff_eq, u8_34, Option.some.injEq]
  · rw [if_neg h, bnd_some']
    simp [at_, List.getElem?_eq_none (show b.length ≤ i by omega)]
theorem marked_eq (b : List UInt8) (i : Nat) : scan_reader_marked b (i : Int) = some (mk b i) := by
  unfold scan_reader_marked
  rw [done_eq, bnd_some']
  by_cases h : b.length ≤ i
  · rw [decide_eq_true h, if_pos rfl, mk_out h]
  · have h' : i < b.length := by omega
    rw [decide_eq_false h, if_neg (by simp), idx_nat (List.getElem?_eq_getElem h'), bnd_some']
    simp only [mk, List.getElem?_eq_getElem h', isMark, u8_44, u8_13]
    by_cases c1 : b[i] = 44
    · simp [c1]
    · by_cases c2 : b[i] = 13
      · simp [c2]
      · have e : (((b[i]).toNat : Int) == 10) = (b[i] == 10) := by rw [Bool.eq_iff_iff, beq_iff_eq, beq_iff_eq, u8_10]
        rw [if_neg c1, if_neg c2, bnd_some', e]
        cases hb : b[i] == 10 <;> simp [c1, c2]
theorem mark_eq (b : List UInt8) (i : Nat) : ref05_mark b (i : Int) = some (mk b i) := by
  unfold ref05_mark
  by_cases h : (i : Int) ≥ (b.length : Int)
  · rw [if_pos h, bnd_some', mk_out (by omega)]
  · have h' : i < b.length := by omega
    rw [if_neg h, idx_nat (List.getElem?_eq_getElem h'), bnd_some']
    simp only [mk, List.getElem?_eq_getElem h', isMark, u8_44, u8_13]
    by_cases c1 : b[i] = 44
    · simp [c1]
    · by_cases c2 : b[i] = 13
      · simp [c2]
      · have e : (((b[i]).toNat : Int) == 10) = (b[i] == 10) := by rw [Bool.eq_iff_iff, beq_iff_eq, beq_iff_eq, u8_10]
        rw [if_neg c1, if_neg c2, bnd_some', e]
        simp [c1, c2]
def tlF (b : List UInt8) : Nat → Nat → Nat
  | 0, i => i
  | n + 1, i => if mk b i = true then i else tlF b n (i + 1)
def tl (b : List UInt8) (i : Nat) : Nat := tlF b b.length i
theorem tlF_spec (b : List UInt8) : ∀ n i, b.length ≤ i + n → i ≤ tlF b n i ∧ mk b (tlF b n i) = true ∧ (∀ k, i ≤ k → k < tlF b n i → mk b k = false) ∧ (i ≤ b.length → tlF b n i ≤ b.length)
  | 0, i, h => ⟨Nat.le_refl _, mk_out h, fun k h1 h2 => by simp only [tlF] at h2; omega, id⟩
  | n + 1, i, h => by
    simp only [tlF]
    by_cases c : mk b i = true
    · rw [if_pos c]; exact ⟨Nat.le_refl _, c, fun k h1 h2 => by omega, id⟩
    · rw [if_neg c]
      have hi := mk_in (by simpa using c)
      obtain ⟨h1, h2, h3, h4⟩ := tlF_spec b n (i + 1) (by omega)
      refine ⟨by omega, h2, fun k k1 k2 => ?_, fun _ => h4 hi⟩
      by_cases hk : k = i
      · subst hk; simpa using c
      · exact h3 k (by omega) k2
theorem tl_spec (b : List UInt8) (i : Nat) : i ≤ tl b i ∧ mk b (tl b i) = true ∧ (∀ k, i ≤ k → k < tl b i → mk b k = false) ∧ (i ≤ b.length → tl b i ≤ b.length) := tlF_spec b b.length i (by omega)
/-- Does a quote stand among so many bytes? -/
def aq (b : List UInt8) (i n : Nat) : Bool := (List.range n).any fun k => at_ b 34 (i + k)
theorem aq_succ (b : List UInt8) (i n : Nat) : aq b i (n + 1) = (aq b i n || at_ b 34 (i + n)) := by simp [aq, List.range_succ]
theorem plain_eq (b : List UInt8) (i : Nat) (hi : i ≤ b.length) (hb : b.length ≤ 2000000) : scan_reader_plain b (i : Int) = some (aq b i (tl b i - i), ((tl b i : Nat) : Int)) := by
  obtain ⟨h1, h2, h3, h4⟩ := tl_spec b i
  have h4' := h4 hi
  have h := loop_nat (f := scan_reader_plain.l1 b) (fun k (s : Bool) => (s, (i : Int) + k)) (tl b i - i) (fun n => aq b i n) (t := (aq b i (tl b i - i), ((tl b i : Nat) : Int)))
    (fun k hk => by
      unfold scan_reader_plain.l1
      simp only
      rw [show (i : Int) + (k : Int) = ((i + k : Nat) : Int) by omega, marked_eq, bnd_some', h3 (i + k) (by omega) (by omega), if_neg (by simp), is_eq, bnd_some', aq_succ]
      have e : (if aq b i k = true then some true else some (at_ b 34 (i + k)) : Option Bool) = some (aq b i k || at_ b 34 (i + k)) := by cases aq b i k <;> rfl
      rw [e, bnd_some', w64_id ⟨by omega, by omega⟩]
      congr 3)
    (by
      unfold scan_reader_plain.l1
      simp only
      rw [show (i : Int) + ((tl b i - i : Nat) : Int) = ((tl b i : Nat) : Int) by omega, marked_eq, bnd_some', h2, if_pos rfl])
  unfold scan_reader_plain
  have h' : loop (scan_reader_plain.l1 b) (false, (i : Int)) = some (aq b i (tl b i - i), ((tl b i : Nat) : Int)) := by simpa [aq] using h
  rw [h', bnd_some']
theorem till_eq (b : List UInt8) (i : Nat) (hi : i ≤ b.length) (hb : b.length ≤ 2000000) : ref05_till b (i : Int) = some ((tl b i : Nat) : Int) := by
  obtain ⟨h1, h2, h3, h4⟩ := tl_spec b i
  have h4' := h4 hi
  have h := loop_nat (f := ref05_till.l1 b) (fun k (_ : Unit) => (i : Int) + k) (tl b i - i) (fun _ => ()) (t := ((tl b i : Nat) : Int))
    (fun k hk => by
      unfold ref05_till.l1
      rw [show (i : Int) + (k : Int) = ((i + k : Nat) : Int) by omega, mark_eq, bnd_some', h3 (i + k) (by omega) (by omega), if_neg (by simp), w64_id ⟨by omega, by omega⟩]
      congr 2)
    (by
      unfold ref05_till.l1
      rw [show (i : Int) + ((tl b i - i : Nat) : Int) = ((tl b i : Nat) : Int) by omega, mark_eq, bnd_some', h2, if_pos rfl])
  unfold ref05_till
  have h' : loop (ref05_till.l1 b) (i : Int) = some ((tl b i : Nat) : Int) := by simpa using h
  rw [h', bnd_some']
theorem places2_eq (i j : Nat) (L : List Int) (hij : i ≤ j) (hj : j ≤ 2000000) (hL : L.length ≤ 2000000) : ref05_places_2 (i : Int) (j : Int) L = some (L ++ rangeI (i : Int) (j - i)) := by
  have h := loop_nat (f := ref05_places_2.l1 (j : Int)) (fun k (s : List Int) => ((i : Int) + k, s)) (j - i) (fun n => L ++ rangeI (i : Int) n) (t := L ++ rangeI (i : Int) (j - i))
    (fun k hk => by
      unfold ref05_places_2.l1
      simp only
      rw [if_pos (by omega), app_of (by simp [rangeI_len]; omega), bnd_some', w64_id ⟨by omega, by omega⟩, rangeI_succ, List.append_assoc]
      congr 3)
    (by
      unfold ref05_places_2.l1
      simp only
      rw [if_neg (by omega)])
  unfold ref05_places_2
  have h' : loop (ref05_places_2.l1 (j : Int)) ((i : Int), L) = some (L ++ rangeI (i : Int) (j - i)) := by simpa [rangeI] using h
  rw [h', bnd_some']
theorem places_eq (i j : Nat) (hij : i ≤ j) (hj : j ≤ 2000000) : ref05_places (i : Int) (j : Int) = some (rangeI (i : Int) (j - i)) := by
  have h := loop_nat (f := ref05_places.l1 (j : Int)) (fun k (s : List Int) => ((i : Int) + k, s)) (j - i) (fun n => rangeI (i : Int) n) (t := rangeI (i : Int) (j - i))
    (fun k hk => by
      unfold ref05_places.l1
      simp only
      rw [if_pos (by omega), app_of (by simp [rangeI_len]; omega), bnd_some', w64_id ⟨by omega, by omega⟩, rangeI_succ]
      congr 3)
    (by
      unfold ref05_places.l1
      simp only
      rw [if_neg (by omega)])
  unfold ref05_places
  have h' : loop (ref05_places.l1 (j : Int)) ((i : Int), []) = some (rangeI (i : Int) (j - i)) := by simpa [rangeI] using h
  rw [h', bnd_some']
theorem kind_eq (b : List UInt8) (i j : Nat) (hij : i ≤ j) (hj : j ≤ 2000000) : loop (ref05_field.l2 b (j : Int)) ((i : Int), 0) = some (if aq b i (j - i) = true then 2 else 0) := by
  have h := loop_nat (f := ref05_field.l2 b (j : Int)) (fun k (s : Int) => ((i : Int) + k, s)) (j - i) (fun n => if aq b i n = true then 2 else 0) (t := if aq b i (j - i) = true then 2 else 0)
    (fun k hk => by
      unfold ref05_field.l2
      simp only
      rw [if_pos (by omega), show (i : Int) + (k : Int) = ((i + k : Nat) : Int) by omega, quote_eq, bnd_some', aq_succ]
      have e : (if at_ b 34 (i + k) = true then some 2 else some (if aq b i k = true then 2 else 0) : Option Int) = some (if (aq b i k || at_ b 34 (i + k)) = true then 2 else 0) := by
        cases aq b i k <;> cases at_ b 34 (i + k) <;> rfl
      rw [e, bnd_some', w64_id ⟨by omega, by omega⟩]
      congr 3)
    (by
      unfold ref05_field.l2
      simp only
      rw [if_neg (by omega)])
  simpa [aq] using h
theorem addS_canon (p : List Int) (i : Int) (n : Nat) : addS (canon p) ⟨i, n⟩ = canon (p ++ rangeI i n) := by
  rw [← addI_range]; simp [canon, List.foldl_append]
theorem add2_eq (i j : Nat) (p : List Int) (hp : GoodP p) (hpl : p.length ≤ 2000000) (hij : i ≤ j) (hj : j ≤ 2000000) : scan_parts_add_2 (i : Int) (j : Int) (canon p) = some (canon (p ++ rangeI (i : Int) (j - i))) := by
  have hc := canon_len p
  have hg := canon_good p hp
  unfold scan_parts_add_2
  by_cases h : (j : Int) ≤ (i : Int)
  · rw [if_pos h, show j - i = 0 by omega]; simp [rangeI]
  · have hs' : Good (⟨(i : Int), ((j - i : Nat) : Int)⟩ : arena_Span) := by simp only [Good]; omega
    have hlt : ¬ ((⟨(i : Int), ((j - i : Nat) : Int)⟩ : arena_Span).fN < 1) := by simp only; omega
    rw [if_neg h, ← addS_canon, w64_id (x := (j : Int) - (i : Int)) ⟨by omega, by omega⟩, show (j : Int) - (i : Int) = ((j - i : Nat) : Int) by omega]
    generalize hL : canon p = L at *
    have happ : ∀ M : List arena_Span, M.length ≤ 2000000 → app 16 M [(⟨(i : Int), ((j - i : Nat) : Int)⟩ : arena_Span)] = some (M ++ [⟨(i : Int), ((j - i : Nat) : Int)⟩]) := fun M hM => app_of (by simp; omega)
    rcases snoc_cases L with rfl | ⟨M, k, rfl⟩
    · rw [addS_nil hlt]
      simp [show w64 (-1) = -1 from rfl, happ [] (by simp)]
    · have hlen' : M.length + 1 ≤ 2000000 := by simp at hc; omega
      have e2 : w64 (((M ++ [k]).length : Int) - 1) = (M.length : Int) := by simp [w64_id (x := (M.length : Int)) ⟨by omega, by omega⟩]
      rw [e2, if_pos (by omega), idx_at, bnd_some', join_eq k _ (hg k (by simp)) hs', bnd_some', addS_snoc hlt]
      by_cases hk : k.fAt + k.fN = (i : Int)
      · rw [if_pos hk, if_pos hk]; simp
      · rw [if_neg hk, if_neg hk]; simp [happ (M ++ [k]) (by simp; omega)]
theorem add_eq (i j : Nat) (hij : i ≤ j) (hj : j ≤ 2000000) : scan_parts_add (i : Int) (j : Int) = some (canon (rangeI (i : Int) (j - i))) := by
  unfold scan_parts_add
  by_cases h : (j : Int) ≤ (i : Int)
  · rw [if_pos h, show j - i = 0 by omega]; rfl
  · rw [if_neg h, if_neg (by simp [show w64 (-1) = -1 from rfl]), app_of (by simp), bnd_some', w64_id ⟨by omega, by omega⟩]
    have := addS_canon [] (i : Int) (j - i)
    rw [List.nil_append] at this
    rw [← this, show canon [] = [] from rfl, addS_nil (by simp only; omega)]
    simp only [List.nil_append]
    congr 3; omega
def rq (b : List UInt8) : Nat → Nat → List Int → Nat × List Int
  | 0, i, acc => (i, acc)
  | n + 1, i, acc => if i < b.length ∧ (at_ b 34 i = false ∨ at_ b 34 (i + 1) = true) then rq b n (i + (if at_ b 34 i = true then 2 else 1)) (acc ++ [(i : Int)]) else (i, acc)
theorem rq_spec (b : List UInt8) : ∀ n i acc, b.length ≤ i + n → i ≤ b.length → acc.length ≤ i → (∀ x ∈ acc, 0 ≤ x ∧ x < (i : Int)) →
    let r := rq b n i acc
    i ≤ r.1 ∧ r.1 ≤ b.length ∧ r.2.length ≤ r.1 ∧ (∀ x ∈ r.2, 0 ≤ x ∧ x < (r.1 : Int)) ∧ (r.1 < b.length → at_ b 34 r.1 = true)
  | 0, i, acc, h, hi, hl, ha => ⟨Nat.le_refl _, hi, hl, ha, fun h' => by simp only [rq] at h'; omega⟩
  | n + 1, i, acc, h, hi, hl, ha => by
    simp only [rq]
    by_cases c : i < b.length ∧ (at_ b 34 i = false ∨ at_ b 34 (i + 1) = true)
    · rw [if_pos c]
      have h2 : i + (if at_ b 34 i = true then 2 else 1) ≤ b.length := by
        split
        · rename_i hq
          rcases c.2 with h' | h'
          · rw [hq] at h'; cases h'
          · have := at_in h'; omega
        · omega
      have h1 : i + 1 ≤ i + (if at_ b 34 i = true then 2 else 1) := by split <;> omega
      obtain ⟨g1, g2, g3, g4, g5⟩ := rq_spec b n (i + (if at_ b 34 i = true then 2 else 1)) (acc ++ [(i : Int)]) (by omega) h2 (by simp; omega) (by
        intro x hx
        rcases List.mem_append.1 hx with hx | hx
        · have := ha x hx; omega
        · simp at hx; omega)
      exact ⟨by omega, g2, g3, g4, g5⟩
    · rw [if_neg c]
      refine ⟨Nat.le_refl _, hi, hl, ha, fun h' => ?_⟩
      cases hq : at_ b 34 i with
      | true => rfl
      | false => exact absurd ⟨h', .inl hq⟩ c
theorem rqLoop_eq (b : List UInt8) (hb : b.length ≤ 2000000) : ∀ n (i : Nat) acc, b.length ≤ i + n → i ≤ b.length → acc.length ≤ i → loop (ref05_field.l1 b) ((i : Int), acc) = some (((rq b n i acc).1 : Int), (rq b n i acc).2) := by
  intro n
  induction n with
  | zero =>
    intro i acc h hi hl
    refine loop_done ?_
    unfold ref05_field.l1
    simp only
    rw [if_neg (by omega), bnd_some', if_neg (by simp)]
    rfl
  | succ n ih =>
    intro i acc h hi hl
    simp only [rq]
    by_cases hlt : i < b.length
    · by_cases c : at_ b 34 i = false ∨ at_ b 34 (i + 1) = true
      · rw [if_pos ⟨hlt, c⟩]
        have h2 : i + (if at_ b 34 i = true then 2 else 1) ≤ b.length := by
          split
          · rename_i hq
            rcases c with h' | h'
            · rw [hq] at h'; cases h'
            · have := at_in h'; omega
          · omega
        have h1 : i + 1 ≤ i + (if at_ b 34 i = true then 2 else 1) := by split <;> omega
        refine loop_next (s' := (((i + (if at_ b 34 i = true then 2 else 1) : Nat) : Int), acc ++ [(i : Int)])) ?_ (ih _ _ (by omega) h2 (by simp; omega))
        unfold ref05_field.l1
        simp only
        rw [if_pos (by omega), quote_eq, bnd_some', w64_id (x := (i : Int) + 1) ⟨by omega, by omega⟩]
        rw [show (i : Int) + 1 = ((i + 1 : Nat) : Int) by omega, quote_eq, bnd_some']
        have e : (if at_ b 34 i = true then some (at_ b 34 (i + 1)) else some true : Option Bool) = some true := by
          cases hq : at_ b 34 i with
          | false => rfl
          | true => rcases c with h' | h'
                    · rw [hq] at h'; cases h'
                    · simp [h']
        rw [e, bnd_some', if_pos rfl, app_of (by simp; omega), bnd_some', bnd_some']
        cases hq : at_ b 34 i with
        | true =>
          rw [if_pos rfl, bnd_some', w64_id ⟨by omega, by omega⟩]
          simp; omega
        | false =>
          rw [if_neg (by simp), bnd_some', w64_id ⟨by omega, by omega⟩]
          simp
      · rw [if_neg (fun h' => c h'.2)]
        have hq : at_ b 34 i = true := by
          cases hq : at_ b 34 i with
          | true => rfl
          | false => exact absurd (.inl hq) c
        have hq2 : at_ b 34 (i + 1) = false := by
          cases hq2 : at_ b 34 (i + 1) with
          | false => rfl
          | true => exact absurd (.inr hq2) c
        refine loop_done ?_
        unfold ref05_field.l1
        simp only
        rw [if_pos (by omega), quote_eq, bnd_some', hq, if_pos rfl, w64_id (x := (i : Int) + 1) ⟨by omega, by omega⟩, show (i : Int) + 1 = ((i + 1 : Nat) : Int) by omega, quote_eq, bnd_some', hq2, bnd_some', if_neg (by simp)]
    · rw [if_neg (fun h' => hlt h'.1)]
      refine loop_done ?_
      unfold ref05_field.l1
      simp only
      rw [if_neg (by omega), bnd_some', if_neg (by simp)]
theorem rq_fuel (b : List UInt8) : ∀ n m i acc, b.length ≤ i + n → b.length ≤ i + m → rq b n i acc = rq b m i acc
  | 0, 0, i, acc, _, _ => rfl
  | 0, m + 1, i, acc, h, _ => by simp only [rq]; rw [if_neg (fun h' => by omega)]
  | n + 1, 0, i, acc, _, h => by simp only [rq]; rw [if_neg (fun h' => by omega)]
  | n + 1, m + 1, i, acc, h, h' => by
    simp only [rq]
    split
    · have h1 : i + 1 ≤ i + (if at_ b 34 i = true then 2 else 1) := by split <;> omega
      exact rq_fuel b n m _ _ (by omega) (by omega)
    · rfl
/-- Bytes that are no quotes are passed. -/
theorem rq_skip (b : List UInt8) (i : Nat) (acc : List Int) (n : Nat) (hn : b.length ≤ i + n) : ∀ k, i + k ≤ b.length → (∀ j, i ≤ j → j < i + k → at_ b 34 j = false) → rq b n i acc = rq b n (i + k) (acc ++ rangeI (i : Int) k)
  | 0, _, _ => by simp [rangeI]
  | k + 1, hk, hq => by
    rw [rq_skip b i acc n hn k (by omega) (fun j h1 h2 => hq j h1 (by omega)), rq_fuel b n (n + 1) (i + k) _ (by omega) (by omega)]
    simp only [rq]
    have h0 := hq (i + k) (by omega) (by omega)
    rw [if_pos ⟨by omega, .inl h0⟩, h0, if_neg (by simp), rangeI_succ, List.append_assoc, show i + (k + 1) = i + k + 1 from rfl, show ((i + k : Nat) : Int) = (i : Int) + (k : Int) by omega]
/-- The next quote. -/
def nqF (b : List UInt8) : Nat → Nat → Nat
  | 0, i => i
  | n + 1, i => if i < b.length ∧ at_ b 34 i = false then nqF b n (i + 1) else i
theorem nqF_spec (b : List UInt8) : ∀ n i, b.length ≤ i + n → i ≤ b.length → i ≤ nqF b n i ∧ nqF b n i ≤ b.length ∧ (∀ j, i ≤ j → j < nqF b n i → at_ b 34 j = false) ∧ (nqF b n i < b.length → at_ b 34 (nqF b n i) = true)
  | 0, i, h, hi => ⟨Nat.le_refl _, hi, fun j h1 h2 => by simp only [nqF] at h2; omega, fun h' => by simp only [nqF] at h'; omega⟩
  | n + 1, i, h, hi => by
    simp only [nqF]
    by_cases c : i < b.length ∧ at_ b 34 i = false
    · rw [if_pos c]
      obtain ⟨h1, h2, h3, h4⟩ := nqF_spec b n (i + 1) (by omega) (by omega)
      refine ⟨by omega, h2, fun j j1 j2 => ?_, h4⟩
      by_cases hj : j = i
      · subst hj; exact c.2
      · exact h3 j (by omega) j2
    · rw [if_neg c]
      refine ⟨Nat.le_refl _, hi, fun j h1 h2 => by omega, fun h' => ?_⟩
      cases hq : at_ b 34 i with
      | true => rfl
      | false => exact absurd ⟨h', hq⟩ c
theorem skip_eq (b : List UInt8) (hb : b.length ≤ 2000000) : ∀ n (i : Nat), b.length ≤ i + n → i ≤ b.length → loop (scan_reader_quoted.l1 b) (i : Int) = some ((nqF b n i : Nat) : Int) := by
  have stop : ∀ i : Nat, ¬ (i < b.length ∧ at_ b 34 i = false) → scan_reader_quoted.l1 b (i : Int) = some (.done (i : Int)) := fun i c => by
    unfold scan_reader_quoted.l1
    rw [done_eq, bnd_some']
    by_cases h : b.length ≤ i
    · rw [decide_eq_true h, if_pos rfl, bnd_some', if_neg (by simp)]
    · have : at_ b 34 i = true := by
        cases hq : at_ b 34 i with
        | true => rfl
        | false => exact absurd ⟨by omega, hq⟩ c
      rw [decide_eq_false h, if_neg (by simp), is_eq, bnd_some', this, bnd_some', if_neg (by simp)]
  intro n
  induction n with
  | zero => intro i h hi; exact loop_done (stop i (fun h' => by omega))
  | succ n ih =>
    intro i h hi
    simp only [nqF]
    by_cases c : i < b.length ∧ at_ b 34 i = false
    · rw [if_pos c]
      refine loop_next (s' := ((i + 1 : Nat) : Int)) ?_ (ih _ (by omega) (by omega))
      unfold scan_reader_quoted.l1
      rw [done_eq, bnd_some', decide_eq_false (by omega), if_neg (by simp), is_eq, bnd_some', c.2, bnd_some', if_pos (by rfl), w64_id ⟨by omega, by omega⟩]
      congr 2
    · rw [if_neg c]; exact loop_done (stop i c)
/-- What a field with a quote ahead comes to, from where its bytes ended. -/
def qEnd (b : List UInt8) (r : Nat × List Int) : Int × List Int × Nat :=
  if b.length ≤ r.1 then (4, r.2, r.1) else (if r.1 + 1 < tl b (r.1 + 1) then 3 else 1, r.2 ++ rangeI ((r.1 + 1 : Nat) : Int) (tl b (r.1 + 1) - (r.1 + 1)), tl b (r.1 + 1))
theorem goodP_of {p : List Int} {m : Nat} (h : ∀ x ∈ p, 0 ≤ x ∧ x < (m : Int)) (hm : m ≤ 2000000) : GoodP p := fun x hx => by have := h x hx; omega
theorem goodP_range {i n : Nat} (h : i + n ≤ 2000000) : GoodP (rangeI (i : Int) n) := fun x hx => by
  simp only [rangeI, List.mem_map, List.mem_range] at hx
  obtain ⟨k, hk, rfl⟩ := hx; omega
theorem label_eq (b : List UInt8) (hb : b.length ≤ 2000000) : ∀ n (i : Nat) acc, b.length ≤ i + n → i ≤ b.length → acc.length ≤ i → (∀ x ∈ acc, 0 ≤ x ∧ x < (i : Int)) →
    loop (scan_reader_quoted.l2 b) ((i : Int), (i : Int), canon acc) = some ((qEnd b (rq b n i acc)).1, canon (qEnd b (rq b n i acc)).2.1, (((qEnd b (rq b n i acc)).2.2 : Nat) : Int)) := by
  intro n
  induction n using Nat.strongRecOn with
  | _ n ih =>
    intro i acc h hi hl ha
    obtain ⟨g1, g2, g3, g4⟩ := nqF_spec b b.length i (by omega) hi
    have hsk := skip_eq b hb b.length i (by omega) hi
    generalize nqF b b.length i = t at *
    have hskip : rq b n i acc = rq b n t (acc ++ rangeI (i : Int) (t - i)) := by
      have := rq_skip b i acc n h (t - i) (by omega) (fun j h1 h2 => g3 j h1 (by omega))
      rwa [show i + (t - i) = t by omega] at this
    have hga := goodP_of ha (by omega)
    have hr : GoodP (rangeI (i : Int) (t - i)) := goodP_range (by omega)
    by_cases ht : b.length ≤ t
    · refine loop_done ?_
      unfold scan_reader_quoted.l2
      simp only
      rw [hsk, bnd_some', done_eq, bnd_some', decide_eq_true ht, if_pos rfl, add2_eq i t acc hga (by omega) g1 (by omega), bnd_some', hskip]
      have e : rq b n t (acc ++ rangeI (i : Int) (t - i)) = (t, acc ++ rangeI (i : Int) (t - i)) := by
        cases n with
        | zero => rfl
        | succ n => simp only [rq]; rw [if_neg (fun h' => by omega)]
      rw [e, qEnd, if_pos ht]
    · have htl : t < b.length := by omega
      have hqt := g4 htl
      cases hn : at_ b 34 (t + 1) with
      | true =>
        have h2 := at_in hn
        obtain ⟨m, rfl⟩ : ∃ m, n = m + 1 := ⟨n - 1, by omega⟩
        have e : rq b (m + 1) t (acc ++ rangeI (i : Int) (t - i)) = rq b m (t + 2) (acc ++ rangeI (i : Int) (t + 1 - i)) := by
          simp only [rq]
          rw [if_pos ⟨htl, .inr hn⟩, hqt, if_pos rfl, show t + 1 - i = (t - i) + 1 by omega, rangeI_succ, List.append_assoc]
          congr 4; omega
        refine loop_next (s' := (((t + 2 : Nat) : Int), ((t + 2 : Nat) : Int), canon (acc ++ rangeI (i : Int) (t + 1 - i)))) ?_ ?_
        · unfold scan_reader_quoted.l2
          simp only
          rw [hsk, bnd_some', done_eq, bnd_some', decide_eq_false ht, if_neg (by simp), w64_id (x := (t : Int) + 1) ⟨by omega, by omega⟩, show (t : Int) + 1 = ((t + 1 : Nat) : Int) by omega, is_eq, bnd_some', hn, if_pos rfl, add2_eq i (t + 1) acc hga (by omega) (by omega) (by omega), bnd_some', w64_id ⟨by omega, by omega⟩]
          congr 4
        · rw [hskip, e]
          refine ih m (by omega) (t + 2) _ (by omega) (by omega) (by simp [rangeI_len]; omega) (fun x hx => ?_)
          rcases List.mem_append.1 hx with hx | hx
          · have := ha x hx; omega
          · simp only [rangeI, List.mem_map, List.mem_range] at hx
            obtain ⟨k, hk, rfl⟩ := hx; omega
      | false =>
        have e : rq b n t (acc ++ rangeI (i : Int) (t - i)) = (t, acc ++ rangeI (i : Int) (t - i)) := by
          cases n with
          | zero => rfl
          | succ n =>
            simp only [rq]
            rw [if_neg]
            rintro ⟨_, h' | h'⟩
            · rw [hqt] at h'; cases h'
            · rw [hn] at h'; cases h'
        obtain ⟨t1, t2, t3, t4⟩ := tl_spec b (t + 1)
        have t4' := t4 (by omega)
        refine loop_done ?_
        unfold scan_reader_quoted.l2
        simp only
        rw [hsk, bnd_some', done_eq, bnd_some', decide_eq_false ht, if_neg (by simp), w64_id (x := (t : Int) + 1) ⟨by omega, by omega⟩, show (t : Int) + 1 = ((t + 1 : Nat) : Int) by omega, is_eq, bnd_some', hn, if_neg (by simp),
          w64_id (x := ((t + 1 : Nat) : Int) - 1) ⟨by omega, by omega⟩, show ((t + 1 : Nat) : Int) - 1 = (t : Int) by omega, add2_eq i t acc hga (by omega) g1 (by omega), bnd_some', plain_eq b (t + 1) (by omega) hb, bnd_some']
        simp only
        rw [add2_eq (t + 1) (tl b (t + 1)) _ (goodP_app hga hr) (by simp [rangeI_len]; omega) t1 (by omega), bnd_some', hskip, e, qEnd, if_neg ht]
        by_cases c : t + 1 < tl b (t + 1)
        · rw [if_pos (by omega), if_pos c]
        · rw [if_neg (by omega), if_neg c]
def fieldF (b : List UInt8) (i : Nat) : Int × List Int × Nat :=
  if at_ b 34 i = true then qEnd b (rq b b.length (i + 1) []) else (if aq b i (tl b i - i) = true then 2 else 0, rangeI (i : Int) (tl b i - i), tl b i)
theorem fieldF_spec (b : List UInt8) (hb : b.length ≤ 2000000) (i : Nat) (hi : i ≤ b.length) : i ≤ (fieldF b i).2.2 ∧ (fieldF b i).2.2 ≤ b.length ∧ mk b (fieldF b i).2.2 = true ∧ (∀ x ∈ (fieldF b i).2.1, 0 ≤ x ∧ x < (b.length : Int)) ∧ (fieldF b i).2.1.length ≤ b.length := by
  unfold fieldF
  have hr : ∀ {p m : Nat}, p + m ≤ b.length → ∀ x ∈ rangeI (p : Int) m, 0 ≤ x ∧ x < (b.length : Int) := fun {p m} h x hx => by
    simp only [rangeI, List.mem_map, List.mem_range] at hx
    obtain ⟨k, hk, rfl⟩ := hx; omega
  by_cases c : at_ b 34 i = true
  · rw [if_pos c]
    have hi' := at_in c
    obtain ⟨g1, g2, g3, g4, g5⟩ := rq_spec b b.length (i + 1) [] (by omega) (by omega) (by simp) (by simp)
    generalize rq b b.length (i + 1) [] = r at *
    unfold qEnd
    by_cases d : b.length ≤ r.1
    · rw [if_pos d]
      exact ⟨by simp only; omega, g2, mk_out d, fun x hx => by have := g4 x hx; omega, by simp only; omega⟩
    · rw [if_neg d]
      obtain ⟨t1, t2, t3, t4⟩ := tl_spec b (r.1 + 1)
      have t4' := t4 (by omega)
      refine ⟨by simp only; omega, t4', t2, fun x hx => ?_, by simp [rangeI_len]; omega⟩
      rcases List.mem_append.1 hx with hx | hx
      · have := g4 x hx; omega
      · exact hr (by omega) x hx
  · rw [if_neg c]
    obtain ⟨t1, t2, t3, t4⟩ := tl_spec b i
    have t4' := t4 hi
    exact ⟨t1, t4', t2, hr (by omega), by simp [rangeI_len]; omega⟩
def sField (b : List UInt8) (i : Nat) : scan_Field := ⟨⟨(i : Int), (((fieldF b i).2.2 - i : Nat) : Int)⟩, (fieldF b i).1, canon (fieldF b i).2.1⟩
def rField (b : List UInt8) (i : Nat) : ref05_Field := ⟨⟨(i : Int), (((fieldF b i).2.2 - i : Nat) : Int)⟩, (fieldF b i).1, (fieldF b i).2.1⟩
theorem sField_eq (b : List UInt8) (hb : b.length ≤ 2000000) (i : Nat) (hi : i ≤ b.length) : scan_reader_field b (i : Int) = some (sField b i, (((fieldF b i).2.2 : Nat) : Int)) := by
  obtain ⟨s1, s2, s3, s4, s5⟩ := fieldF_spec b hb i hi
  have key : (if at_ b 34 i = true then bnd (scan_reader_quoted b (i : Int)) fun x6 => some (x6.2.2, x6.1, x6.2.1) else bnd (scan_reader_bare b (i : Int)) fun x7 => some (x7.2.2, x7.1, x7.2.1) : Option (Int × Int × (List arena_Span))) = some ((((fieldF b i).2.2 : Nat) : Int), (fieldF b i).1, canon (fieldF b i).2.1) := by
    unfold fieldF
    by_cases c : at_ b 34 i = true
    · have hi' := at_in c
      rw [if_pos c, if_pos c]
      unfold scan_reader_quoted
      rw [w64_id ⟨by omega, by omega⟩, show (i : Int) + 1 = ((i + 1 : Nat) : Int) by omega]
      have := label_eq b hb b.length (i + 1) [] (by omega) (by omega) (by simp) (by simp)
      rw [show canon [] = [] from rfl] at this
      rw [this, bnd_some']
    · rw [if_neg c, if_neg c]
      obtain ⟨t1, t2, t3, t4⟩ := tl_spec b i
      have t4' := t4 hi
      unfold scan_reader_bare
      rw [plain_eq b i hi hb, bnd_some']
      simp only
      rw [add_eq i (tl b i) t1 (by omega), bnd_some']
      cases aq b i (tl b i - i) <;> rfl
  unfold scan_reader_field
  rw [is_eq, bnd_some', key, bnd_some', w64_id ⟨by omega, by omega⟩]
  unfold sField
  congr 4; omega
theorem rField_eq (b : List UInt8) (hb : b.length ≤ 2000000) (i : Nat) (hi : i ≤ b.length) : ref05_field b (i : Int) = some (rField b i) := by
  obtain ⟨s1, s2, s3, s4, s5⟩ := fieldF_spec b hb i hi
  unfold ref05_field
  rw [quote_eq, bnd_some']
  unfold rField
  unfold fieldF at *
  by_cases c : at_ b 34 i = true
  · have hi' := at_in c
    simp only [if_pos c] at *
    rw [w64_id (x := (i : Int) + 1) ⟨by omega, by omega⟩, show (i : Int) + 1 = ((i + 1 : Nat) : Int) by omega, rqLoop_eq b hb b.length (i + 1) [] (by omega) (by omega) (by simp), bnd_some']
    obtain ⟨g1, g2, g3, g4, g5⟩ := rq_spec b b.length (i + 1) [] (by omega) (by omega) (by simp) (by simp)
    generalize rq b b.length (i + 1) [] = r at *
    unfold qEnd at *
    by_cases d : b.length ≤ r.1
    · simp only [if_pos d] at *
      rw [if_pos (by omega), w64_id ⟨by omega, by omega⟩]
      congr 3; omega
    · simp only [if_neg d] at *
      obtain ⟨t1, t2, t3, t4⟩ := tl_spec b (r.1 + 1)
      have t4' := t4 (by omega)
      rw [if_neg (by omega), w64_id (x := (r.1 : Int) + 1) ⟨by omega, by omega⟩, show (r.1 : Int) + 1 = ((r.1 + 1 : Nat) : Int) by omega, till_eq b (r.1 + 1) (by omega) hb, bnd_some']
      have e : (if ((tl b (r.1 + 1) : Nat) : Int) > ((r.1 + 1 : Nat) : Int) then some 3 else some 1 : Option Int) = some (if r.1 + 1 < tl b (r.1 + 1) then 3 else 1) := by
        by_cases h : r.1 + 1 < tl b (r.1 + 1)
        · rw [if_pos h, if_pos (by omega)]
        · rw [if_neg h, if_neg (by omega)]
      rw [e, bnd_some', places2_eq _ _ _ t1 (by omega) (by omega), bnd_some', w64_id ⟨by omega, by omega⟩]
      congr 3; omega
  · simp only [if_neg c] at *
    obtain ⟨t1, t2, t3, t4⟩ := tl_spec b i
    have t4' := t4 hi
    rw [till_eq b i hi hb, bnd_some', places_eq _ _ t1 (by omega), bnd_some', kind_eq _ _ _ t1 (by omega), bnd_some', w64_id ⟨by omega, by omega⟩]
    congr 3; omega
abbrev fe (b : List UInt8) (i : Nat) : Nat := (fieldF b i).2.2
/-- Where a row's fields begin, and where the last one ends. -/
def fsF (b : List UInt8) : Nat → Nat → List Nat × Nat
  | 0, i => ([i], fe b i)
  | n + 1, i => if at_ b 44 (fe b i) = true then (i :: (fsF b n (fe b i + 1)).1, (fsF b n (fe b i + 1)).2) else ([i], fe b i)
def fs (b : List UInt8) (i : Nat) : List Nat × Nat := fsF b b.length i
theorem fsF_spec (b : List UInt8) (hb : b.length ≤ 2000000) : ∀ n i, b.length ≤ i + n → i ≤ b.length → i ≤ (fsF b n i).2 ∧ (fsF b n i).2 ≤ b.length ∧ mk b (fsF b n i).2 = true ∧ at_ b 44 (fsF b n i).2 = false ∧ (∀ j ∈ (fsF b n i).1, j ≤ b.length) ∧ (fsF b n i).1.length ≤ b.length + 1 - i := by
  intro n
  induction n with
  | zero =>
    intro i h hi
    obtain ⟨s1, s2, s3, s4, s5⟩ := fieldF_spec b hb i hi
    have : at_ b 44 (fe b i) = false := by
      cases hc : at_ b 44 (fe b i) with
      | false => rfl
      | true => have := at_in hc; simp only [fe] at this; omega
    exact ⟨s1, s2, s3, this, by simp only [fsF]; simpa using hi, by simp only [fsF, List.length_cons, List.length_nil]; omega⟩
  | succ n ih =>
    intro i h hi
    obtain ⟨s1, s2, s3, s4, s5⟩ := fieldF_spec b hb i hi
    simp only [fsF]
    by_cases c : at_ b 44 (fe b i) = true
    · have hlt := at_in c
      simp only [if_pos c]
      have h0 : i ≤ fe b i := s1
      obtain ⟨h1, h2, h3, h4, h5, h6⟩ := ih (fe b i + 1) (by omega) (by omega)
      refine ⟨by omega, h2, h3, h4, fun j hj => ?_, by simp only [List.length_cons]; omega⟩
      rcases List.mem_cons.1 hj with rfl | hj
      · exact hi
      · exact h5 j hj
    · simp only [if_neg c]
      exact ⟨s1, s2, s3, by simpa using c, by simpa using hi, by simp only [List.length_cons, List.length_nil]; omega⟩
def endF (b : List UInt8) (e : Nat) : Int × Nat := if at_ b 10 e = true then (1, e + 1) else if at_ b 13 e = true then (if at_ b 10 (e + 1) = true then (2, e + 2) else (3, e + 1)) else (0, e)
theorem end_eq (b : List UInt8) (hb : b.length ≤ 2000000) (e : Nat) (he : e ≤ b.length) : scan_reader_end b (e : Int) = some ((endF b e).1, (((endF b e).2 : Nat) : Int)) := by
  unfold scan_reader_end endF
  rw [is_eq, bnd_some', w64_id (x := (e : Int) + 1) ⟨by omega, by omega⟩, show (e : Int) + 1 = ((e + 1 : Nat) : Int) by omega, is_eq, bnd_some', is_eq, bnd_some', w64_id (x := ((e + 1 : Nat) : Int) + 1) ⟨by omega, by omega⟩]
  cases at_ b 10 e <;> cases at_ b 13 e <;> cases at_ b 10 (e + 1) <;> simp <;> omega
theorem endF_spec (b : List UInt8) (e : Nat) (he : e ≤ b.length) : e ≤ (endF b e).2 ∧ (endF b e).2 ≤ b.length ∧ ((mk b e = true) → at_ b 44 e = false → e < b.length → e < (endF b e).2) := by
  unfold endF
  by_cases c1 : at_ b 10 e = true
  · have := at_in c1
    rw [if_pos c1]; exact ⟨by simp, by simp only; omega, fun _ _ _ => by simp⟩
  · rw [if_neg c1]
    by_cases c2 : at_ b 13 e = true
    · have := at_in c2
      rw [if_pos c2]
      by_cases c3 : at_ b 10 (e + 1) = true
      · have := at_in c3
        rw [if_pos c3]; exact ⟨by simp, by simp only; omega, fun _ _ _ => by simp⟩
      · rw [if_neg c3]; exact ⟨by simp, by simp only; omega, fun _ _ _ => by simp⟩
    · rw [if_neg c2]
      refine ⟨Nat.le_refl _, he, fun hm h44 hlt => ?_⟩
      exfalso
      simp only [at_, List.getElem?_eq_getElem hlt, mk, isMark] at *
      simp at c1 c2 hm h44
      rcases hm with (h | h) | h
      · exact h44 h
      · exact c2 h
      · exact c1 h
def sRow (b : List UInt8) (i : Nat) : scan_Row := ⟨(fs b i).1.map (sField b), (endF b (fs b i).2).1⟩
def rRow (b : List UInt8) (i : Nat) : ref05_Row := ⟨(fs b i).1.map (rField b), (endF b (fs b i).2).1⟩
def nx (b : List UInt8) (i : Nat) : Nat := (endF b (fs b i).2).2
theorem sRowLoop (b : List UInt8) (hb : b.length ≤ 2000000) : ∀ n i acc, b.length ≤ i + n → i ≤ b.length → acc.length ≤ i → loop (scan_reader_row.l1 b) (((fe b i : Nat) : Int), acc ++ [sField b i]) = some ((((fsF b n i).2 : Nat) : Int), acc ++ (fsF b n i).1.map (sField b)) := by
  have stop : ∀ i acc, at_ b 44 (fe b i) = false → scan_reader_row.l1 b (((fe b i : Nat) : Int), acc) = some (.done (((fe b i : Nat) : Int), acc)) := fun i acc h => by
    unfold scan_reader_row.l1
    simp only
    rw [is_eq, bnd_some', h, if_neg (by simp)]
  intro n
  induction n with
  | zero =>
    intro i acc h hi hl
    obtain ⟨s1, s2, s3, s4, s5⟩ := fieldF_spec b hb i hi
    refine loop_done (stop i _ ?_)
    cases hc : at_ b 44 (fe b i) with
    | false => rfl
    | true => have := at_in hc; simp only [fe] at this; omega
  | succ n ih =>
    intro i acc h hi hl
    obtain ⟨s1, s2, s3, s4, s5⟩ := fieldF_spec b hb i hi
    have h0 : i ≤ fe b i := s1
    simp only [fsF]
    by_cases c : at_ b 44 (fe b i) = true
    · have hlt := at_in c
      rw [if_pos c]
      refine loop_next (s' := (((fe b (fe b i + 1) : Nat) : Int), (acc ++ [sField b i]) ++ [sField b (fe b i + 1)])) ?_ ?_
      · unfold scan_reader_row.l1
        simp only
        rw [is_eq, bnd_some', c, if_pos rfl, w64_id ⟨by omega, by omega⟩, show ((fe b i : Nat) : Int) + 1 = ((fe b i + 1 : Nat) : Int) by omega, sField_eq b hb _ (by omega), bnd_some', app_of (by simp; omega), bnd_some']
      · rw [ih (fe b i + 1) (acc ++ [sField b i]) (by omega) (by omega) (by simp; omega)]
        simp
    · rw [if_neg c]
      exact loop_done (stop i _ (by simpa using c))
theorem sRow_eq (b : List UInt8) (hb : b.length ≤ 2000000) (i : Nat) (hi : i ≤ b.length) : scan_reader_row b (i : Int) = some (sRow b i, ((nx b i : Nat) : Int)) := by
  obtain ⟨h1, h2, h3, h4, h5, h6⟩ := fsF_spec b hb b.length i (by omega) hi
  unfold scan_reader_row
  rw [sField_eq b hb i hi, bnd_some']
  have := sRowLoop b hb b.length i [] (by omega) hi (by simp)
  simp only [List.nil_append] at this
  simp only
  rw [this, bnd_some']
  simp only
  rw [end_eq b hb _ h2, bnd_some']
  rfl
theorem rRowLoop (b : List UInt8) (hb : b.length ≤ 2000000) : ∀ n i acc, b.length ≤ i + n → i ≤ b.length → acc.length ≤ i → loop (ref05_One.l1 b) ((i : Int), acc) = some ((((fsF b n i).2 : Nat) : Int), acc ++ (fsF b n i).1.map (rField b)) := by
  have one : ∀ (i : Nat) acc, i ≤ b.length → acc.length ≤ i → ref05_One.l1 b ((i : Int), acc) = some (if at_ b 44 (fe b i) = true then .next (((fe b i + 1 : Nat) : Int), acc ++ [rField b i]) else .done (((fe b i : Nat) : Int), acc ++ [rField b i])) := fun i acc hi hl => by
    obtain ⟨s1, s2, s3, s4, s5⟩ := fieldF_spec b hb i hi
    unfold ref05_One.l1
    simp only
    rw [rField_eq b hb i hi, bnd_some', app_of (by simp; omega), bnd_some']
    have e : w64 ((rField b i).fRaw.fAt + (rField b i).fRaw.fN) = ((fe b i : Nat) : Int) := by
      simp only [rField, fe]
      rw [w64_id ⟨by omega, by omega⟩]; omega
    rw [e]
    have e2 : (if ((fe b i : Nat) : Int) ≥ (b.length : Int) then some true else bnd (idx b ((fe b i : Nat) : Int)) fun x23 => some (!((x23.toNat : Int) == 44)) : Option Bool) = some (!(at_ b 44 (fe b i))) := by
      by_cases h : b.length ≤ fe b i
      · rw [if_pos (by omega)]
        simp [at_, List.getElem?_eq_none h]
      · have h' : fe b i < b.length := by omega
        rw [if_neg (by omega), idx_nat (List.getElem?_eq_getElem h'), bnd_some']
        simp only [at_, List.getElem?_eq_getElem h']
        congr 2
        rw [Bool.eq_iff_iff, beq_iff_eq, beq_iff_eq, u8_44, Option.some.injEq]
    rw [e2, bnd_some']
    cases hc : at_ b 44 (fe b i) with
    | true =>
      have := at_in hc
      rw [if_neg (by simp), if_pos rfl, w64_id ⟨by omega, by omega⟩]
      congr 3
    | false => rw [if_pos (by rfl), if_neg (by simp)]
  intro n
  induction n with
  | zero =>
    intro i acc h hi hl
    obtain ⟨s1, s2, s3, s4, s5⟩ := fieldF_spec b hb i hi
    refine loop_done ?_
    rw [one i acc hi hl, if_neg]
    · rfl
    · intro hc; have := at_in hc; simp only [fe] at this; omega
  | succ n ih =>
    intro i acc h hi hl
    obtain ⟨s1, s2, s3, s4, s5⟩ := fieldF_spec b hb i hi
    have h0 : i ≤ fe b i := s1
    simp only [fsF]
    by_cases c : at_ b 44 (fe b i) = true
    · have hlt := at_in c
      rw [if_pos c]
      refine loop_next (by rw [one i acc hi hl, if_pos c]) ?_
      rw [ih (fe b i + 1) (acc ++ [rField b i]) (by omega) (by omega) (by simp; omega)]
      simp
    · rw [if_neg c]
      exact loop_done (by rw [one i acc hi hl, if_neg c]; rfl)
theorem rRow_eq (b : List UInt8) (hb : b.length ≤ 2000000) (i : Nat) (hi : i < b.length) : ref05_One b (i : Int) = some (rRow b i, ((nx b i : Nat) : Int)) := by
  obtain ⟨h1, h2, h3, h4, h5, h6⟩ := fsF_spec b hb b.length i (by omega) (by omega)
  unfold ref05_One
  rw [if_neg (by omega), decide_eq_false (by omega), bnd_some', if_neg (by simp)]
  have := rRowLoop b hb b.length i [] (by omega) (by omega) (by simp)
  simp only [List.nil_append] at this
  rw [this, bnd_some']
  unfold rRow nx
  rw [show fs b i = fsF b b.length i from rfl]
  generalize fsF b b.length i = r at *
  obtain ⟨L, e⟩ := r
  simp only at *
  unfold endF
  have q : ∀ (c : UInt8) (n : Nat), (c.toNat = n) → ∀ x : UInt8, ((x.toNat : Int) == (n : Int)) = (x == c) := fun c n hc x => by
    rw [Bool.eq_iff_iff, beq_iff_eq, beq_iff_eq, ← u8n, hc]
  have e10 : (if (e : Int) < (b.length : Int) then bnd (idx b (e : Int)) fun x27 => some ((x27.toNat : Int) == 10) else some false : Option Bool) = some (at_ b 10 e) := by
    by_cases h : e < b.length
    · rw [if_pos (by omega), idx_nat (List.getElem?_eq_getElem h), bnd_some']
      simp only [at_, List.getElem?_eq_getElem h]
      rw [show ((10 : Int)) = ((10 : Nat) : Int) from rfl, q 10 10 rfl]
      simp
    · rw [if_neg (by omega)]; simp [at_, List.getElem?_eq_none (show b.length ≤ e by omega)]
  rw [e10, bnd_some']
  by_cases c1 : at_ b 10 e = true
  · rw [if_pos c1, if_pos c1, w64_id ⟨by omega, by omega⟩]; rfl
  · rw [if_neg c1, if_neg c1, w64_id (x := (e : Int) + 1) ⟨by omega, by omega⟩]
    have e13 : (if (e : Int) + 1 < (b.length : Int) then bnd (idx b (e : Int)) fun x31 => if (x31.toNat : Int) = 13 then bnd (idx b ((e : Int) + 1)) fun x33 => some ((x33.toNat : Int) == 10) else some false else some false : Option Bool) = some (at_ b 13 e && at_ b 10 (e + 1)) := by
      by_cases h : e + 1 < b.length
      · have h' : e < b.length := by omega
        rw [if_pos (by omega), idx_nat (List.getElem?_eq_getElem h'), bnd_some', show (e : Int) + 1 = ((e + 1 : Nat) : Int) by omega, idx_nat (List.getElem?_eq_getElem h), bnd_some']
        simp only [at_, List.getElem?_eq_getElem h, List.getElem?_eq_getElem h']
        rw [show ((10 : Int)) = ((10 : Nat) : Int) from rfl, q 10 10 rfl]
        simp only [u8_13]
        by_cases c : b[e] = 13
        · simp [c]
        · simp [c]
      · rw [if_neg (by omega)]
        have : at_ b 10 (e + 1) = false := by simp [at_, List.getElem?_eq_none (show b.length ≤ e + 1 by omega)]
        rw [this]; simp
    rw [e13, bnd_some']
    by_cases c2 : at_ b 13 e = true
    · have := at_in c2
      rw [if_pos c2, c2]
      by_cases c3 : at_ b 10 (e + 1) = true
      · rw [if_pos c3, c3, if_pos (by rfl), w64_id ⟨by omega, by omega⟩]; rfl
      · rw [if_neg c3, if_neg (by simpa using c3), if_pos (by omega)]; rfl
    · have hlt : ¬ e < b.length := by
        intro hlt
        simp only [at_, List.getElem?_eq_getElem hlt, mk, isMark] at *
        simp at c1 c2 h3 h4
        rcases h3 with (h | h) | h
        · exact h4 h
        · exact c2 h
        · exact c1 h
      rw [if_neg c2, if_neg (by simp [c2]), if_neg (by omega)]
theorem nx_lt (b : List UInt8) (hb : b.length ≤ 2000000) (i : Nat) (hi : i < b.length) : i < nx b i ∧ nx b i ≤ b.length := by
  obtain ⟨h1, h2, h3, h4, h5, h6⟩ := fsF_spec b hb b.length i (by omega) (by omega)
  obtain ⟨g1, g2, g3⟩ := endF_spec b (fs b i).2 h2
  refine ⟨?_, g2⟩
  rcases Nat.lt_or_ge (fs b i).2 b.length with h | h
  · have := g3 h3 h4 h
    have h1' : i ≤ (fs b i).2 := h1
    simp only [nx]; omega
  · simp only [nx]; omega
/-- Where rows begin. -/
def rsF (b : List UInt8) : Nat → Nat → List Nat
  | 0, _ => []
  | n + 1, i => if i < b.length then i :: rsF b n (nx b i) else []
theorem sAllLoop (b : List UInt8) (hb : b.length ≤ 2000000) : ∀ n i acc, b.length ≤ i + n → i ≤ b.length → acc.length ≤ i → loop (scan_All.l1 b) (acc, (i : Int)) = some (acc ++ (rsF b n i).map (sRow b)) := by
  have stop : ∀ (i : Nat) acc, b.length ≤ i → scan_All.l1 b (acc, (i : Int)) = some (.done acc) := fun i acc h => by
    unfold scan_All.l1
    simp only
    rw [done_eq, bnd_some', decide_eq_true h, if_pos rfl]
  intro n
  induction n with
  | zero => intro i acc h hi hl; rw [show acc ++ (rsF b 0 i).map (sRow b) = acc by simp [rsF]]; exact loop_done (stop i acc (by omega))
  | succ n ih =>
    intro i acc h hi hl
    simp only [rsF]
    by_cases c : i < b.length
    · rw [if_pos c]
      obtain ⟨n1, n2⟩ := nx_lt b hb i c
      refine loop_next (s' := (acc ++ [sRow b i], ((nx b i : Nat) : Int))) ?_ ?_
      · unfold scan_All.l1
        simp only
        rw [done_eq, bnd_some', decide_eq_false (by omega), if_neg (by simp), sRow_eq b hb i hi, bnd_some', app_of (by simp; omega), bnd_some']
      · rw [ih _ _ (by omega) n2 (by simp; omega)]; simp
    · rw [if_neg c, show acc ++ List.map (sRow b) [] = acc by simp]; exact loop_done (stop i acc (by omega))
def rs (b : List UInt8) : List Nat := rsF b b.length 0
theorem sAll_eq (b : List UInt8) (hb : b.length ≤ 2000000) : scan_All b = some ((rs b).map (sRow b)) := by
  unfold scan_All
  have := sAllLoop b hb b.length 0 [] (by omega) (by omega) (by simp)
  rw [show ((0 : Nat) : Int) = 0 from rfl] at this
  rw [this, bnd_some']; rfl
theorem starts_spec (b : List UInt8) (hb : b.length ≤ 2000000) (i : Nat) (hi : i ≤ b.length) : (∀ j ∈ (fs b i).1, j ≤ b.length) ∧ (fs b i).1.length ≤ 2000001 := by
  obtain ⟨h1, h2, h3, h4, h5, h6⟩ := fsF_spec b hb b.length i (by omega) hi
  exact ⟨h5, by have : (fs b i).1.length ≤ b.length + 1 - i := h6
                omega⟩
def bytesAt (b : List UInt8) (p : List Int) : List UInt8 := p.filterMap fun x => b[x.toNat]?
theorem bytesAt_append (b : List UInt8) (p r : List Int) : bytesAt b (p ++ r) = bytesAt b p ++ bytesAt b r := by simp [bytesAt]
theorem bytesAt_len (b : List UInt8) (p : List Int) : (bytesAt b p).length ≤ p.length := List.length_filterMap_le _ _
theorem take_one (b : List UInt8) (n : Nat) (h : n < b.length) : b.take (n + 1) = b.take n ++ [b[n]] := List.take_succ_eq_append_getElem h
theorem bytes_range (b : List UInt8) (a : Nat) : ∀ n, a + n ≤ b.length → (b.take (a + n)).drop a = bytesAt b (rangeI (a : Int) n)
  | 0, h => by rw [List.drop_eq_nil_of_le (by simp; omega)]; rfl
  | n + 1, h => by
    rw [← Nat.add_assoc, take_one b (a + n) (by omega), List.drop_append_of_le_length (by simp; omega), bytes_range b a n (by omega), rangeI_succ, bytesAt_append]
    congr 1
    simp only [bytesAt, List.filterMap_cons, List.filterMap_nil]
    rw [show ((a : Int) + (n : Int)).toNat = a + n by omega, List.getElem?_eq_getElem (by omega)]
theorem text_eq (b : List UInt8) (hb : b.length ≤ 2000000) (p : List Int) (hp : ∀ x ∈ p, 0 ≤ x ∧ x < (b.length : Int)) (hl : p.length ≤ 2000000) : ref05_Text b p = some (bytesAt b p) := by
  have h := loop_fold (f := ref05_Text.l1 b p) (fun i (s : List UInt8) => (s, i)) p (fun pre => bytesAt b pre) (t := bytesAt b p)
    (fun pre x suf hs => by
      have hx := hp x (by rw [hs]; simp)
      have hpl : pre.length + 1 ≤ p.length := by rw [hs]; simp
      have hbl := bytesAt_len b pre
      unfold ref05_Text.l1
      simp only
      rw [if_pos (by omega), show idx p (pre.length : Int) = some x by rw [hs]; exact idx_at pre x suf, bnd_some', w64_id (x := x + 1) ⟨by omega, by omega⟩, cut_of ⟨by omega, by omega, by omega⟩, bnd_some', w64_id ⟨by omega, by omega⟩]
      have e : (b.take (x + 1).toNat).drop x.toNat = bytesAt b [x] := by
        have := bytes_range b x.toNat 1 (by omega)
        rw [show (x + 1).toNat = x.toNat + 1 by omega, this, show rangeI ((x.toNat : Nat) : Int) 1 = [x] by simp [rangeI]; omega]
      rw [e, bytesAt_append]
      have hl1 := bytesAt_len b [x]
      simp only [List.length_cons, List.length_nil] at hl1
      rw [catS, if_pos (by omega), bnd_some'])
    (by
      unfold ref05_Text.l1
      simp only
      rw [if_neg (by omega)])
  unfold ref05_Text
  have h' : loop (ref05_Text.l1 b p) ([], 0) = some (bytesAt b p) := by simpa [bytesAt] using h
  rw [h', bnd_some']
theorem rAllLoop (b : List UInt8) (hb : b.length ≤ 2000000) : ∀ n i acc, b.length ≤ i + n → i ≤ b.length → acc.length ≤ i → loop (ref05_All.l1 b) ((i : Int), acc) = some (acc ++ (rsF b n i).map (rRow b)) := by
  have stop : ∀ (i : Nat) acc, b.length ≤ i → ref05_All.l1 b ((i : Int), acc) = some (.done acc) := fun i acc h => by
    unfold ref05_All.l1
    simp only
    rw [if_neg (by omega)]
  intro n
  induction n with
  | zero => intro i acc h hi hl; rw [show acc ++ (rsF b 0 i).map (rRow b) = acc by simp [rsF]]; exact loop_done (stop i acc (by omega))
  | succ n ih =>
    intro i acc h hi hl
    simp only [rsF]
    by_cases c : i < b.length
    · rw [if_pos c]
      obtain ⟨n1, n2⟩ := nx_lt b hb i c
      refine loop_next (s' := (((nx b i : Nat) : Int), acc ++ [rRow b i])) ?_ ?_
      · unfold ref05_All.l1
        simp only
        rw [if_pos (by omega), rRow_eq b hb i c, bnd_some', app_of (by simp; omega), bnd_some']
      · rw [ih _ _ (by omega) n2 (by simp; omega)]; simp
    · rw [if_neg c, show acc ++ List.map (rRow b) [] = acc by simp]; exact loop_done (stop i acc (by omega))
theorem rAll_eq (b : List UInt8) (hb : b.length ≤ 2000000) : ref05_All b = some ((rs b).map (rRow b)) := by
  unfold ref05_All
  have := rAllLoop b hb b.length 0 [] (by omega) (by omega) (by simp)
  rw [show ((0 : Nat) : Int) = 0 from rfl] at this
  rw [this, bnd_some']; rfl
def InA (r : List Int) (a : List UInt8) : Prop := ∀ x ∈ r, 0 ≤ x ∧ x < (a.length : Int)
theorem inA_good {r : List Int} {a : List UInt8} (h : InA r a) (ha : a.length ≤ 2000000) : GoodP r := fun x hx => by have := h x hx; omega
theorem inA_app {r : List Int} {a : List UInt8} (h : InA r a) (m : List UInt8) : InA r (a ++ m) := fun x hx => by have := h x hx; simp only [List.length_append]; omega
theorem bytesAt_app {r : List Int} {a : List UInt8} (h : InA r a) (m : List UInt8) : bytesAt (a ++ m) r = bytesAt a r := by
  unfold bytesAt
  induction r with
  | nil => rfl
  | cons x r ih =>
    have hx := h x (by simp)
    have ih' := ih (fun y hy => h y (by simp [hy]))
    simp only [List.filterMap_cons]
    rw [List.getElem?_append_left (by omega), ih']
theorem bytesA_range {s : arena_Span} {a : List UInt8} (h0 : 0 ≤ s.fAt) (h1 : 0 ≤ s.fN) (h2 : s.fAt + s.fN ≤ a.length) : bytesA s a = bytesAt a (exp1 s) ∧ rightA s a = true := by
  have hr : rightA s a = true := by unfold rightA; simp only [decide_eq_true_eq]; omega
  refine ⟨?_, hr⟩
  unfold bytesA
  rw [if_pos hr]
  have := bytes_range a s.fAt.toNat s.fN.toNat (by omega)
  rw [show (s.fAt + s.fN).toNat = s.fAt.toNat + s.fN.toNat by omega, this, exp1, show ((s.fAt.toNat : Nat) : Int) = s.fAt by omega]
theorem exp1_last {x : arena_Span} (h : 1 ≤ x.fN) : x.fAt + ((x.fN.toNat - 1 : Nat) : Int) ∈ exp1 x := by
  simp only [exp1, rangeI, List.mem_map, List.mem_range]
  exact ⟨x.fN.toNat - 1, by omega, rfl⟩
theorem Flat_eq (t : piece_Text) (r : List Int) (a : List UInt8) (ht : t.fL = canon r) (hr : InA r a) (ha : a.length ≤ 2000000) (hl : r.length ≤ 2000000) : piece_Text_Flat t a = some (bytesAt a r) := by
  have p1 := inA_good hr ha
  have hc := canon_len r
  have hg := canon_good r p1
  have h := loop_fold (f := piece_Text_Flat.l1 t a) (fun k (s : List UInt8) => (k, s)) (canon r) (fun pre => bytesAt a (expand pre)) (t := bytesAt a r)
    (fun pre x suf hs => by
      obtain ⟨g1, g2, g3⟩ := exp_sub p1 (show canon r = pre ++ (x :: suf) from hs)
      have hx : Good x := hg x (by rw [hs]; simp)
      simp only [Good] at hx
      have hpl : pre.length + 1 ≤ (canon r).length := by rw [hs]; simp
      have hbl := bytesAt_len a (expand pre)
      have hin : x.fAt + x.fN ≤ (a.length : Int) := by
        have := hr (x.fAt + ((x.fN.toNat - 1 : Nat) : Int)) (by
          rw [g3, show x :: suf = [x] ++ suf from rfl, expand_append, expand_one]
          simp only [List.mem_append]
          exact .inr (.inl (exp1_last (by omega))))
        omega
      obtain ⟨e1, e2⟩ := bytesA_range (s := x) (a := a) (by omega) (by omega) hin
      have hl1 := bytesAt_len a (exp1 x)
      have hl2 : (exp1 x).length = x.fN.toNat := rangeI_len _ _
      unfold piece_Text_Flat.l1
      rw [ht]
      simp only
      rw [if_pos (by omega), show idx (canon r) (pre.length : Int) = some x by rw [hs]; exact idx_at pre x suf, bnd_some', Bytes_eq _ _ (by omega), bnd_some', e1, app_of (by omega), bnd_some', w64_id ⟨by omega, by omega⟩, expand_append, expand_one, bytesAt_append])
    (by
      unfold piece_Text_Flat.l1
      rw [ht]
      simp only
      rw [if_neg (by omega), canon_expand r p1])
  unfold piece_Text_Flat
  have h' : loop (piece_Text_Flat.l1 t a) (0, []) = some (bytesAt a r) := by simpa [bytesAt, expand] using h
  rw [h', bnd_some']
theorem OfG_eq (fa : List arena_Span) (h1 : fa.length ≤ 2000000) (h2 : ∀ s ∈ fa, 1 ≤ s.fN → Good s) (hp : GoodP (expand fa)) (hl : (expand fa).length ≤ 2000000) : piece_Of fa = some (tOf (expand fa)) := by
  have h : loop (piece_Of.l1 fa) (0, 0, []) = some (((expand fa).length : Int), canon (expand fa)) := by
    refine loop_fold (f := piece_Of.l1 fa) (fun i (s : Int × List arena_Span) => (i, s)) fa (fun pre => (((expand pre).length : Int), canon (expand pre))) (t := (((expand fa).length : Int), canon (expand fa))) ?_ ?_
    · intro pre x suf hs
      have hpre : GoodP (expand pre) ∧ (expand pre).length ≤ (expand fa).length := by
        have e : expand fa = expand pre ++ expand (x :: suf) := by rw [hs, expand_append]
        exact ⟨fun y hy => hp y (by rw [e]; exact List.mem_append.2 (.inl hy)), by rw [e]; simp⟩
      have h1' : pre.length + 1 ≤ fa.length := by rw [hs]; simp
      have hc := canon_len (expand pre)
      unfold piece_Of.l1
      simp only
      rw [if_pos (by omega), show idx fa (pre.length : Int) = some x by rw [hs]; exact idx_at pre x suf, bnd_some', with_eq x _ _ (canon_good _ hpre.1) (h2 x (by rw [hs]; simp)) ⟨by omega, by omega⟩ (by omega), bnd_some', w64_id ⟨by omega, by omega⟩, expand_append, expand_one]
      simp only [addS_exp]
      rw [show (exp1 x).foldl addI (canon (expand pre)) = canon (expand pre ++ exp1 x) by simp [canon, List.foldl_append]]
      simp [exp1, rangeI_len]
    · unfold piece_Of.l1
      simp only
      rw [if_neg (by omega)]
  unfold piece_Of
  rw [h, bnd_some']
  rfl
/-- The text of spans side by side. -/
theorem OfC_eq (r : List Int) (hr : GoodP r) (hl : r.length ≤ 2000000) : piece_Of (canon r) = some (tOf r) := by
  have hc := canon_len r
  have he := canon_expand r hr
  have := OfG_eq (canon r) (by omega) (fun s hs _ => canon_good r hr s hs) (by rw [he]; exact hr) (by rw [he]; exact hl)
  rw [this, he]
theorem PLen_eq (r : List Int) : piece_Text_Len (tOf r) = some (r.length : Int) := rfl
theorem CBytes_eq (r : List Int) (raw : arena_Span) (k : Bool) (a : List UInt8) (hr : InA r a) (ha : a.length ≤ 16384) (hl : r.length ≤ 2000000) : cell_Cell_Bytes ⟨tOf r, raw, k⟩ a = some (bytesAt a r) := by
  unfold cell_Cell_Bytes
  rw [Flat_eq (tOf r) r a rfl hr (by omega) hl, bnd_some']
theorem Plain_eq (r : List Int) (raw : arena_Span) (k : Bool) (a : List UInt8) (hr : InA r a) (ha : a.length ≤ 16384) (hl : r.length ≤ 2000000) : law07_Plain ⟨tOf r, raw, k⟩ a = some ⟨bytesAt a r, if k = true then bytesA raw a else [], k⟩ := by
  unfold law07_Plain
  rw [CBytes_eq r raw k a hr ha hl, bnd_some']
  dsimp only
  cases k with
  | true => rw [if_pos rfl, if_pos rfl, Bytes_eq _ _ (by omega), bnd_some', bnd_some']
  | false => rw [if_neg (by simp), if_neg (by simp), bnd_some']
theorem PlainK_eq (r : List Int) (raw : arena_Span) (a : List UInt8) (hr : InA r a) (ha : a.length ≤ 16384) (hl : r.length ≤ 2000000) : law07_Plain ⟨tOf r, raw, true⟩ a = some ⟨bytesAt a r, bytesA raw a, true⟩ := by
  rw [Plain_eq r raw true a hr ha hl, if_pos rfl]
theorem Load_eq (r : List Int) (raw : arena_Span) (k : Int) (hr : GoodP r) (hl : r.length ≤ 2000000) : cell_Load ⟨raw, k, canon r⟩ = some ⟨tOf r, raw, true⟩ := by
  unfold cell_Load
  rw [OfC_eq r hr hl, bnd_some']
theorem set_at {α : Type} (l : List α) (x y : α) (r : List α) (n : Nat) (h : n = l.length) : (l ++ x :: r).set n y = l ++ y :: r := by
  subst h
  induction l with
  | nil => rfl
  | cons a l ih => simp
def zc : cell_Cell := ⟨⟨[], 0⟩, ⟨0, 0⟩, false⟩
def kc (w : List UInt8) (j : Nat) : cell_Cell := ⟨tOf (fieldF w j).2.1, ⟨(j : Int), (((fieldF w j).2.2 - j : Nat) : Int)⟩, true⟩
def pc (w : List UInt8) (j : Nat) : ref07_Cell := ⟨bytesAt w (fieldF w j).2.1, (w.take (fieldF w j).2.2).drop j, true⟩
def short (w : List UInt8) (j : Nat) : Bool := decide ((fieldF w j).2.1.length ≤ 400)
theorem kc_eq (w : List UInt8) (hb : w.length ≤ 16384) (j : Nat) (hj : j ≤ w.length) : cell_Load (sField w j) = some (kc w j) := by
  obtain ⟨f1, f2, f3, f4, f5⟩ := fieldF_spec w (by omega) j hj
  exact Load_eq (fieldF w j).2.1 ⟨(j : Int), (((fieldF w j).2.2 - j : Nat) : Int)⟩ (fieldF w j).1 (inA_good f4 (by omega)) (by omega)
theorem rawA (w : List UInt8) (hb : w.length ≤ 16384) (j : Nat) (hj : j ≤ w.length) : bytesA ⟨(j : Int), (((fieldF w j).2.2 - j : Nat) : Int)⟩ w = (w.take (fieldF w j).2.2).drop j := by
  obtain ⟨f1, f2, f3, f4, f5⟩ := fieldF_spec w (by omega) j hj
  have hr : rightA ⟨(j : Int), (((fieldF w j).2.2 - j : Nat) : Int)⟩ w = true := by unfold rightA; simp only [decide_eq_true_eq]; omega
  unfold bytesA
  rw [if_pos hr]
  dsimp only
  rw [show ((j : Int) + (((fieldF w j).2.2 - j : Nat) : Int)).toNat = (fieldF w j).2.2 by omega, Int.toNat_natCast]
theorem kc_plain (w : List UInt8) (hb : w.length ≤ 16384) (j : Nat) (hj : j ≤ w.length) : law07_Plain (kc w j) w = some (pc w j) := by
  obtain ⟨f1, f2, f3, f4, f5⟩ := fieldF_spec w (by omega) j hj
  have h := PlainK_eq (fieldF w j).2.1 ⟨(j : Int), (((fieldF w j).2.2 - j : Nat) : Int)⟩ w f4 (by omega) (by omega)
  rw [rawA w hb j hj] at h
  exact h
/-- What a loaded row is: 40 cells at most, of 400 bytes at most. -/
def ldR (w : List UInt8) (i : Nat) : row_Row × Int := if (fs w i).1.length > 40 then (⟨[], 0, false⟩, 6) else if (fs w i).1.all (short w) = true then (⟨(fs w i).1.map (kc w), (sRow w i).fEnd, false⟩, 0) else (⟨[], 0, false⟩, 7)
def ldP (w : List UInt8) (i : Nat) : ref08_Row × Int := if (fs w i).1.length > 40 then (⟨[], 0, false⟩, 6) else if (fs w i).1.all (short w) = true then (⟨(fs w i).1.map (pc w), (sRow w i).fEnd, false⟩, 0) else (⟨[], 0, false⟩, 7)
theorem rowLoad_eq (w : List UInt8) (hb : w.length ≤ 16384) (i : Nat) (hi : i ≤ w.length) : row_Load (sRow w i) = some (ldR w i) := by
  obtain ⟨st1, st2⟩ := starts_spec w (by omega) i hi
  unfold row_Load ldR
  rw [show (sRow w i).fFields = (fs w i).1.map (sField w) from rfl, List.length_map]
  by_cases h40 : (fs w i).1.length > 40
  · rw [if_pos (by omega), if_pos h40]
  · rw [if_neg (by omega), if_neg h40, mkz_of (by omega), bnd_some', Int.toNat_natCast]
    obtain ⟨t, t1, t2⟩ := loop_for (f := row_Load.l1 (sRow w i)) (σ := List cell_Cell) (fun k s => (k, s)) (fs w i).1
      (fun pre s => s = pre.map (kc w) ++ List.replicate ((fs w i).1.length - pre.length) zc ∧ pre.all (short w) = true)
      (fun t => (fs w i).1.all (short w) = true ∧ t = Ex.brk ((fs w i).1.map (kc w)) ∨ (fs w i).1.all (short w) = false ∧ t = Ex.ret (⟨[], 0, false⟩, 7))
      (fun pre j suf s hs hI => by
        obtain ⟨hI1, hI2⟩ := hI
        have hlen : (fs w i).1.length = pre.length + (suf.length + 1) := by rw [hs]; simp
        have hj : j ≤ w.length := st1 j (by rw [hs]; simp)
        have hidx : idx (fs w i).1 (pre.length : Int) = some j := by rw [hs]; exact idx_at pre j suf
        rw [show (fs w i).1.length - pre.length = suf.length + 1 by omega, List.replicate_succ] at hI1
        have hx : idx s (pre.length : Int) = some zc := by rw [hI1]; exact idx_of (by rw [List.getElem?_append_right (by simp)]; simp)
        have hset : s.set pre.length (kc w j) = pre.map (kc w) ++ kc w j :: List.replicate suf.length zc := by rw [hI1]; exact set_at _ _ _ _ _ (by simp)
        have hx2 : idx (s.set pre.length (kc w j)) (pre.length : Int) = some (kc w j) := by rw [hset]; exact idx_of (by rw [List.getElem?_append_right (by simp)]; simp)
        unfold row_Load.l1
        simp only
        rw [show (sRow w i).fFields = (fs w i).1.map (sField w) from rfl, if_pos (by simp; omega), idx_map, hidx]
        simp only [Option.map_some, bnd_some']
        rw [kc_eq w hb j hj, bnd_some', hx, bnd_some', Int.toNat_natCast, hx2, bnd_some', show (kc w j).fText = tOf (fieldF w j).2.1 from rfl, PLen_eq, bnd_some']
        by_cases hsh : short w j = true
        · have hsh' := hsh
          unfold short at hsh'
          simp only [decide_eq_true_eq] at hsh'
          rw [if_neg (by omega), w64_id ⟨by omega, by omega⟩]
          refine .inl ⟨_, rfl, ?_, by simp [hI2, hsh]⟩
          rw [hset, show (fs w i).1.length - (pre ++ [j]).length = suf.length by simp; omega]
          simp
        · have hsh' := hsh
          unfold short at hsh'
          simp only [decide_eq_true_eq] at hsh'
          rw [if_pos (by omega)]
          refine .inr ⟨_, rfl, .inr ⟨?_, rfl⟩⟩
          rw [hs]; simp [hsh])
      (fun s hI => by
        obtain ⟨hI1, hI2⟩ := hI
        refine ⟨Ex.brk s, ?_, .inl ⟨hI2, ?_⟩⟩
        · unfold row_Load.l1
          simp only
          rw [show (sRow w i).fFields = (fs w i).1.map (sField w) from rfl, if_neg (by simp)]
        · rw [hI1]; simp) (s0 := List.replicate (fs w i).1.length zc) ⟨by simp, by simp⟩
    rw [show (⟨⟨[], 0⟩, ⟨0, 0⟩, false⟩ : cell_Cell) = zc from rfl, t1, bnd_some']
    rcases t2 with ⟨q, rfl⟩ | ⟨q, rfl⟩
    · dsimp only; rw [if_pos q]
    · dsimp only; rw [if_neg (by rw [q]; decide)]
theorem refLoad_eq (w : List UInt8) (hb : w.length ≤ 16384) (i : Nat) (hi : i ≤ w.length) : ref08_Load w (rRow w i) = some (ldP w i) := by
  obtain ⟨st1, st2⟩ := starts_spec w (by omega) i hi
  unfold ref08_Load ldP
  rw [show (rRow w i).fFields = (fs w i).1.map (rField w) from rfl, List.length_map]
  by_cases h40 : (fs w i).1.length > 40
  · rw [if_pos (by omega), if_pos h40]
  · rw [if_neg (by omega), if_neg h40]
    obtain ⟨t, t1, t2⟩ := loop_for (f := ref08_Load.l1 w (rRow w i)) (σ := List ref07_Cell) (fun k s => (k, s)) (fs w i).1
      (fun pre s => s = pre.map (pc w) ∧ pre.all (short w) = true)
      (fun t => (fs w i).1.all (short w) = true ∧ t = Ex.brk ((fs w i).1.map (pc w)) ∨ (fs w i).1.all (short w) = false ∧ t = Ex.ret (⟨[], 0, false⟩, 7))
      (fun pre j suf s hs hI => by
        obtain ⟨hI1, hI2⟩ := hI
        have hlen : (fs w i).1.length = pre.length + (suf.length + 1) := by rw [hs]; simp
        have hj : j ≤ w.length := st1 j (by rw [hs]; simp)
        have hidx : idx (fs w i).1 (pre.length : Int) = some j := by rw [hs]; exact idx_at pre j suf
        obtain ⟨f1, f2, f3, f4, f5⟩ := fieldF_spec w (by omega) j hj
        have hcut : cut w (j : Int) (w64 ((j : Int) + (((fieldF w j).2.2 - j : Nat) : Int))) = some ((w.take (fieldF w j).2.2).drop j) := by
          rw [w64_id ⟨by omega, by omega⟩, cut_of ⟨by omega, by omega, by omega⟩]
          rw [show ((j : Int) + (((fieldF w j).2.2 - j : Nat) : Int)).toNat = (fieldF w j).2.2 by omega, Int.toNat_natCast]
        unfold ref08_Load.l1
        simp only
        rw [show (rRow w i).fFields = (fs w i).1.map (rField w) from rfl, if_pos (by simp; omega), idx_map, hidx]
        simp only [Option.map_some, bnd_some']
        rw [show (rField w j).fRaw = ⟨(j : Int), (((fieldF w j).2.2 - j : Nat) : Int)⟩ from rfl, show (rField w j).fBytes = (fieldF w j).2.1 from rfl]
        dsimp only
        by_cases hsh : short w j = true
        · have hsh' := hsh
          unfold short at hsh'
          simp only [decide_eq_true_eq] at hsh'
          rw [if_neg (by omega), text_eq w (by omega) _ f4 (by omega), bnd_some', hcut, bnd_some', app_of (by rw [hI1]; simp; omega), bnd_some', w64_id ⟨by omega, by omega⟩]
          refine .inl ⟨_, rfl, ?_, by simp [hI2, hsh]⟩
          rw [hI1]; simp [pc]
        · have hsh' := hsh
          unfold short at hsh'
          simp only [decide_eq_true_eq] at hsh'
          rw [if_pos (by omega)]
          refine .inr ⟨_, rfl, .inr ⟨?_, rfl⟩⟩
          rw [hs]; simp [hsh])
      (fun s hI => by
        obtain ⟨hI1, hI2⟩ := hI
        refine ⟨Ex.brk s, ?_, .inl ⟨hI2, ?_⟩⟩
        · unfold ref08_Load.l1
          simp only
          rw [show (rRow w i).fFields = (fs w i).1.map (rField w) from rfl, if_neg (by simp)]
        · rw [hI1]) (s0 := []) ⟨rfl, rfl⟩
    rw [t1, bnd_some']
    rcases t2 with ⟨q, rfl⟩ | ⟨q, rfl⟩
    · dsimp only; rw [if_pos q]; rfl
    · dsimp only; rw [if_neg (by rw [q]; decide)]
theorem rowPlain_of (P : cell_Cell → Option ref07_Cell) (a : List UInt8) (hP : ∀ c, law07_Plain c a = P c) (L : List cell_Cell) (M : List ref07_Cell) (e : Int) (h : Bool) (hL : L.length ≤ 1000) (hm : ∀ (k : Nat) (c : cell_Cell), L[k]? = some c → ∃ m, P c = some m ∧ M[k]? = some m) (hl : L.length = M.length) : law08_Plain ⟨L, e, h⟩ a = some ⟨M, e, h⟩ := by
  have hh := loop_fold (f := law08_Plain.l1 ⟨L, e, h⟩ a) (fun k (s : List ref07_Cell) => (k, s)) L (fun pre => M.take pre.length) (t := M)
    (fun pre x suf hs => by
      have hlen : L.length = pre.length + (suf.length + 1) := by rw [hs]; simp
      have hx : L[pre.length]? = some x := by rw [hs]; simp
      obtain ⟨m, m1, m2⟩ := hm _ _ hx
      unfold law08_Plain.l1
      simp only
      rw [if_pos (by omega), idx_of hx, bnd_some', hP, m1, bnd_some', app_of (by simp; omega), bnd_some', w64_id ⟨by omega, by omega⟩]
      have hlt : pre.length < M.length := by omega
      have e2 : M.take (pre.length + 1) = M.take pre.length ++ [m] := by
        rw [List.take_succ_eq_append_getElem hlt]
        rw [List.getElem?_eq_getElem hlt] at m2
        rw [Option.some.inj m2]
      rw [show (pre ++ [x]).length = pre.length + 1 by simp, e2])
    (by
      unfold law08_Plain.l1
      simp only
      rw [if_neg (by omega), hl, List.take_length])
  unfold law08_Plain
  have h' : loop (law08_Plain.l1 ⟨L, e, h⟩ a) (0, []) = some M := by simpa using hh
  rw [h', bnd_some']
theorem ldPlain (w : List UInt8) (hb : w.length ≤ 16384) (i : Nat) (hi : i ≤ w.length) : law08_Plain (ldR w i).1 w = some (ldP w i).1 ∧ (ldR w i).2 = (ldP w i).2 := by
  obtain ⟨st1, st2⟩ := starts_spec w (by omega) i hi
  have hz (e : Int) (h : Bool) : law08_Plain ⟨[], e, h⟩ w = some ⟨[], e, h⟩ := rowPlain_of (fun c => law07_Plain c w) w (fun c => rfl) [] [] e h (by simp) (fun k c hk => by simp at hk) rfl
  unfold ldR ldP
  by_cases h40 : (fs w i).1.length > 40
  · rw [if_pos h40, if_pos h40]; exact ⟨hz 0 false, rfl⟩
  · rw [if_neg h40, if_neg h40]
    by_cases hs : (fs w i).1.all (short w) = true
    · rw [if_pos hs, if_pos hs]
      refine ⟨rowPlain_of (fun c => law07_Plain c w) w (fun c => rfl) _ _ _ _ (by simp; omega) (fun k c hk => ?_) (by simp), rfl⟩
      rw [List.getElem?_map] at hk ⊢
      cases hq : (fs w i).1[k]? with
      | none => rw [hq] at hk; simp at hk
      | some j =>
        rw [hq] at hk
        simp only [Option.map_some, Option.some.injEq] at hk
        subst hk
        exact ⟨pc w j, kc_plain w hb j (st1 j (List.mem_of_getElem? hq)), rfl⟩
    · rw [if_neg hs, if_neg hs]; exact ⟨hz 0 false, rfl⟩
theorem refCells_same (a b : List ref07_Cell) (ha : a.length ≤ 2000000) : ref07_Same a b = some (decide (a = b)) := by
  unfold ref07_Same
  by_cases c : (a.length : Int) = (b.length : Int)
  · rw [if_pos c]
    obtain ⟨t, h1, h2⟩ := loop_same (f := ref07_Same.l1 a b) () a b (by omega) (by omega) (fun i => rfl)
    rw [h1, bnd_some']
    cases t with
    | brk u => simp only at h2 ⊢; rw [decide_eq_true h2]
    | ret v => simp only at h2 ⊢; rw [h2.1, decide_eq_false h2.2]
  · rw [if_neg c, decide_eq_false (fun h => c (by rw [h]))]
def Gd (a : List UInt8) (c : cell_Cell) : Prop := ∃ r raw k, c = ⟨tOf r, raw, k⟩ ∧ InA r a ∧ r.length ≤ 16384 ∧ rightA raw a = true
noncomputable def plC (a : List UInt8) (c : cell_Cell) : ref07_Cell := (law07_Plain c a).getD ⟨[], [], false⟩
theorem plC_is {a : List UInt8} (ha : a.length ≤ 16384) {r : List Int} {raw : arena_Span} {k : Bool} (h : InA r a) (hl : r.length ≤ 16384) : law07_Plain ⟨tOf r, raw, k⟩ a = some (plC a ⟨tOf r, raw, k⟩) ∧ plC a ⟨tOf r, raw, k⟩ = ⟨bytesAt a r, if k = true then bytesA raw a else [], k⟩ := by
  have := Plain_eq r raw k a h ha (by omega)
  unfold plC
  rw [this]; exact ⟨rfl, rfl⟩
theorem plC_eq {a : List UInt8} (ha : a.length ≤ 16384) {c : cell_Cell} (h : Gd a c) : law07_Plain c a = some (plC a c) := by
  obtain ⟨r, raw, k, rfl, h1, h2, h3⟩ := h
  exact (plC_is ha h1 h2).1
theorem rightA_app {s : arena_Span} {a : List UInt8} (h : rightA s a = true) (m : List UInt8) : rightA s (a ++ m) = true ∧ bytesA s (a ++ m) = bytesA s a := by
  have h' := h
  unfold rightA at h'
  simp only [decide_eq_true_eq] at h'
  obtain ⟨e1, e2⟩ := bytesA_range (s := s) (a := a) (by omega) (by omega) (by omega)
  have hl : ((a ++ m).length : Int) = a.length + m.length := by simp
  obtain ⟨f1, f2⟩ := bytesA_range (s := s) (a := a ++ m) (by omega) (by omega) (by omega)
  refine ⟨f2, ?_⟩
  rw [e1, f1]
  refine bytesAt_app (fun x hx => ?_) m
  simp only [exp1, rangeI, List.mem_map, List.mem_range] at hx
  obtain ⟨q, q1, q2⟩ := hx
  omega
theorem Gd.app {a : List UInt8} {c : cell_Cell} (h : Gd a c) (m : List UInt8) (ha : (a ++ m).length ≤ 16384) : Gd (a ++ m) c ∧ plC (a ++ m) c = plC a c := by
  obtain ⟨r, raw, k, rfl, h1, h2, h3⟩ := h
  obtain ⟨g1, g2⟩ := rightA_app h3 m
  refine ⟨⟨r, raw, k, rfl, inA_app h1 m, h2, g1⟩, ?_⟩
  have ha' : a.length ≤ 16384 := by rw [List.length_append] at ha; omega
  rw [(plC_is ha (inA_app h1 m) h2).2, (plC_is ha' h1 h2).2, bytesAt_app h1 m, g2]
def pz : ref07_Cell := ⟨[], [], false⟩
theorem zc_good (a : List UInt8) (ha : a.length ≤ 16384) : Gd a zc ∧ plC a zc = pz := by
  have h : zc = ⟨tOf [], ⟨0, 0⟩, false⟩ := rfl
  have hi : InA [] a := fun x hx => by simp at hx
  refine ⟨⟨[], ⟨0, 0⟩, false, h, hi, by simp, by unfold rightA; simp only [decide_eq_true_eq]; omega⟩, ?_⟩
  rw [h, (plC_is ha hi (by simp)).2]
  rfl
theorem equal_eq (a b : List UInt8) : bytes_Equal a b = some (a == b) := rfl
theorem cellSame_eq {w : List UInt8} (hw : w.length ≤ 16384) {c d : cell_Cell} (hc : Gd w c) (hd : Gd w d) : cell_Same c d w = some (decide (plC w c = plC w d)) := by
  obtain ⟨r, raw, k, rfl, h1, h2, h3⟩ := hc
  obtain ⟨r', raw', k', rfl, h1', h2', h3'⟩ := hd
  rw [(plC_is hw h1 h2).2, (plC_is hw h1' h2').2]
  unfold cell_Same
  by_cases hk : k = k'
  · subst hk
    rw [if_pos (by simp), CBytes_eq r raw k w h1 hw (by omega), bnd_some', CBytes_eq r' raw' k w h1' hw (by omega), bnd_some', equal_eq, bnd_some', bnd_some']
    by_cases hb : bytesAt w r = bytesAt w r'
    · rw [if_neg (by simp [hb])]
      cases k with
      | true =>
        dsimp only
        rw [if_pos rfl, Bytes_eq _ _ (by omega), bnd_some', Bytes_eq _ _ (by omega), bnd_some', equal_eq, bnd_some', bnd_some']
        simp only [if_true, hb]
        by_cases hr : bytesA raw w = bytesA raw' w
        · rw [hr]; simp
        · rw [decide_eq_false (fun h => hr (by injection h))]
          simpa using hr
      | false =>
        dsimp only
        rw [if_neg (by simp), bnd_some', hb]
        simp
    · rw [if_pos (by simp [hb])]
      rw [decide_eq_false (fun h => hb (by injection h))]
  · rw [if_neg (by simpa using hk), bnd_some', if_pos rfl]
    rw [decide_eq_false (fun h => hk (by injection h))]
def GR (a : List UInt8) (R : row_Row) : Prop := ∀ c ∈ R.fCells, Gd a c
noncomputable def plR (a : List UInt8) (R : row_Row) : ref08_Row := ⟨R.fCells.map (plC a), R.fEnd, R.fHidden⟩
theorem plR_eq {a : List UInt8} (ha : a.length ≤ 16384) {R : row_Row} (h : GR a R) (hl : R.fCells.length ≤ 1000) : law08_Plain R a = some (plR a R) := by
  obtain ⟨L, e, hd⟩ := R
  refine rowPlain_of (fun c => law07_Plain c a) a (fun c => rfl) L _ e hd hl (fun k c hk => ⟨plC a c, plC_eq ha (h c (List.mem_of_getElem? hk)), ?_⟩) (by simp)
  show (L.map (plC a))[k]? = _
  rw [List.getElem?_map, hk]; rfl
theorem GR.app {a : List UInt8} {R : row_Row} (h : GR a R) (m : List UInt8) (ha : (a ++ m).length ≤ 16384) : GR (a ++ m) R ∧ plR (a ++ m) R = plR a R := by
  refine ⟨fun c hc => ((h c hc).app m ha).1, ?_⟩
  unfold plR
  rw [List.map_congr_left (fun c hc => ((h c hc).app m ha).2)]
theorem rowSame_eq {a : List UInt8} (ha : a.length ≤ 16384) {R Q : row_Row} (hR : GR a R) (hQ : GR a Q) (hl : R.fCells.length ≤ 1000) : row_Same R Q a = some (decide (plR a R = plR a Q)) := by
  unfold row_Same
  by_cases c1 : R.fEnd = Q.fEnd
  · rw [if_pos c1, bnd_some']
    by_cases c2 : R.fHidden = Q.fHidden
    · rw [if_neg (by simp [c2])]
      have key : slices_EqualFunc_cell_Cell_cell_Cell_cell_Cell_cell_Cell R.fCells Q.fCells a = some (decide (R.fCells.map (plC a) = Q.fCells.map (plC a))) := by
        unfold slices_EqualFunc_cell_Cell_cell_Cell_cell_Cell_cell_Cell
        by_cases c3 : (R.fCells.length : Int) = (Q.fCells.length : Int)
        · rw [if_pos c3]
          obtain ⟨t, t1, t2⟩ := loop_for (f := slices_EqualFunc_cell_Cell_cell_Cell_cell_Cell_cell_Cell.l1 R.fCells Q.fCells a) (σ := Unit) (fun k _ => k) R.fCells (fun pre _ => pre.map (plC a) = (Q.fCells.take pre.length).map (plC a))
            (fun t => match t with | .brk _ => R.fCells.map (plC a) = Q.fCells.map (plC a) | .ret v => v = false ∧ R.fCells.map (plC a) ≠ Q.fCells.map (plC a))
            (fun pre x suf s hs hI => by
              have hlen : R.fCells.length = pre.length + (suf.length + 1) := by rw [hs]; simp
              have hx : R.fCells[pre.length]? = some x := by rw [hs]; simp
              have hlt : pre.length < Q.fCells.length := by omega
              have hy : Q.fCells[pre.length]? = some Q.fCells[pre.length] := List.getElem?_eq_getElem hlt
              have hsame := cellSame_eq ha (hR x (List.mem_of_getElem? hx)) (hQ _ (List.mem_of_getElem? hy))
              unfold slices_EqualFunc_cell_Cell_cell_Cell_cell_Cell_cell_Cell.l1
              rw [if_pos (by omega), idx_of hx, bnd_some', idx_of hy, bnd_some']
              unfold row_Same_1
              rw [hsame, bnd_some', bnd_some']
              by_cases hq : plC a x = plC a Q.fCells[pre.length]
              · rw [decide_eq_true hq, if_pos rfl, w64_id ⟨by omega, by omega⟩]
                refine .inl ⟨(), rfl, ?_⟩
                rw [List.map_append, hI, show (pre ++ [x]).length = pre.length + 1 by simp, List.take_succ_eq_append_getElem hlt, List.map_append]
                simp [hq]
              · rw [decide_eq_false hq, if_neg (by simp)]
                refine .inr ⟨_, rfl, rfl, fun h => hq ?_⟩
                have h1 : (R.fCells.map (plC a))[pre.length]? = (Q.fCells.map (plC a))[pre.length]? := by rw [h]
                rw [List.getElem?_map, List.getElem?_map, hx, hy] at h1
                exact Option.some.inj h1)
            (fun s hI => by
              refine ⟨Ex.brk (), ?_, ?_⟩
              · unfold slices_EqualFunc_cell_Cell_cell_Cell_cell_Cell_cell_Cell.l1
                rw [if_neg (by omega)]
              · dsimp only
                rw [hI, show R.fCells.length = Q.fCells.length by omega, List.take_length]) (s0 := ()) rfl
          rw [t1, bnd_some']
          cases t with
          | brk u => dsimp only at t2 ⊢; rw [decide_eq_true t2]
          | ret v => dsimp only at t2 ⊢; rw [t2.1, decide_eq_false t2.2]
        · rw [if_neg c3, decide_eq_false (fun h => c3 (by have := congrArg List.length h; simp at this; omega))]
      rw [key, bnd_some']
      congr 1
      unfold plR
      by_cases c3 : R.fCells.map (plC a) = Q.fCells.map (plC a)
      · rw [decide_eq_true c3, decide_eq_true (by rw [c1, c2, c3])]
      · rw [decide_eq_false c3, decide_eq_false (fun h => c3 (by injection h))]
    · rw [if_pos (by simpa using c2), decide_eq_false (fun h => c2 (by unfold plR at h; injection h))]
  · rw [if_neg c1, bnd_some', if_pos rfl, decide_eq_false (fun h => c1 (by unfold plR at h; injection h))]
def insL {α : Type} (l : List α) (i : Nat) (x : α) : List α := l.take i ++ x :: l.drop i
def delL {α : Type} (l : List α) (i : Nat) : List α := l.take i ++ l.drop (i + 1)
def padL {α : Type} (l : List α) (n : Int) (z : α) : List α := l ++ List.replicate ((if 40 < n then 40 else n).toNat - l.length) z
def movL {α : Type} (l : List α) (i j : Nat) (x : α) : List α := insL (delL l i) j x
theorem insL_map {α β : Type} (f : α → β) (l : List α) (i : Nat) (x : α) : (insL l i x).map f = insL (l.map f) i (f x) := by simp [insL]
theorem delL_map {α β : Type} (f : α → β) (l : List α) (i : Nat) : (delL l i).map f = delL (l.map f) i := by simp [delL]
theorem padL_map {α β : Type} (f : α → β) (l : List α) (n : Int) (z : α) : (padL l n z).map f = padL (l.map f) n (f z) := by simp [padL]
theorem movL_map {α β : Type} (f : α → β) (l : List α) (i j : Nat) (x : α) : (movL l i j x).map f = movL (l.map f) i j (f x) := by rw [movL, insL_map, delL_map]; rfl
theorem insL_mem {α : Type} {l : List α} {i : Nat} {x y : α} (h : y ∈ insL l i x) : y = x ∨ y ∈ l := by
  unfold insL at h
  rcases List.mem_append.1 h with h | h
  · exact .inr (List.mem_of_mem_take h)
  · rcases List.mem_cons.1 h with h | h
    · exact .inl h
    · exact .inr (List.mem_of_mem_drop h)
theorem delL_mem {α : Type} {l : List α} {i : Nat} {y : α} (h : y ∈ delL l i) : y ∈ l := by
  unfold delL at h
  rcases List.mem_append.1 h with h | h
  · exact List.mem_of_mem_take h
  · exact List.mem_of_mem_drop h
theorem padL_mem {α : Type} {l : List α} {n : Int} {z y : α} (h : y ∈ padL l n z) : y = z ∨ y ∈ l := by
  unfold padL at h
  rcases List.mem_append.1 h with h | h
  · exact .inr h
  · exact .inl (List.mem_replicate.1 h).2
theorem insL_len {α : Type} (l : List α) {i : Nat} (x : α) (h : i ≤ l.length) : (insL l i x).length = l.length + 1 := by simp [insL]; omega
theorem delL_len {α : Type} (l : List α) {i : Nat} (h : i < l.length) : (delL l i).length = l.length - 1 := by simp [delL]; omega
theorem padL_len {α : Type} (l : List α) (n : Int) (z : α) (h : l.length ≤ 40) : (padL l n z).length ≤ 40 ∧ l.length ≤ (padL l n z).length ∧ (n ≤ 40 → n ≤ (padL l n z).length) := by
  unfold padL
  rw [List.length_append, List.length_replicate]
  split <;> omega
theorem ins_at {α : Type} {l : List α} {i : Nat} {x : α} (h : l[i]? = some x) : l = insL (delL l i) i x := by
  have hlt := (List.getElem?_eq_some_iff.1 h).1
  have e : l.drop i = x :: l.drop (i + 1) := by
    rw [List.getElem?_eq_getElem hlt] at h
    rw [List.drop_eq_getElem_cons hlt, Option.some.inj h]
  unfold insL delL
  rw [List.take_append_of_le_length (by rw [List.length_take]; omega), List.take_take, Nat.min_self, List.drop_append_of_le_length (by rw [List.length_take]; omega), List.drop_of_length_le (by rw [List.length_take]; omega), List.nil_append, ← e, List.take_append_drop]
theorem del_ins {α : Type} (l : List α) {i : Nat} (x : α) (h : i ≤ l.length) : delL (insL l i x) i = l := by
  unfold delL insL
  rw [List.take_append_of_le_length (by rw [List.length_take]; omega), List.take_take, Nat.min_self]
  have : (l.take i ++ x :: l.drop i).drop (i + 1) = l.drop i := by
    have hl : (l.take i).length = i := by rw [List.length_take]; omega
    rw [show i + 1 = (l.take i).length + 1 by rw [hl], List.drop_length_add_append]
    rfl
  rw [this, List.take_append_drop]
theorem ins_get {α : Type} (l : List α) {i : Nat} (x : α) (h : i ≤ l.length) : (insL l i x)[i]? = some x := by
  unfold insL
  rw [List.getElem?_append_right (by rw [List.length_take]; omega), List.length_take, Nat.min_eq_left h, Nat.sub_self]
  rfl
theorem clone_eq (l : List cell_Cell) (h : l.length ≤ 2000000) : slices_Clone_cell_Cell_cell_Cell l = some l := by
  unfold slices_Clone_cell_Cell_cell_Cell
  rw [app_of (by simp; omega), bnd_some', List.nil_append]
theorem pad_eq (L : List cell_Cell) (e : Int) (h : Bool) (n : Int) (hL : L.length ≤ 40) : row_Row_Pad_2 ⟨L, e, h⟩ n = some (e, h, padL L n zc) := by
  unfold row_Row_Pad_2
  rw [clone_eq _ (by show L.length ≤ _; omega), bnd_some']
  have key : ∀ k (l : List cell_Cell), (if 40 < n then 40 else n).toNat - l.length = k → l.length ≤ 40 → loop (row_Row_Pad_2.l1 n) l = some (l ++ List.replicate k zc) := by
    intro k
    induction k with
    | zero =>
      intro l hk hl
      rw [List.replicate_zero, List.append_nil]
      refine loop_done ?_
      unfold row_Row_Pad_2.l1
      rw [if_neg (by split at hk <;> omega)]
    | succ k ih =>
      intro l hk hl
      refine loop_next (s' := l ++ [zc]) ?_ ?_
      · unfold row_Row_Pad_2.l1
        rw [if_pos (by split at hk <;> split <;> omega), app_of (by simp; omega), bnd_some']
        rfl
      · rw [ih (l ++ [zc]) (by rw [List.length_append]; simp only [List.length_cons, List.length_nil]; omega) (by rw [List.length_append]; simp only [List.length_cons, List.length_nil]; split at hk <;> omega), List.replicate_succ]
        simp
  rw [key _ L rfl hL, bnd_some']
  rfl
theorem set_eq (L : List cell_Cell) (e : Int) (h : Bool) (i : Int) (c : cell_Cell) (hL : L.length ≤ 40) : row_Row_Set ⟨L, e, h⟩ i c = some (if i < 0 ∨ 40 ≤ i then (⟨[], 0, false⟩, 5) else (⟨(padL L (i + 1) zc).set i.toNat c, e, h⟩, 0)) := by
  unfold row_Row_Set
  by_cases c1 : i < 0
  · rw [if_pos c1, bnd_some', if_pos rfl, if_pos (.inl c1)]
  · rw [if_neg c1, bnd_some']
    by_cases c2 : 40 ≤ i
    · rw [if_pos (by simpa using c2), if_pos (.inr c2)]
    · rw [if_neg (by simpa using c2), if_neg (by omega), w64_id ⟨by omega, by omega⟩, pad_eq L e h _ hL, bnd_some']
      obtain ⟨_, _, p3⟩ := padL_len L (i + 1) zc hL
      dsimp only
      rw [idx_int (by omega) (List.getElem?_eq_getElem (show i.toNat < (padL L (i + 1) zc).length by have := p3 (by omega); omega)), bnd_some']
theorem insert_eq (L : List cell_Cell) (e : Int) (h : Bool) (i : Int) (c : cell_Cell) (hL : L.length ≤ 40) : row_Row_Insert ⟨L, e, h⟩ i c = some (if i < 0 ∨ (L.length : Int) < i then (⟨[], 0, false⟩, 5) else if 40 ≤ L.length then (⟨[], 0, false⟩, 6) else (⟨insL L i.toNat c, e, h⟩, 0)) := by
  unfold row_Row_Insert
  by_cases c1 : i < 0
  · rw [if_pos c1, bnd_some', if_pos rfl, if_pos (.inl c1)]
  · rw [if_neg c1, bnd_some']
    by_cases c2 : (L.length : Int) < i
    · rw [if_pos (by simpa using c2), if_pos (.inr c2)]
    · rw [if_neg (by simpa using c2), if_neg (show ¬ (i < 0 ∨ (L.length : Int) < i) by omega)]
      by_cases c3 : 40 ≤ L.length
      · rw [if_pos (by dsimp only; omega), if_pos c3]
      · rw [if_neg (by dsimp only; omega), if_neg c3]
        unfold row_Row_ahead row_Row_behind row_Row_with
        dsimp only
        rw [cut_of ⟨by omega, by omega, by omega⟩, bnd_some', bnd_some', app_of (by simp; omega), bnd_some', cut_of ⟨by omega, by omega, by omega⟩, bnd_some', bnd_some', app_of (by simp; omega), bnd_some', bnd_some', Int.toNat_natCast, List.take_length]
        simp [insL]
theorem concat_eq (A B : List cell_Cell) (ha : A.length ≤ 2000000) (hb : B.length ≤ 2000000) : slices_Concat_cell_Cell_cell_Cell [A, B] = some (A ++ B) := by
  unfold slices_Concat_cell_Cell_cell_Cell
  have l1 : loop (slices_Concat_cell_Cell_cell_Cell.l1 [A, B]) (0, 0) = some ((A.length : Int) + (B.length : Int)) := by
    refine loop_next (s' := ((A.length : Int), 1)) ?_ (loop_next (s' := ((A.length : Int) + (B.length : Int), 2)) ?_ (loop_done ?_))
    · unfold slices_Concat_cell_Cell_cell_Cell.l1
      dsimp only
      rw [if_pos (by simp), show idx [A, B] 0 = some A from rfl, bnd_some', w64_id ⟨by omega, by omega⟩, if_neg (by omega), Int.zero_add]
      rfl
    · unfold slices_Concat_cell_Cell_cell_Cell.l1
      dsimp only
      rw [if_pos (by simp), show idx [A, B] 1 = some B from rfl, bnd_some', w64_id ⟨by omega, by omega⟩, if_neg (by omega)]
      rfl
    · unfold slices_Concat_cell_Cell_cell_Cell.l1
      dsimp only
      rw [if_neg (by simp)]
  have hg : slices_Grow_cell_Cell_cell_Cell ((A.length : Int) + (B.length : Int)) = some [] := by
    unfold slices_Grow_cell_Cell_cell_Cell
    rw [if_neg (by omega), w64_id ⟨by omega, by omega⟩]
    by_cases h : (A.length : Int) + (B.length : Int) - 0 > 0
    · rw [if_pos h, mkg_of ⟨by omega, by omega⟩, bnd_some', bnd_some']
    · rw [if_neg h, bnd_some']
  have l2 : loop (slices_Concat_cell_Cell_cell_Cell.l2 [A, B]) (0, []) = some (A ++ B) := by
    refine loop_next (s' := (1, A)) ?_ (loop_next (s' := (2, A ++ B)) ?_ (loop_done ?_))
    · unfold slices_Concat_cell_Cell_cell_Cell.l2
      dsimp only
      rw [if_pos (by simp), show idx [A, B] 0 = some A from rfl, bnd_some', app_of (by simp; omega), bnd_some', List.nil_append]
      rfl
    · unfold slices_Concat_cell_Cell_cell_Cell.l2
      dsimp only
      rw [if_pos (by simp), show idx [A, B] 1 = some B from rfl, bnd_some', app_of (by omega), bnd_some']
      rfl
    · unfold slices_Concat_cell_Cell_cell_Cell.l2
      dsimp only
      rw [if_neg (by simp)]
  rw [l1, bnd_some', hg, bnd_some', l2, bnd_some']
theorem has_eq (R : row_Row) (i : Int) : row_Row_has R i = some (decide (0 ≤ i ∧ i < (R.fCells.length : Int))) := by
  unfold row_Row_has
  by_cases c : 0 ≤ i
  · rw [if_pos c, bnd_some']; simp [c]
  · rw [if_neg c, bnd_some', decide_eq_false (fun h => c h.1)]
theorem delete_eq (L : List cell_Cell) (e : Int) (h : Bool) (i : Int) (hL : L.length ≤ 1000) : row_Row_Delete ⟨L, e, h⟩ i = some (if ¬ (0 ≤ i ∧ i < (L.length : Int)) then (⟨[], 0, false⟩, 5) else if L.length = 1 then (⟨[], 0, false⟩, 9) else (⟨delL L i.toNat, e, h⟩, 0)) := by
  unfold row_Row_Delete
  rw [has_eq, bnd_some']
  dsimp only
  by_cases c : 0 ≤ i ∧ i < (L.length : Int)
  · rw [if_pos (decide_eq_true c), if_neg (show ¬ ¬ (0 ≤ i ∧ i < (L.length : Int)) from fun h => h c)]
    by_cases c2 : L.length = 1
    · rw [if_pos (by omega), if_pos c2]
    · unfold row_Row_ahead row_Row_behind row_Row_with_2
      dsimp only
      rw [if_neg (by omega), if_neg c2, cut_of ⟨by omega, by omega, by omega⟩, bnd_some', bnd_some', w64_id ⟨by omega, by omega⟩, cut_of ⟨by omega, by omega, by omega⟩, bnd_some', bnd_some', concat_eq _ _ (by simp; omega) (by simp; omega), bnd_some', bnd_some', Int.toNat_natCast, List.take_length, show (i + 1).toNat = i.toNat + 1 by omega]
      rfl
  · rw [if_neg (by simpa using c), if_pos c]
/-- Two neighbours change places. -/
theorem swap_up {α : Type} (W : List α) (s : Nat) (x : α) (h : s < W.length) : ∃ y, idx (insL W s x) ((s : Int) + 1) = some y ∧ idx (insL W s x) (s : Int) = some x ∧ ((insL W s x).set s y).set (s + 1) x = insL W (s + 1) x ∧ ∃ z, idx ((insL W s x).set s y) ((s : Int) + 1) = some z := by
  have hl : (W.take s).length = s := by rw [List.length_take]; omega
  have hd : W.drop s = W[s] :: W.drop (s + 1) := List.drop_eq_getElem_cons h
  have e0 : insL W s x = W.take s ++ x :: W[s] :: W.drop (s + 1) := by unfold insL; rw [hd]
  have e1 : W.take s ++ x :: W[s] :: W.drop (s + 1) = (W.take s ++ [x]) ++ W[s] :: W.drop (s + 1) := by rw [List.append_assoc]; rfl
  have e2 : insL W (s + 1) x = W.take s ++ W[s] :: x :: W.drop (s + 1) := by unfold insL; rw [List.take_succ_eq_append_getElem h, List.append_assoc]; rfl
  have s1 : (insL W s x).set s W[s] = W.take s ++ W[s] :: W[s] :: W.drop (s + 1) := by rw [e0]; exact set_at _ _ _ _ _ hl.symm
  refine ⟨W[s], ?_, ?_, ?_, W[s], ?_⟩
  · rw [e0, e1]; exact idx_int (by omega) (by rw [List.getElem?_append_right (by rw [List.length_append, hl]; simp), List.length_append, hl]; simp)
  · rw [e0]; exact idx_of (by rw [List.getElem?_append_right (by omega), hl]; simp)
  · rw [s1, e2, show W.take s ++ W[s] :: W[s] :: W.drop (s + 1) = (W.take s ++ [W[s]]) ++ W[s] :: W.drop (s + 1) by rw [List.append_assoc]; rfl, set_at _ _ _ _ _ (by rw [List.length_append, hl]; rfl), List.append_assoc]; rfl
  · rw [s1, show W.take s ++ W[s] :: W[s] :: W.drop (s + 1) = (W.take s ++ [W[s]]) ++ W[s] :: W.drop (s + 1) by rw [List.append_assoc]; rfl]
    exact idx_int (by omega) (by rw [List.getElem?_append_right (by rw [List.length_append, hl]; simp), List.length_append, hl]; simp)
theorem swap_down {α : Type} (W : List α) (s : Nat) (x : α) (h : s < W.length) : ∃ y, idx (insL W (s + 1) x) (s : Int) = some y ∧ idx (insL W (s + 1) x) ((s : Int) + 1) = some x ∧ ((insL W (s + 1) x).set (s + 1) y).set s x = insL W s x ∧ ∃ z, idx ((insL W (s + 1) x).set (s + 1) y) (s : Int) = some z := by
  have hl : (W.take s).length = s := by rw [List.length_take]; omega
  have hd : W.drop s = W[s] :: W.drop (s + 1) := List.drop_eq_getElem_cons h
  have e0 : insL W (s + 1) x = W.take s ++ W[s] :: x :: W.drop (s + 1) := by unfold insL; rw [List.take_succ_eq_append_getElem h, List.append_assoc]; rfl
  have e1 : W.take s ++ W[s] :: x :: W.drop (s + 1) = (W.take s ++ [W[s]]) ++ x :: W.drop (s + 1) := by rw [List.append_assoc]; rfl
  have e2 : insL W s x = W.take s ++ x :: W[s] :: W.drop (s + 1) := by unfold insL; rw [hd]
  have s1 : (insL W (s + 1) x).set (s + 1) W[s] = W.take s ++ W[s] :: W[s] :: W.drop (s + 1) := by rw [e0, e1, set_at _ _ _ _ _ (by rw [List.length_append, hl]; rfl), List.append_assoc]; rfl
  refine ⟨W[s], ?_, ?_, ?_, W[s], ?_⟩
  · rw [e0]; exact idx_of (by rw [List.getElem?_append_right (by omega), hl]; simp)
  · rw [e0, e1]; exact idx_int (by omega) (by rw [List.getElem?_append_right (by rw [List.length_append, hl]; simp), List.length_append, hl]; simp)
  · rw [s1, e2]; exact set_at _ _ _ _ _ hl.symm
  · rw [s1]; exact idx_of (by rw [List.getElem?_append_right (by omega), hl]; simp)
theorem move_eq (L : List cell_Cell) (e : Int) (h : Bool) (i j : Int) (hL : L.length ≤ 1000) : (¬ ((0 ≤ i ∧ i < (L.length : Int)) ∧ (0 ≤ j ∧ j < (L.length : Int))) ∧ row_Row_Move ⟨L, e, h⟩ i j = some (⟨[], 0, false⟩, 5)) ∨
    (((0 ≤ i ∧ i < (L.length : Int)) ∧ (0 ≤ j ∧ j < (L.length : Int))) ∧ ∃ x, L[i.toNat]? = some x ∧ row_Row_Move ⟨L, e, h⟩ i j = some (⟨movL L i.toNat j.toNat x, e, h⟩, 0)) := by
  unfold row_Row_Move
  rw [has_eq, bnd_some', has_eq]
  dsimp only
  by_cases c1 : 0 ≤ i ∧ i < (L.length : Int)
  · rw [if_pos (decide_eq_true c1), bnd_some', bnd_some']
    by_cases c2 : 0 ≤ j ∧ j < (L.length : Int)
    · rw [decide_eq_true c2, if_neg (by simp)]
      refine .inr ⟨⟨c1, c2⟩, L[i.toNat]'(by omega), List.getElem?_eq_getElem (by omega), ?_⟩
      have hx : L[i.toNat]? = some (L[i.toNat]'(by omega)) := List.getElem?_eq_getElem (by omega)
      generalize L[i.toNat]'(by omega) = x at hx
      rw [clone_eq _ (by omega), bnd_some']
      have hins := ins_at hx
      have hlen := delL_len L (show i.toNat < L.length by omega)
      generalize hW : delL L i.toNat = W at hins hlen
      have fin : ∀ t, row_Row_Move.l1 j t (j, insL W j.toNat x) = some (.done (insL W j.toNat x)) := fun t => by
        unfold row_Row_Move.l1
        rw [if_pos rfl]
      unfold row_Row_with movL
      rw [hW]
      by_cases c3 : j < i
      · rw [if_pos c3, bnd_some']
        have key : ∀ k (s : Nat), s = j.toNat + k → s ≤ W.length → loop (row_Row_Move.l1 j (-1)) ((s : Int), insL W s x) = some (insL W j.toNat x) := by
          intro k
          induction k with
          | zero => intro s hs hle; rw [hs, Nat.add_zero, show ((j.toNat : Nat) : Int) = j by omega]; exact loop_done (fin _)
          | succ k ih =>
            intro s hs hle
            obtain ⟨s, rfl⟩ : ∃ s', s = s' + 1 := ⟨s - 1, by omega⟩
            obtain ⟨y, y1, y2, y3, z, y4⟩ := swap_down W s x (by omega)
            refine loop_next (s' := ((s : Int), insL W s x)) ?_ (ih s (by omega) (by omega))
            unfold row_Row_Move.l1
            dsimp only
            rw [if_neg (by omega), w64_id ⟨by omega, by omega⟩, show ((s + 1 : Nat) : Int) + -1 = (s : Int) by omega, y1, bnd_some', show ((s + 1 : Nat) : Int) = (s : Int) + 1 by omega, y2, bnd_some', show ((s : Int) + 1).toNat = s + 1 by omega, y4, bnd_some', Int.toNat_natCast, y3]
        have := key (i.toNat - j.toNat) i.toNat (by omega) (by omega)
        rw [show ((i.toNat : Nat) : Int) = i by omega, ← hins] at this
        rw [this, bnd_some', bnd_some']
      · rw [if_neg c3, bnd_some']
        have key : ∀ k (s : Nat), j.toNat = s + k → loop (row_Row_Move.l1 j 1) ((s : Int), insL W s x) = some (insL W j.toNat x) := by
          intro k
          induction k with
          | zero => intro s hs; rw [← show j.toNat = s by omega, show ((j.toNat : Nat) : Int) = j by omega]; exact loop_done (fin _)
          | succ k ih =>
            intro s hs
            obtain ⟨y, y1, y2, y3, z, y4⟩ := swap_up W s x (by omega)
            refine loop_next (s' := (((s + 1 : Nat) : Int), insL W (s + 1) x)) ?_ (ih (s + 1) (by omega))
            unfold row_Row_Move.l1
            dsimp only
            rw [if_neg (by omega), w64_id ⟨by omega, by omega⟩, y1, bnd_some', y2, bnd_some', Int.toNat_natCast, y4, bnd_some', show ((s : Int) + 1).toNat = s + 1 by omega, y3]
            rfl
        have := key (j.toNat - i.toNat) i.toNat (by omega)
        rw [show ((i.toNat : Nat) : Int) = i by omega, ← hins] at this
        rw [this, bnd_some', bnd_some']
    · rw [decide_eq_false c2, if_pos (show (!false) = true from rfl)]
      exact .inl ⟨fun h => c2 h.2, rfl⟩
  · rw [if_neg (by simpa using c1), bnd_some', if_pos rfl]
    exact .inl ⟨fun h => c1 h.1, rfl⟩
/-- A row of the program and the document's. -/
structure Both (a : List UInt8) (R : row_Row) (w : ref08_Row) : Prop where
  good : GR a R
  same : plR a R = w
  few : R.fCells.length ≤ 40
theorem Both.app {a : List UInt8} {R : row_Row} {w : ref08_Row} (h : Both a R w) (m : List UInt8) (ha : (a ++ m).length ≤ 16384) : Both (a ++ m) R w := ⟨(h.good.app m ha).1, (h.good.app m ha).2.trans h.same, h.few⟩
theorem kc_good (w : List UInt8) (hb : w.length ≤ 16384) (j : Nat) (hj : j ≤ w.length) : Gd w (kc w j) := by
  obtain ⟨f1, f2, f3, f4, f5⟩ := fieldF_spec w (by omega) j hj
  exact ⟨_, _, _, rfl, f4, by omega, by unfold rightA; simp only [decide_eq_true_eq]; omega⟩
theorem ld_both (w : List UInt8) (hb : w.length ≤ 16384) (i : Nat) (hi : i ≤ w.length) (h : (ldP w i).2 = 0) : Both w (ldR w i).1 (ldP w i).1 ∧ ((ldR w i).1.fCells.length = (fs w i).1.length) := by
  obtain ⟨st1, st2⟩ := starts_spec w (by omega) i hi
  obtain ⟨l1, l2⟩ := ldPlain w hb i hi
  have key : GR w (ldR w i).1 ∧ (ldR w i).1.fCells.length ≤ 40 ∧ ((ldR w i).1.fCells.length = (fs w i).1.length) := by
    unfold ldP at h
    unfold ldR
    by_cases h40 : (fs w i).1.length > 40
    · rw [if_pos h40] at h; exact absurd h (by decide)
    · rw [if_neg h40] at h ⊢
      by_cases hs : (fs w i).1.all (short w) = true
      · rw [if_pos hs]
        refine ⟨fun c hc => ?_, by simp; omega, by simp⟩
        obtain ⟨j, hj, rfl⟩ := List.mem_map.1 hc
        exact kc_good w hb j (st1 j hj)
      · rw [if_neg hs] at h; exact absurd h (by decide)
  refine ⟨⟨key.1, ?_, key.2.1⟩, key.2.2⟩
  rw [plR_eq hb key.1 (by omega)] at l1
  exact Option.some.inj l1
/-- A row cut into parts of nearly the same length. -/
theorem cuts_loop {α : Type} {f : List α × Int × List (List α) → Option (Lp (List α × Int × List (List α)) (List (List α)))} {cl : List α → Option (List α)} (hcl : ∀ l, l.length ≤ 2000000 → cl l = some l)
    (hf : ∀ l m out, f (l, m, out) = if m > 0 then bnd (dvd (l.length : Int) m) fun x15 => bnd (cut l 0 x15) fun x16 => bnd (cl x16) fun x17 => bnd (app 24 out [x17]) fun x19 => bnd (cut l x15 (l.length : Int)) fun x21 => some (.next (x21, w64 (m - 1), x19)) else some (.done out)) :
    ∀ (m : Nat) (l : List α) (out : List (List α)), l.length ≤ 6 * m → l.length ≤ 2000000 → out.length + m ≤ 2000000 →
      ∃ ps, loop f (l, (m : Int), out) = some (out ++ ps) ∧ ps.flatten = l ∧ ps.length = m ∧ (∀ p ∈ ps, p.length ≤ 6) ∧ ∀ c, c * m ≤ l.length → ∀ p ∈ ps, c ≤ p.length := by
  intro m
  induction m with
  | zero =>
    intro l out h1 _ _
    obtain rfl := List.length_eq_zero_iff.1 (show l.length = 0 by omega)
    refine ⟨[], ?_, rfl, rfl, (fun p hp => by cases hp), (fun c _ p hp => by cases hp)⟩
    rw [List.append_nil]
    refine loop_done ?_
    rw [hf, if_neg (by simp)]
  | succ m ih =>
    intro l out h1 h2 h3
    have hd : (m + 1) * (l.length / (m + 1)) + l.length % (m + 1) = l.length := Nat.div_add_mod _ _
    have hr : l.length % (m + 1) < m + 1 := Nat.mod_lt _ (by omega)
    have h6 : l.length / (m + 1) ≤ 6 := Nat.div_le_of_le_mul (by omega)
    have hlow : ∀ c, c * (m + 1) ≤ l.length → c ≤ l.length / (m + 1) := fun c hc => (Nat.le_div_iff_mul_le (by omega)).2 hc
    have hdv : dvd (l.length : Int) ((m + 1 : Nat) : Int) = some (((l.length / (m + 1) : Nat)) : Int) := by
      rw [dvd_of (by omega)]
      show some (w64 (((l.length / (m + 1) : Nat)) : Int)) = _
      have h6' := h6
      generalize l.length / (m + 1) = n at h6' ⊢
      rw [w64_id ⟨by omega, by omega⟩]
    generalize l.length / (m + 1) = n at *
    generalize l.length % (m + 1) = r at *
    have e1 : (m + 1) * n = m * n + n := Nat.succ_mul m n
    have hle : n ≤ l.length := by omega
    have hs6 : (l.drop n).length ≤ 6 * m := by
      rw [List.length_drop]
      rcases Nat.lt_or_ge n 6 with hn | hn
      · have : m * n ≤ m * 5 := Nat.mul_le_mul_left m (by omega)
        omega
      · have : n = 6 := by omega
        omega
    obtain ⟨ps, p1, p2, p3, p4, p5⟩ := ih (l.drop n) (out ++ [l.take n]) hs6 (by rw [List.length_drop]; omega) (by rw [List.length_append]; simp only [List.length_cons, List.length_nil]; omega)
    refine ⟨l.take n :: ps, loop_next (s' := (l.drop n, (m : Int), out ++ [l.take n])) ?_ ?_, ?_, by simp [p3], fun p hp => ?_, fun c hc p hp => ?_⟩
    · rw [hf, if_pos (by omega), hdv, bnd_some', cut_of ⟨by omega, by omega, by omega⟩, bnd_some', hcl _ (by simp; omega), bnd_some', app_of (by simp; omega), bnd_some', cut_of ⟨by omega, by omega, by omega⟩, bnd_some', w64_id ⟨by omega, by omega⟩]
      simp
    · rw [p1]; simp
    · rw [List.flatten_cons, p2, List.take_append_drop]
    · rcases List.mem_cons.1 hp with rfl | hp
      · rw [List.length_take]; omega
      · exact p4 p hp
    · have hcn := hlow c hc
      rcases List.mem_cons.1 hp with rfl | hp
      · rw [List.length_take]; omega
      · refine p5 c ?_ p hp
        rw [List.length_drop]
        have : m * c ≤ m * n := Nat.mul_le_mul_left m hcn
        have e2 : c * m = m * c := Nat.mul_comm _ _
        omega
theorem many_eq (n : Nat) (h : n ≤ 2000000) : w64 (quo (w64 ((w64 ((n : Int) + 6)) - 1)) 5) = (((n + 5) / 6 : Nat) : Int) := by
  rw [w64_id (x := (n : Int) + 6) ⟨by omega, by omega⟩, w64_id (x := (n : Int) + 6 - 1) ⟨by omega, by omega⟩, show (n : Int) + 6 - 1 = ((n + 5 : Nat) : Int) by omega]
  have : quo ((n + 5 : Nat) : Int) 5 = (((n + 5) / 6 : Nat) : Int) := rfl
  rw [this, w64_id ⟨by omega, by omega⟩]
abbrev El := row_Row
instance : Inhabited row_Row := ⟨⟨[], 0, false⟩⟩
abbrev Nd := tNd
theorem oN (z : Nd) : o_tNd (c_tNd z) = some z := o_tNd_c z
theorem cN_inj (a b : Nd) (h : c_tNd a = c_tNd b) : a = b := Option.some.inj ((oN a).symm.trans ((congrArg o_tNd h).trans (oN b)))
def wd (z : Nd) : Nat := z.fKids.length + z.fItems.length
/-- A node, so many nodes above a leaf, and its things. -/
def T : Nat → Nd → List El → Prop
  | 0, z, l => z = ⟨[], l, (l.length : Int)⟩
  | h + 1, z, l => z.fItems = [] ∧ z.fN = (l.length : Int) ∧ ∃ zs : List (Nd × List El), z.fKids = zs.map (fun p => c_tNd p.1) ∧ l = zs.flatMap (fun p => p.2) ∧ ∀ p ∈ zs, T h p.1 p.2 ∧ 3 ≤ wd p.1 ∧ wd p.1 ≤ 6
/-- Nodes as high as each other, none with fewer things than so many. -/
def Fo (lo h : Nat) (xs : List NP) (l : List El) : Prop := ∃ zs : List (Nd × List El), xs = zs.map (fun p => c_tNd p.1) ∧ l = zs.flatMap (fun p => p.2) ∧ ∀ p ∈ zs, T h p.1 p.2 ∧ lo ≤ wd p.1 ∧ wd p.1 ≤ 6
theorem T_succ {h : Nat} {z : Nd} {l : List El} : T (h + 1) z l ↔ z.fItems = [] ∧ z.fN = (l.length : Int) ∧ Fo 3 h z.fKids l := Iff.rfl
theorem T_N {h : Nat} {z : Nd} {l : List El} (ht : T h z l) : z.fN = (l.length : Int) := by
  cases h with
  | zero => rw [show z = ⟨[], l, (l.length : Int)⟩ from ht]
  | succ h => exact ht.2.1
theorem Fo.nil {lo h : Nat} : Fo lo h [] [] := ⟨[], rfl, rfl, fun p hp => by cases hp⟩
theorem Fo.nil_inv {lo h : Nat} {l : List El} (hf : Fo lo h [] l) : l = [] := by
  obtain ⟨zs, h1, h2, _⟩ := hf
  cases zs with
  | nil => exact h2
  | cons a b => simp at h1
theorem Fo.one {lo h : Nat} {z : Nd} {l : List El} (ht : T h z l) (h1 : lo ≤ wd z) (h2 : wd z ≤ 6) : Fo lo h [c_tNd z] l := ⟨[(z, l)], rfl, by simp, fun p hp => by simp at hp; subst hp; exact ⟨ht, h1, h2⟩⟩
theorem Fo.app {lo h : Nat} {a b : List NP} {l m : List El} (ha : Fo lo h a l) (hb : Fo lo h b m) : Fo lo h (a ++ b) (l ++ m) := by
  obtain ⟨zs, rfl, rfl, h1⟩ := ha
  obtain ⟨ws, rfl, rfl, h2⟩ := hb
  exact ⟨zs ++ ws, by simp, by simp, fun p hp => (List.mem_append.1 hp).elim (h1 p) (h2 p)⟩
theorem Fo.split {lo h : Nat} {a b : List NP} {l : List El} (hf : Fo lo h (a ++ b) l) : ∃ la lb, l = la ++ lb ∧ Fo lo h a la ∧ Fo lo h b lb := by
  obtain ⟨zs, h1, rfl, h2⟩ := hf
  obtain ⟨xs, ys, rfl, rfl, rfl⟩ := List.map_eq_append_iff.1 h1.symm
  exact ⟨_, _, by rw [List.flatMap_append], ⟨xs, rfl, rfl, fun p hp => h2 p (List.mem_append.2 (.inl hp))⟩, ⟨ys, rfl, rfl, fun p hp => h2 p (List.mem_append.2 (.inr hp))⟩⟩
theorem Fo.cons_inv {lo h : Nat} {x : NP} {xs : List NP} {l : List El} (hf : Fo lo h (x :: xs) l) : ∃ z m r, x = c_tNd z ∧ T h z m ∧ lo ≤ wd z ∧ wd z ≤ 6 ∧ l = m ++ r ∧ Fo lo h xs r := by
  obtain ⟨zs, h1, rfl, h2⟩ := hf
  cases zs with
  | nil => simp at h1
  | cons p zs =>
    simp only [List.map_cons, List.cons.injEq] at h1
    obtain ⟨g1, g2, g3⟩ := h2 p (by simp)
    exact ⟨p.1, p.2, _, h1.1, g1, g2, g3, by simp, ⟨zs, h1.2, rfl, fun q hq => h2 q (by simp [hq])⟩⟩
theorem Fo.mono {lo lo' h : Nat} {xs : List NP} {l : List El} (hf : Fo lo h xs l) (hl : lo' ≤ lo) : Fo lo' h xs l := by
  obtain ⟨zs, h1, h2, h3⟩ := hf
  exact ⟨zs, h1, h2, fun p hp => ⟨(h3 p hp).1, Nat.le_trans hl (h3 p hp).2.1, (h3 p hp).2.2⟩⟩
/-- A node in the midst. -/
theorem Fo.at_ {lo h : Nat} {xs : List NP} {l : List El} (hf : Fo lo h xs l) {k : Nat} (hk : k < xs.length) : ∃ z la m lb, xs[k]? = some (c_tNd z) ∧ T h z m ∧ lo ≤ wd z ∧ wd z ≤ 6 ∧ l = la ++ m ++ lb ∧ Fo lo h (xs.take k) la ∧ Fo lo h (xs.drop (k + 1)) lb := by
  have e : xs = xs.take k ++ xs[k] :: xs.drop (k + 1) := by rw [← List.drop_eq_getElem_cons hk, List.take_append_drop]
  rw [e] at hf
  obtain ⟨la, lb, rfl, h1, h2⟩ := hf.split
  obtain ⟨z, m, r, g1, g2, g3, g4, rfl, g6⟩ := h2.cons_inv
  exact ⟨z, la, m, r, by rw [List.getElem?_eq_getElem hk, g1], g2, g3, g4, by simp, h1, g6⟩
theorem cloneEl (l : List El) (h : l.length ≤ 2000000) : slices_Clone_row_Row_row_Row l = some l := by
  unfold slices_Clone_row_Row_row_Row
  rw [app_of (by simp; omega), bnd_some', List.nil_append]
theorem cloneNP (l : List NP) (h : l.length ≤ 2000000) : slices_Clone_tree_Node_row_Row_tree_Node_row_Row l = some l := by
  unfold slices_Clone_tree_Node_row_Row_tree_Node_row_Row
  rw [app_of (by simp; omega), bnd_some', List.nil_append]
theorem cutsEl (l : List El) (h : l.length ≤ 2000000) : ∃ ps, tree_cuts_row_Row l = some ps ∧ ps.flatten = l ∧ ps.length = (l.length + 5) / 6 ∧ (∀ p ∈ ps, p.length ≤ 6) ∧ ∀ c, c * ((l.length + 5) / 6) ≤ l.length → ∀ p ∈ ps, c ≤ p.length := by
  obtain ⟨ps, p1, p2⟩ := cuts_loop (f := tree_cuts_row_Row.l1) (cl := slices_Clone_row_Row_row_Row) cloneEl (fun l m out => rfl) ((l.length + 5) / 6) l [] (by omega) h (by simp; omega)
  refine ⟨ps, ?_, p2⟩
  unfold tree_cuts_row_Row
  rw [many_eq _ h, mkc_of ⟨by omega, by omega⟩, bnd_some', p1, bnd_some', List.nil_append]
theorem cutsNP (l : List NP) (h : l.length ≤ 2000000) : ∃ ps, tree_cuts_tree_Node_row_Row l = some ps ∧ ps.flatten = l ∧ ps.length = (l.length + 5) / 6 ∧ (∀ p ∈ ps, p.length ≤ 6) ∧ ∀ c, c * ((l.length + 5) / 6) ≤ l.length → ∀ p ∈ ps, c ≤ p.length := by
  obtain ⟨ps, p1, p2⟩ := cuts_loop (f := tree_cuts_tree_Node_row_Row.l1) (cl := slices_Clone_tree_Node_row_Row_tree_Node_row_Row) cloneNP (fun l m out => rfl) ((l.length + 5) / 6) l [] (by omega) h (by simp; omega)
  refine ⟨ps, ?_, p2⟩
  unfold tree_cuts_tree_Node_row_Row
  rw [many_eq _ h, mkc_of ⟨by omega, by omega⟩, bnd_some', p1, bnd_some', List.nil_append]
theorem leaf_fo (p : List El) {lo : Nat} (h1 : lo ≤ p.length) (h2 : p.length ≤ 6) : Fo lo 0 [c_tNd ⟨[], p, (p.length : Int)⟩] p := Fo.one rfl (by simpa [wd] using h1) (by simpa [wd] using h2)
theorem leaves_fo {lo : Nat} : ∀ (ps : List (List El)), (∀ p ∈ ps, lo ≤ p.length ∧ p.length ≤ 6) → Fo lo 0 (ps.map fun p => c_tNd ⟨[], p, (p.length : Int)⟩) ps.flatten
  | [], _ => Fo.nil
  | p :: ps, h => by
    have := (leaf_fo p (h p (by simp)).1 (h p (by simp)).2).app (leaves_fo ps (fun q hq => h q (by simp [hq])))
    simpa using this
theorem leaves_eq (l : List El) (h : l.length ≤ 2000000) : ∃ xs, tree_leaves_row_Row l = some xs ∧ xs.length = (l.length + 5) / 6 ∧ ∀ c, c * ((l.length + 5) / 6) ≤ l.length → Fo c 0 xs l := by
  obtain ⟨ps, p1, p2, p3, p4, p5⟩ := cutsEl l h
  refine ⟨ps.map fun p => c_tNd ⟨[], p, (p.length : Int)⟩, ?_, by rw [List.length_map, p3], fun c hc => ?_⟩
  · unfold tree_leaves_row_Row
    rw [p1, bnd_some']
    have hh := loop_fold (f := tree_leaves_row_Row.l1 ps) (fun k (s : List NP) => (k, s)) ps (fun pre => pre.map fun p => c_tNd ⟨[], p, (p.length : Int)⟩) (t := ps.map fun p => c_tNd ⟨[], p, (p.length : Int)⟩)
      (fun pre x suf hs => by
        have hlen : ps.length = pre.length + (suf.length + 1) := by rw [hs]; simp
        unfold tree_leaves_row_Row.l1 tree_leaf_row_Row
        dsimp only
        rw [if_pos (by omega), show idx ps (pre.length : Int) = some x by rw [hs]; exact idx_at pre x suf, bnd_some', bnd_some', app_of (by simp; omega), bnd_some', w64_id ⟨by omega, by omega⟩, List.map_append]
        rfl)
      (by
        unfold tree_leaves_row_Row.l1
        dsimp only
        rw [if_neg (by omega)])
    have h' : loop (tree_leaves_row_Row.l1 ps) (0, []) = some (ps.map fun p => c_tNd ⟨[], p, (p.length : Int)⟩) := by simpa using hh
    rw [h', bnd_some']
  · have := leaves_fo (lo := c) ps (fun p hp => ⟨p5 c hc p hp, p4 p hp⟩)
    rwa [p2] at this
theorem inner_eq {h : Nat} {ks : List NP} {l : List El} (hf : Fo 3 h ks l) (hk : ks.length ≤ 2000000) (hl : l.length ≤ 2000000) : tree_inner_row_Row ks = some (ks, [], (l.length : Int)) := by
  obtain ⟨zs, rfl, rfl, h3⟩ := hf
  have hh := loop_fold (f := tree_inner_row_Row.l1 (zs.map fun p => c_tNd p.1)) (fun k (s : Int) => (k, s)) zs (fun pre => ((pre.flatMap (fun p => p.2)).length : Int)) (t := ((zs.flatMap (fun p => p.2)).length : Int))
    (fun pre x suf hs => by
      have hlen : zs.length = pre.length + (suf.length + 1) := by rw [hs]; simp
      have hxl : (pre.flatMap (fun p => p.2)).length + x.2.length ≤ 2000000 := by
        rw [hs] at hl
        simp only [List.flatMap_append, List.flatMap_cons, List.length_append] at hl
        omega
      have hN := T_N (h3 x (by rw [hs]; simp)).1
      rw [List.length_map] at hk
      unfold tree_inner_row_Row.l1
      dsimp only
      rw [if_pos (by rw [List.length_map]; omega), idx_of (show (zs.map fun p => c_tNd p.1)[pre.length]? = some (c_tNd x.1) by rw [hs]; simp), bnd_some', oN, bnd_some', hN, w64_id ⟨by omega, by omega⟩, w64_id ⟨by omega, by omega⟩]
      simp)
    (by
      unfold tree_inner_row_Row.l1
      dsimp only
      rw [if_neg (by rw [List.length_map]; omega)])
  unfold tree_inner_row_Row
  have h' : loop (tree_inner_row_Row.l1 (zs.map fun p => c_tNd p.1)) (0, 0) = some ((zs.flatMap (fun p => p.2)).length : Int) := by simpa using hh
  rw [h', bnd_some']
theorem inner_T {h : Nat} {ks : List NP} {l : List El} (hf : Fo 3 h ks l) : T (h + 1) ⟨ks, [], (l.length : Int)⟩ l ∧ wd ⟨ks, [], (l.length : Int)⟩ = ks.length := ⟨T_succ.2 ⟨rfl, rfl, hf⟩, by simp [wd]⟩
theorem inners_eq {h : Nat} {ks : List NP} {l : List El} (hf : Fo 3 h ks l) (hk : ks.length ≤ 2000000) (hl : l.length ≤ 2000000) : ∃ xs, tree_inners_row_Row ks = some xs ∧ xs.length = (ks.length + 5) / 6 ∧ ∀ c, c * ((ks.length + 5) / 6) ≤ ks.length → Fo c (h + 1) xs l := by
  obtain ⟨ps, p1, p2, p3, p4, p5⟩ := cutsNP ks hk
  have key : ∀ (suf pre : List (List NP)) (out : List NP) (l1 l2 : List El), ps = pre ++ suf → out.length = pre.length → l = l1 ++ l2 → Fo 3 h suf.flatten l2 → (∀ c, (∀ p ∈ ps, c ≤ p.length) → Fo c (h + 1) out l1) →
      ∃ xs, loop (tree_inners_row_Row.l1 ps) ((pre.length : Int), out) = some xs ∧ xs.length = ps.length ∧ ∀ c, (∀ p ∈ ps, c ≤ p.length) → Fo c (h + 1) xs l := by
    intro suf
    induction suf with
    | nil =>
      intro pre out l1 l2 hp ho hl12 hf2 hc
      have := hf2.nil_inv
      subst this
      rw [List.append_nil] at hl12 hp
      subst hl12 hp
      refine ⟨out, loop_done ?_, ho, hc⟩
      unfold tree_inners_row_Row.l1
      dsimp only
      rw [if_neg (by omega)]
    | cons p suf ih =>
      intro pre out l1 l2 hp ho hl12 hf2 hc
      have hlen : ps.length = pre.length + (suf.length + 1) := by rw [hp]; simp
      rw [List.flatten_cons] at hf2
      obtain ⟨la, lb, rfl, g1, g2⟩ := hf2.split
      have hla : la.length ≤ 2000000 := by rw [hl12] at hl; simp only [List.length_append] at hl; omega
      have hp6 := p4 p (by rw [hp]; simp)
      obtain ⟨t1, t2⟩ := inner_T g1
      obtain ⟨xs, x1, x2, x3⟩ := ih (pre ++ [p]) (out ++ [c_tNd ⟨p, [], (la.length : Int)⟩]) (l1 ++ la) lb (by rw [hp]; simp) (by simp [ho]) (by rw [hl12]; simp) g2 (fun c hcp => (hc c hcp).app (Fo.one t1 (by rw [t2]; exact hcp p (by rw [hp]; simp)) (by rw [t2]; exact hp6)))
      refine ⟨xs, loop_next (s' := ((pre.length : Int) + 1, out ++ [c_tNd ⟨p, [], (la.length : Int)⟩])) ?_ ?_, x2, x3⟩
      · unfold tree_inners_row_Row.l1
        dsimp only
        rw [if_pos (by omega), show idx ps (pre.length : Int) = some p by rw [hp]; exact idx_at pre p suf, bnd_some', inner_eq g1 (by omega) hla, bnd_some', app_of (by simp; omega), bnd_some', w64_id ⟨by omega, by omega⟩]
      · rw [← x1]; simp
  obtain ⟨xs, x1, x2, x3⟩ := key ps [] [] [] l rfl rfl rfl (by rw [p2]; exact hf) (fun c _ => Fo.nil)
  refine ⟨xs, ?_, by rw [x2, p3], fun c hc => x3 c (p5 c hc)⟩
  unfold tree_inners_row_Row
  rw [p1, bnd_some']
  rw [show ((([] : List (List NP)).length : Nat) : Int) = 0 from rfl] at x1
  rw [x1, bnd_some']
/-- A root: neither empty, nor with one kid alone. -/
def Rt (h : Nat) (z : Nd) (l : List El) : Prop := T h z l ∧ wd z ≤ 6 ∧ z.fKids.length ≠ 1 ∧ l ≠ []
def IsT (t : tTr) (l : List El) : Prop := (l = [] ∧ t = ⟨none⟩) ∨ ∃ h z, t = ⟨some (c_tNd z)⟩ ∧ Rt h z l
/-- Nodes that may be put together: one, or none with too few. -/
def Up (h : Nat) (xs : List NP) (l : List El) : Prop := Fo 0 h xs l ∧ (xs.length ≤ 1 ∨ Fo 3 h xs l)
theorem aboveLoop : ∀ (n h : Nat) (xs : List NP) (l : List El), xs.length ≤ n → xs.length ≤ 2000000 → l.length ≤ 2000000 → Up h xs l → ∃ h' ys, loop tree_above_row_Row.l1 xs = some ys ∧ Fo 0 h' ys l ∧ ys.length ≤ 1 := by
  intro n
  induction n with
  | zero =>
    intro h xs l hn hk hl hu
    refine ⟨h, xs, loop_done ?_, hu.1, by omega⟩
    unfold tree_above_row_Row.l1
    rw [if_neg (by omega)]
  | succ n ih =>
    intro h xs l hn hk hl hu
    by_cases c : xs.length ≤ 1
    · refine ⟨h, xs, loop_done ?_, hu.1, c⟩
      unfold tree_above_row_Row.l1
      rw [if_neg (by omega)]
    · have h3 : Fo 3 h xs l := hu.2.resolve_left c
      obtain ⟨ys, y1, y2, y3⟩ := inners_eq h3 hk hl
      obtain ⟨h', zs, z1, z2⟩ := ih (h + 1) ys l (by omega) (by omega) hl ⟨y3 0 (by omega), by
        by_cases c2 : ys.length ≤ 1
        · exact .inl c2
        · exact .inr (y3 3 (by omega))⟩
      refine ⟨h', zs, loop_next (s' := ys) ?_ z1, z2⟩
      unfold tree_above_row_Row.l1
      rw [if_pos (by omega), y1, bnd_some']
theorem kids_ge {h : Nat} {z : Nd} {l : List El} (ht : T h z l) (hw : 3 ≤ wd z) : z.fKids.length ≠ 1 := by
  cases h with
  | zero => rw [show z = ⟨[], l, (l.length : Int)⟩ from ht]; simp
  | succ h =>
    have := ht.1
    unfold wd at hw
    rw [this] at hw
    simp at hw
    omega
theorem above_eq {h : Nat} {xs : List NP} {l : List El} (hu : Up h xs l) (hk : xs.length ≤ 2000000) (hl : l.length ≤ 2000000) : ∃ t, tree_above_row_Row xs = some t ∧ IsT t l := by
  obtain ⟨h', ys, y1, y2, y3⟩ := aboveLoop xs.length h xs l (Nat.le_refl _) hk hl hu
  unfold tree_above_row_Row
  rw [y1, bnd_some']
  match ys, y2, y3 with
  | [], y2, _ =>
    rw [if_pos (by rfl), bnd_some', if_pos rfl]
    exact ⟨_, rfl, .inl ⟨y2.nil_inv, rfl⟩⟩
  | [x], y2, _ =>
    obtain ⟨z, m, r, rfl, g1, g2, g3, g4, g5⟩ := y2.cons_inv
    have := g5.nil_inv
    subst this
    rw [List.append_nil] at g4
    subst g4
    have hN := T_N g1
    rw [if_neg (by simp), show idx [c_tNd z] 0 = some (c_tNd z) from rfl, bnd_some', oN, bnd_some', bnd_some', hN]
    by_cases c : l = []
    · subst c
      rw [if_pos (by simp)]
      exact ⟨_, rfl, .inl ⟨rfl, rfl⟩⟩
    · have hm : l.length ≠ 0 := fun e => c (List.length_eq_zero_iff.1 e)
      rw [if_neg (by simp; exact c), bnd_some', oN, bnd_some']
      by_cases c1 : z.fKids.length = 1
      · cases h' with
        | zero => rw [show z = ⟨[], l, (l.length : Int)⟩ from g1] at c1; simp at c1
        | succ h' =>
          obtain ⟨k1, k2, k3⟩ := T_succ.1 g1
          obtain ⟨x, hx⟩ := List.length_eq_one_iff.1 c1
          rw [hx] at k3
          obtain ⟨w, m', r', rfl, w1, w2, w3, w4, w5⟩ := k3.cons_inv
          have := w5.nil_inv
          subst this
          rw [List.append_nil] at w4
          subst w4
          have hne := kids_ge w1 w2
          have hlp : loop tree_above_row_Row.l2 (z.fKids, z.fItems, z.fN) = some (w.fKids, w.fItems, w.fN) := by
            refine loop_next (s' := (w.fKids, w.fItems, w.fN)) ?_ (loop_done ?_)
            · unfold tree_above_row_Row.l2
              dsimp only
              rw [if_pos (by omega), hx, show idx [c_tNd w] 0 = some (c_tNd w) from rfl, bnd_some', oN, bnd_some']
            · unfold tree_above_row_Row.l2
              dsimp only
              rw [if_neg (by omega)]
          rw [hlp, bnd_some']
          exact ⟨_, rfl, .inr ⟨h', w, rfl, w1, w3, hne, c⟩⟩
      · have hlp : loop tree_above_row_Row.l2 (z.fKids, z.fItems, z.fN) = some (z.fKids, z.fItems, z.fN) := by
          refine loop_done ?_
          unfold tree_above_row_Row.l2
          dsimp only
          rw [if_neg (by omega)]
        rw [hlp, bnd_some']
        exact ⟨_, rfl, .inr ⟨h', z, rfl, g1, g3, c1, c⟩⟩
theorem Of_eq (l : List El) (hl : l.length ≤ 2000000) : ∃ t, tree_Of_row_Row l = some t ∧ IsT t l := by
  obtain ⟨xs, x1, x2, x3⟩ := leaves_eq l hl
  obtain ⟨t, t1, t2⟩ := above_eq (h := 0) (xs := xs) (l := l) ⟨x3 0 (by omega), by
    by_cases c : xs.length ≤ 1
    · exact .inl c
    · exact .inr (x3 3 (by omega))⟩ (by omega) hl
  unfold tree_Of_row_Row
  rw [x1, bnd_some', t1, bnd_some']
  exact ⟨t, rfl, t2⟩
/-- Others in the place of some. -/
def repL {α : Type} (l : List α) (i j : Nat) (w : List α) : List α := l.take i ++ w ++ l.drop j
theorem Fo.rep {lo h : Nat} {xs ys : List NP} {i j : Nat} {la lb m : List El} (ha : Fo lo h (xs.take i) la) (hm : Fo lo h ys m) (hb : Fo lo h (xs.drop j) lb) : Fo lo h (repL xs i j ys) (la ++ m ++ lb) := (ha.app hm).app hb
theorem kids_wd {h : Nat} {z : Nd} {l : List El} (ht : T (h + 1) z l) : wd z = z.fKids.length := by
  unfold wd; rw [ht.1]; rfl
theorem leaf_wd {z : Nd} {l : List El} (ht : T 0 z l) : wd z = l.length ∧ z.fKids = [] ∧ z.fItems = l := by
  rw [show z = ⟨[], l, (l.length : Int)⟩ from ht]; simp [wd]
theorem fo_ne {lo h : Nat} {xs : List NP} {l : List El} (hf : Fo lo h xs l) (hl : l ≠ []) : 0 < xs.length := by
  cases xs with
  | nil => exact absurd hf.nil_inv hl
  | cons => simp
/-- Which kid has a thing. -/
theorem kid_eq {h : Nat} {ks : List NP} {l : List El} (hf : Fo 3 h ks l) (hk : ks.length ≤ 900000) (hl : l.length ≤ 900000) (hne : 0 < ks.length) (i : Nat) (hi : i ≤ l.length) (is : List El) (n : Int) :
    ∃ k z la m lb, tree_Node_row_Row_kid ks is n (i : Int) = some (((k : Nat) : Int), ((i - la.length : Nat) : Int)) ∧ k < ks.length ∧ ks[k]? = some (c_tNd z) ∧ T h z m ∧ 3 ≤ wd z ∧ wd z ≤ 6 ∧ l = la ++ m ++ lb ∧ Fo 3 h (ks.take k) la ∧ Fo 3 h (ks.drop (k + 1)) lb ∧
      la.length ≤ i ∧ i ≤ la.length + m.length ∧ (i < l.length → i < la.length + m.length) := by
  have key : ∀ (suf pre : List NP) (lp ls : List El), ks = pre ++ suf → 0 < suf.length → l = lp ++ ls → Fo 3 h pre lp → Fo 3 h suf ls → lp.length ≤ i →
      ∃ k z la m lb, loop (tree_Node_row_Row_kid.l1 ks) (((i - lp.length : Nat) : Int), (pre.length : Int)) = some (((i - la.length : Nat) : Int), ((k : Nat) : Int)) ∧ k < ks.length ∧ ks[k]? = some (c_tNd z) ∧ T h z m ∧ 3 ≤ wd z ∧ wd z ≤ 6 ∧ l = la ++ m ++ lb ∧ Fo 3 h (ks.take k) la ∧ Fo 3 h (ks.drop (k + 1)) lb ∧
        la.length ≤ i ∧ i ≤ la.length + m.length ∧ (i < l.length → i < la.length + m.length) := by
    intro suf
    induction suf with
    | nil => intro pre lp ls _ h0; simp at h0
    | cons x rest ih =>
      intro pre lp ls hks _ hls hp hs hlp
      obtain ⟨z, m, r, rfl, g1, g2, g3, rfl, g5⟩ := hs.cons_inv
      have hlen : ks.length = pre.length + (rest.length + 1) := by rw [hks]; simp
      have hx : ks[pre.length]? = some (c_tNd z) := by rw [hks]; simp
      have hll : l.length = lp.length + (m.length + r.length) := by rw [hls]; simp
      have hN := T_N g1
      have htake : ks.take pre.length = pre := by rw [hks]; simp
      have hdrop : ks.drop (pre.length + 1) = rest := by rw [hks]; simp
      have fin : i ≤ lp.length + m.length → (i < l.length → i < lp.length + m.length) → tree_Node_row_Row_kid.l1 ks (((i - lp.length : Nat) : Int), (pre.length : Int)) = some (.done (((i - lp.length : Nat) : Int), (pre.length : Int))) →
          ∃ k z la m lb, loop (tree_Node_row_Row_kid.l1 ks) (((i - lp.length : Nat) : Int), (pre.length : Int)) = some (((i - la.length : Nat) : Int), ((k : Nat) : Int)) ∧ k < ks.length ∧ ks[k]? = some (c_tNd z) ∧ T h z m ∧ 3 ≤ wd z ∧ wd z ≤ 6 ∧ l = la ++ m ++ lb ∧ Fo 3 h (ks.take k) la ∧ Fo 3 h (ks.drop (k + 1)) lb ∧
            la.length ≤ i ∧ i ≤ la.length + m.length ∧ (i < l.length → i < la.length + m.length) := fun f1 f2 f3 =>
        ⟨pre.length, z, lp, m, r, loop_done f3, by omega, hx, g1, g2, g3, by rw [hls]; simp, by rw [htake]; exact hp, by rw [hdrop]; exact g5, hlp, f1, f2⟩
      by_cases c0 : rest.length = 0
      · obtain rfl := List.length_eq_zero_iff.1 c0
        have := g5.nil_inv
        subst this
        simp only [List.length_nil] at hll hlen
        refine fin (by omega) (by omega) ?_
        unfold tree_Node_row_Row_kid.l1
        dsimp only
        rw [w64_id ⟨by omega, by omega⟩, if_neg (by omega), bnd_some', if_neg (by simp)]
      · by_cases c1 : m.length ≤ i - lp.length
        · have hlpm : (lp ++ m).length = lp.length + m.length := List.length_append
          obtain ⟨k, z', la, m', lb, e1, e2⟩ := ih (pre ++ [c_tNd z]) (lp ++ m) r (by rw [hks]; simp) (by omega) (by rw [hls]; simp) (hp.app (Fo.one g1 g2 g3)) g5 (by omega)
          refine ⟨k, z', la, m', lb, loop_next (s' := (((i - (lp ++ m).length : Nat) : Int), ((pre ++ [c_tNd z]).length : Int))) ?_ e1, e2⟩
          unfold tree_Node_row_Row_kid.l1
          dsimp only
          rw [w64_id (x := (ks.length : Int) - 1) ⟨by omega, by omega⟩, if_pos (by omega), idx_of hx, bnd_some', oN, bnd_some', bnd_some', hN, if_pos (by simp; omega), bnd_some', oN, bnd_some', hN, w64_id ⟨by omega, by omega⟩, w64_id ⟨by omega, by omega⟩]
          congr 3
          · omega
          · simp
        · refine fin (by omega) (by omega) ?_
          unfold tree_Node_row_Row_kid.l1
          dsimp only
          rw [w64_id ⟨by omega, by omega⟩, if_pos (by omega), idx_of hx, bnd_some', oN, bnd_some', bnd_some', hN, if_neg (by simp; omega)]
  obtain ⟨k, z, la, m, lb, e1, e2⟩ := key ks [] [] l rfl hne rfl Fo.nil hf (by simp)
  refine ⟨k, z, la, m, lb, ?_, e2⟩
  unfold tree_Node_row_Row_kid
  rw [show ((([] : List El).length)) = 0 from rfl, Nat.sub_zero, show ((([] : List NP).length : Nat) : Int) = 0 from rfl] at e1
  rw [e1, bnd_some']
theorem flat_eq (ks : List NP) (is : List El) (n : Int) : tree_Node_row_Row_flat ks is n = some (decide (ks.length = 0)) := by
  unfold tree_Node_row_Row_flat
  congr 1
  rw [Bool.eq_iff_iff]; simp
theorem fo_size {h : Nat} (ih : ∀ (z : Nd) (l : List El), T h z l → wd z * 3 ^ h ≤ l.length) : ∀ (xs : List NP) (l : List El), Fo 3 h xs l → xs.length * (3 * 3 ^ h) ≤ l.length := by
  intro xs
  induction xs with
  | nil => intro l _; simp
  | cons x xs ihx =>
    intro l hf
    obtain ⟨w, m, r, rfl, g1, g2, g3, rfl, g5⟩ := hf.cons_inv
    have h1 := ih w m g1
    have h2 := ihx r g5
    have h3 : 3 * 3 ^ h ≤ wd w * 3 ^ h := Nat.mul_le_mul_right _ g2
    rw [List.length_cons, List.length_append, Nat.add_mul]
    omega
theorem T_size : ∀ (h : Nat) (z : Nd) (l : List El), T h z l → wd z * 3 ^ h ≤ l.length := by
  intro h
  induction h with
  | zero =>
    intro z l ht
    rw [(leaf_wd ht).1]; simp
  | succ h ih =>
    intro z l ht
    obtain ⟨_, _, hf⟩ := T_succ.1 ht
    rw [kids_wd ht, Nat.pow_succ, Nat.mul_comm (3 ^ h) 3]
    exact fo_size ih _ _ hf
theorem Rt.kids {h : Nat} {z : Nd} {l : List El} (hr : Rt h z l) (h0 : 0 < h) : 2 ≤ z.fKids.length := by
  obtain ⟨h, rfl⟩ : ∃ n, h = n + 1 := ⟨h - 1, by omega⟩
  have := fo_ne (T_succ.1 hr.1).2.2 hr.2.2.2
  have := hr.2.2.1
  omega
theorem Rt.wd_pos {h : Nat} {z : Nd} {l : List El} (hr : Rt h z l) : 1 ≤ wd z ∧ (0 < h → 2 ≤ wd z) := by
  cases h with
  | zero =>
    have : l.length ≠ 0 := fun e => hr.2.2.2 (List.length_eq_zero_iff.1 e)
    rw [(leaf_wd hr.1).1]
    omega
  | succ h =>
    have := hr.kids (by omega)
    rw [kids_wd hr.1]
    omega
theorem Rt.size {h : Nat} {z : Nd} {l : List El} (hr : Rt h z l) (h0 : 0 < h) : 2 * 3 ^ h ≤ l.length :=
  Nat.le_trans (Nat.mul_le_mul_right _ (hr.wd_pos.2 h0)) (T_size h z l hr.1)
theorem Rt.low {h : Nat} {z : Nd} {l : List El} (hr : Rt h z l) (hl : l.length ≤ 2000000) : h < 30 := by
  by_cases c : h < 30
  · exact c
  · have h1 := hr.size (by omega)
    have h2 : 3 ^ 30 ≤ 3 ^ h := Nat.pow_le_pow_right (by decide) (by omega)
    have h3 : (3 : Nat) ^ 30 = 205891132094649 := by decide
    omega
theorem Len_eq (t : tTr) (l : List El) (ht : IsT t l) : tree_Tree_row_Row_Len t = some (l.length : Int) := by
  unfold tree_Tree_row_Row_Len
  rcases ht with ⟨rfl, rfl⟩ | ⟨h, z, rfl, hr⟩
  · rfl
  · rw [bnd_some']
    dsimp only
    rw [oN, bnd_some', T_N hr.1]
theorem tHas_eq (t : tTr) (l : List El) (ht : IsT t l) (i : Int) : tree_Tree_row_Row_has t i = some (decide (0 ≤ i ∧ i < (l.length : Int))) := by
  unfold tree_Tree_row_Row_has
  by_cases c : i ≥ 0
  · rw [if_pos c, Len_eq t l ht, bnd_some', bnd_some']; simp [c]
  · rw [if_neg c, bnd_some', decide_eq_false (fun h => c h.1)]
theorem atLoop : ∀ (h : Nat) (z : Nd) (l : List El) (i : Nat), T h z l → wd z ≤ 6 → (hi : i < l.length) → l.length ≤ 800000 → ∃ j ks is n, loop tree_Tree_row_Row_At.l2 ((i : Int), z.fKids, z.fItems, z.fN) = some (j, ks, is, n) ∧ idx is j = some l[i] := by
  intro h
  induction h with
  | zero =>
    intro z l i ht hw hi hl
    obtain ⟨q1, q2, q3⟩ := leaf_wd ht
    refine ⟨(i : Int), z.fKids, z.fItems, z.fN, loop_done ?_, ?_⟩
    · unfold tree_Tree_row_Row_At.l2
      dsimp only
      rw [flat_eq, bnd_some', q2, if_pos (by simp)]
    · rw [q3]; exact idx_of (List.getElem?_eq_getElem hi)
  | succ h ih =>
    intro z l i ht hw hi hl
    obtain ⟨t1, t2, t3⟩ := T_succ.1 ht
    have hkw := kids_wd ht
    have hne : 0 < z.fKids.length := fo_ne t3 (fun e => by subst e; simp at hi)
    obtain ⟨k, w, la, m, lb, k1, k2, k3, k4, k5, k6, k7, k8, k9, k10, k11, k12⟩ := kid_eq t3 (by omega) (by omega) hne i (by omega) z.fItems z.fN
    have hm : l.length = la.length + m.length + lb.length := by rw [k7]; simp only [List.length_append]
    have k12' := k12 hi
    obtain ⟨j, ks, is, n, j1, j2⟩ := ih w m (i - la.length) k4 k6 (by omega) (by omega)
    refine ⟨j, ks, is, n, loop_next ?_ j1, ?_⟩
    · unfold tree_Tree_row_Row_At.l2
      dsimp only
      rw [flat_eq, bnd_some', if_neg (by simp; intro e; rw [e] at hne; simp at hne), k1, bnd_some']
      dsimp only
      rw [idx_of k3, bnd_some', oN, bnd_some']
    · rw [j2]
      congr 1
      have : l[i]? = m[i - la.length]? := by
        rw [k7, List.append_assoc, List.getElem?_append_right k10, List.getElem?_append_left (by omega)]
      rw [List.getElem?_eq_getElem hi, List.getElem?_eq_getElem (show i - la.length < m.length by omega)] at this
      exact (Option.some.inj this).symm
theorem At_eq (t : tTr) (l : List El) (ht : IsT t l) (hl : l.length ≤ 800000) (i : Int) : (¬ (0 ≤ i ∧ i < (l.length : Int)) → tree_Tree_row_Row_At t i = some (default, false)) ∧ ((hi : 0 ≤ i ∧ i < (l.length : Int)) → tree_Tree_row_Row_At t i = some (l[i.toNat]'(by omega), true)) := by
  unfold tree_Tree_row_Row_At
  rw [tHas_eq t l ht, bnd_some']
  constructor
  · intro c
    rw [decide_eq_false c, if_neg (by simp)]
    rfl
  · intro c
    rw [decide_eq_true c, if_pos rfl]
    rcases ht with ⟨rfl, rfl⟩ | ⟨h, z, rfl, hr⟩
    · simp at c; omega
    · obtain ⟨j, ks, is, n, j1, j2⟩ := atLoop h z l i.toNat hr.1 hr.2.1 (by omega) hl
      rw [show ((i.toNat : Nat) : Int) = i by omega] at j1
      rw [bnd_some']
      dsimp only
      rw [oN, bnd_some', j1, bnd_some']
      dsimp only
      rw [j2, bnd_some']
abbrev Fr := wFr
/-- The frames from a node down to the leaf of a place. -/
def Pth : Nat → Nd → List El → Nat → List Fr → Nat → Prop
  | 0, z, l, first, stk, i => stk = [⟨some (c_tNd z), (first : Int), (i : Int)⟩] ∧ i ≤ l.length ∧ T 0 z l
  | h + 1, z, l, first, stk, i => ∃ (k : Nat) (w : Nd) (la m lb : List El) (stk' : List Fr), z.fKids[k]? = some (c_tNd w) ∧ T h w m ∧ 3 ≤ wd w ∧ wd w ≤ 6 ∧ l = la ++ m ++ lb ∧ Fo 3 h (z.fKids.take k) la ∧ Fo 3 h (z.fKids.drop (k + 1)) lb ∧
      stk = ⟨some (c_tNd z), ((first + la.length : Nat) : Int), (k : Int)⟩ :: stk' ∧ la.length ≤ i ∧ Pth h w m (first + la.length) stk' (i - la.length)
theorem Pth.le : ∀ {h : Nat} {z : Nd} {l : List El} {first : Nat} {stk : List Fr} {i : Nat}, Pth h z l first stk i → i ≤ l.length ∧ stk.length = h + 1
  | 0, z, l, first, stk, i, hp => by
    obtain ⟨rfl, h1, _⟩ := hp
    exact ⟨h1, rfl⟩
  | h + 1, z, l, first, stk, i, hp => by
    obtain ⟨k, w, la, m, lb, stk', k1, k2, k3, k4, rfl, k6, k7, rfl, k9, k10⟩ := hp
    obtain ⟨a, b⟩ := Pth.le k10
    simp only [List.length_append, List.length_cons]
    omega
/-- What lies on top. -/
theorem Pth.top : ∀ {h : Nat} {z : Nd} {l : List El} {first : Nat} {stk : List Fr} {i : Nat}, Pth h z l first stk i → ∃ (pre : List Fr) (w : Nd) (fs : Int) (k : Nat), stk = pre ++ [⟨some (c_tNd w), fs, (k : Int)⟩] ∧ k ≤ w.fItems.length ∧
      (k < w.fItems.length → i < l.length ∧ l[i]? = w.fItems[k]? ∧ Pth h z l first (pre ++ [⟨some (c_tNd w), fs, ((k + 1 : Nat) : Int)⟩]) (i + 1))
  | 0, z, l, first, stk, i, hp => by
    obtain ⟨rfl, h1, h2⟩ := hp
    obtain ⟨q1, q2, q3⟩ := leaf_wd h2
    refine ⟨[], z, (first : Int), i, rfl, by rw [q3]; exact h1, fun hk => ?_⟩
    rw [q3] at hk ⊢
    exact ⟨hk, rfl, rfl, by omega, h2⟩
  | h + 1, z, l, first, stk, i, hp => by
    obtain ⟨k, w, la, m, lb, stk', k1, k2, k3, k4, rfl, k6, k7, rfl, k9, k10⟩ := hp
    obtain ⟨pre, u, fs, j, rfl, j1, j2⟩ := Pth.top k10
    refine ⟨⟨some (c_tNd z), ((first + la.length : Nat) : Int), (k : Int)⟩ :: pre, u, fs, j, rfl, j1, fun hk => ?_⟩
    obtain ⟨j3, j4, j5⟩ := j2 hk
    refine ⟨by simp only [List.length_append]; omega, ?_, k, w, la, m, lb, _, k1, k2, k3, k4, rfl, k6, k7, rfl, by omega, ?_⟩
    · rw [← j4, List.append_assoc, List.getElem?_append_right k9, List.getElem?_append_left (by omega)]
    · rw [show i + 1 - la.length = i - la.length + 1 by omega]; exact j5
/-- Which kid: down's own loop. -/
theorem downKid {h : Nat} {ks : List NP} {l : List El} (hf : Fo 3 h ks l) (hk : ks.length ≤ 900000) (hne : 0 < ks.length) (first i : Nat) (hi : i < l.length) (hb : first + l.length ≤ 900000)
    {f : Int × Int → Option (Lp (Int × Int) (Int × Int))} (hfe : ∀ s, f s = bnd (if s.2 < (w64 ((ks.length : Int) - 1)) then
      bnd (idx ks s.2) fun x24 => bnd (o_tNd x24) fun x25 => some (decide (((first + i : Nat) : Int) ≥ (w64 (s.1 + x25.fN)))) else some false : Option Bool) fun t22 =>
      if t22 = true then bnd (idx ks s.2) fun x27 => bnd (o_tNd x27) fun x28 => some (Lp.next (w64 (s.1 + x28.fN), w64 (s.2 + 1))) else some (Lp.done (s.1, s.2))) :
    ∃ (k : Nat) (w : Nd) (la m lb : List El), loop f ((first : Int), 0) = some (((first + la.length : Nat) : Int), (k : Int)) ∧ ks[k]? = some (c_tNd w) ∧ T h w m ∧ 3 ≤ wd w ∧ wd w ≤ 6 ∧ l = la ++ m ++ lb ∧ Fo 3 h (ks.take k) la ∧ Fo 3 h (ks.drop (k + 1)) lb ∧
      la.length ≤ i ∧ i < la.length + m.length := by
  have key : ∀ (suf pre : List NP) (lp ls : List El), ks = pre ++ suf → 0 < suf.length → l = lp ++ ls → Fo 3 h pre lp → Fo 3 h suf ls → lp.length ≤ i →
      ∃ (k : Nat) (w : Nd) (la m lb : List El), loop f (((first + lp.length : Nat) : Int), (pre.length : Int)) = some (((first + la.length : Nat) : Int), (k : Int)) ∧ ks[k]? = some (c_tNd w) ∧ T h w m ∧ 3 ≤ wd w ∧ wd w ≤ 6 ∧ l = la ++ m ++ lb ∧ Fo 3 h (ks.take k) la ∧ Fo 3 h (ks.drop (k + 1)) lb ∧
        la.length ≤ i ∧ i < la.length + m.length := by
    intro suf
    induction suf with
    | nil => intro pre lp ls _ h0; simp at h0
    | cons x rest ih =>
      intro pre lp ls hks _ hls hp hs hlp
      obtain ⟨z, m, r, rfl, g1, g2, g3, rfl, g5⟩ := hs.cons_inv
      have hlen : ks.length = pre.length + (rest.length + 1) := by rw [hks]; simp
      have hx : ks[pre.length]? = some (c_tNd z) := by rw [hks]; simp
      have hll : l.length = lp.length + (m.length + r.length) := by rw [hls]; simp
      have hN := T_N g1
      have htake : ks.take pre.length = pre := by rw [hks]; simp
      have hdrop : ks.drop (pre.length + 1) = rest := by rw [hks]; simp
      have fin : i < lp.length + m.length → f (((first + lp.length : Nat) : Int), (pre.length : Int)) = some (.done (((first + lp.length : Nat) : Int), (pre.length : Int))) →
          ∃ (k : Nat) (w : Nd) (la m lb : List El), loop f (((first + lp.length : Nat) : Int), (pre.length : Int)) = some (((first + la.length : Nat) : Int), (k : Int)) ∧ ks[k]? = some (c_tNd w) ∧ T h w m ∧ 3 ≤ wd w ∧ wd w ≤ 6 ∧ l = la ++ m ++ lb ∧ Fo 3 h (ks.take k) la ∧ Fo 3 h (ks.drop (k + 1)) lb ∧
            la.length ≤ i ∧ i < la.length + m.length := fun f1 f3 =>
        ⟨pre.length, z, lp, m, r, loop_done f3, hx, g1, g2, g3, by rw [hls]; simp, by rw [htake]; exact hp, by rw [hdrop]; exact g5, hlp, f1⟩
      by_cases c0 : rest.length = 0
      · obtain rfl := List.length_eq_zero_iff.1 c0
        have := g5.nil_inv
        subst this
        simp only [List.length_nil] at hll hlen
        refine fin (by omega) ?_
        rw [hfe]
        dsimp only
        rw [w64_id ⟨by omega, by omega⟩, if_neg (by omega), bnd_some', if_neg (by simp)]
      · by_cases c1 : m.length ≤ i - lp.length
        · have hlpm : (lp ++ m).length = lp.length + m.length := List.length_append
          obtain ⟨k, z', la, m', lb, e1, e2⟩ := ih (pre ++ [c_tNd z]) (lp ++ m) r (by rw [hks]; simp) (by omega) (by rw [hls]; simp) (hp.app (Fo.one g1 g2 g3)) g5 (by omega)
          refine ⟨k, z', la, m', lb, loop_next (s' := (((first + (lp ++ m).length : Nat) : Int), ((pre ++ [c_tNd z]).length : Int))) ?_ e1, e2⟩
          rw [hfe]
          dsimp only
          rw [w64_id (x := (ks.length : Int) - 1) ⟨by omega, by omega⟩, if_pos (by omega), idx_of hx, bnd_some', oN, bnd_some', bnd_some', hN, w64_id (x := ((first + lp.length : Nat) : Int) + (m.length : Int)) ⟨by omega, by omega⟩, if_pos (by simp; omega), bnd_some', oN, bnd_some', hN, w64_id (x := ((first + lp.length : Nat) : Int) + (m.length : Int)) ⟨by omega, by omega⟩, w64_id ⟨by omega, by omega⟩]
          congr 3
          · omega
          · simp
        · refine fin (by omega) ?_
          rw [hfe]
          dsimp only
          rw [w64_id (x := (ks.length : Int) - 1) ⟨by omega, by omega⟩, if_pos (by omega), idx_of hx, bnd_some', oN, bnd_some', bnd_some', hN, w64_id (x := ((first + lp.length : Nat) : Int) + (m.length : Int)) ⟨by omega, by omega⟩, if_neg (by simp; omega)]
  obtain ⟨k, z, la, m, lb, e1, e2⟩ := key ks [] [] l rfl hne rfl Fo.nil hf (by simp)
  exact ⟨k, z, la, m, lb, e1, e2⟩
/-- Fresh: the leaf on top has what is next. -/
def Fresh (stk : List Fr) : Prop := ∃ (pre : List Fr) (w : Nd) (fs : Int) (k : Nat), stk = pre ++ [⟨some (c_tNd w), fs, (k : Int)⟩] ∧ k < w.fItems.length
abbrev DSt := List NP × List El × Int × Int × List Fr
theorem down_gen {f1 : DSt → Int × Int → Option (Lp (Int × Int) (Int × Int))} {f2 : DSt → Option (Lp DSt DSt)} : ∀ (h : Nat) (z : Nd) (l : List El) (first i : Nat) (stk : List Fr),
    (∀ s4 s, f1 s4 s = bnd (if s.2 < (w64 ((s4.1.length : Int) - 1)) then bnd (idx s4.1 s.2) fun x24 => bnd (o_tNd x24) fun x25 => some (decide (((first + i : Nat) : Int) ≥ (w64 (s.1 + x25.fN)))) else some false : Option Bool) fun t22 =>
      if t22 = true then bnd (idx s4.1 s.2) fun x27 => bnd (o_tNd x27) fun x28 => some (Lp.next (w64 (s.1 + x28.fN), w64 (s.2 + 1))) else some (Lp.done (s.1, s.2))) →
    (∀ s4, f2 s4 = if (s4.1.length : Int) > 0 then bnd (loop (f1 s4) (s4.2.2.2.1, 0) : Option (Int × Int)) fun t13 =>
      bnd (app 24 s4.2.2.2.2 [(⟨(some (c_tNd (⟨s4.1, s4.2.1, s4.2.2.1⟩ : tNd))), t13.1, t13.2⟩ : wFr)]) fun x29 => bnd (idx s4.1 t13.2) fun x31 => bnd (o_tNd x31) fun x32 => some (Lp.next (x32.fKids, x32.fItems, x32.fN, t13.1, x29))
      else some (Lp.done (s4.1, s4.2.1, s4.2.2.1, s4.2.2.2.1, s4.2.2.2.2))) →
    T h z l → wd z ≤ 6 → i < l.length → first + l.length ≤ 900000 → stk.length + h ≤ 1000 →
    ∃ (w : Nd) (fs j : Nat) (inn : List Fr), loop f2 (z.fKids, z.fItems, z.fN, (first : Int), stk) = some (w.fKids, w.fItems, w.fN, (fs : Int), stk ++ inn) ∧ fs + j = first + i ∧ j < w.fItems.length ∧ inn.length = h ∧ Pth h z l first (inn ++ [⟨some (c_tNd w), (fs : Int), (j : Int)⟩]) i := by
  intro h
  induction h with
  | zero =>
    intro z l first i stk h1 h2 ht hw hi hb hs
    obtain ⟨q1, q2, q3⟩ := leaf_wd ht
    refine ⟨z, first, i, [], loop_done ?_, rfl, by rw [q3]; exact hi, rfl, rfl, by omega, ht⟩
    rw [h2]
    dsimp only
    rw [q2, if_neg (by simp), List.append_nil]
  | succ h ih =>
    intro z l first i stk h1 h2 ht hw hi hb hs
    have hkw := kids_wd ht
    obtain ⟨t1, t2, t3⟩ := T_succ.1 ht
    have hne : 0 < z.fKids.length := fo_ne t3 (fun e => by rw [e] at hi; simp at hi)
    obtain ⟨k, w, la, m, lb, k1, k2, k3, k4, k5, rfl, k7, k8, k9, k10⟩ := downKid t3 (by omega) hne first i hi hb (f := f1 (z.fKids, z.fItems, z.fN, (first : Int), stk)) (fun s => h1 _ s)
    simp only [List.length_append] at hb
    obtain ⟨u, fs, j, inn, d1, d2, d3, d4, d5⟩ := ih w m (first + la.length) (i - la.length) (stk ++ [⟨some (c_tNd z), ((first + la.length : Nat) : Int), (k : Int)⟩]) (by rw [show first + la.length + (i - la.length) = first + i by omega]; exact h1) h2 k3 k5 (by omega) (by omega) (by simp; omega)
    refine ⟨u, fs, j, ⟨some (c_tNd z), ((first + la.length : Nat) : Int), (k : Int)⟩ :: inn, loop_next (s' := (w.fKids, w.fItems, w.fN, ((first + la.length : Nat) : Int), stk ++ [⟨some (c_tNd z), ((first + la.length : Nat) : Int), (k : Int)⟩])) ?_ ?_, by omega, d3, by simp [d4], k, w, la, m, lb, _, k2, k3, k4, k5, rfl, k7, k8, rfl, k9, d5⟩
    · rw [h2]
      dsimp only
      rw [if_pos (by omega), k1, bnd_some', app_of (by simp; omega), bnd_some']
      dsimp only
      rw [idx_of k2, bnd_some', oN, bnd_some']
    · rw [d1]; simp
theorem down_eq {h : Nat} {z : Nd} {l : List El} {first i : Nat} (ht : T h z l) (hw : wd z ≤ 6) (hi : i < l.length) (hb : first + l.length ≤ 900000) (hs : h ≤ 500) :
    ∃ stk, walk_stack_row_Row_down z.fKids z.fItems z.fN (first : Int) ((first + i : Nat) : Int) = some stk ∧ Pth h z l first stk i ∧ Fresh stk := by
  obtain ⟨w, fs, j, inn, d1, d2, d3, d4, d5⟩ := down_gen (f1 := walk_stack_row_Row_down.l1 ((first + i : Nat) : Int)) (f2 := walk_stack_row_Row_down.l2 ((first + i : Nat) : Int)) h z l first i [] (fun s4 s => rfl) (fun s4 => rfl) ht hw hi hb (by simp; omega)
  rw [List.nil_append] at d1
  refine ⟨inn ++ [⟨some (c_tNd w), (fs : Int), (j : Int)⟩], ?_, d5, inn, w, fs, j, rfl, d3⟩
  unfold walk_stack_row_Row_down
  rw [d1, bnd_some']
  dsimp only
  rw [w64_id ⟨by omega, by omega⟩, show ((first + i : Nat) : Int) - (fs : Int) = (j : Int) by omega, app_of (by simp; omega), bnd_some']
theorem down2_eq {h : Nat} {z : Nd} {l : List El} {first i : Nat} (stk : List Fr) (ht : T h z l) (hw : wd z ≤ 6) (hi : i < l.length) (hb : first + l.length ≤ 900000) (hs : stk.length + h ≤ 500) :
    ∃ p, walk_stack_row_Row_down_2 z.fKids z.fItems z.fN (first : Int) ((first + i : Nat) : Int) stk = some (stk ++ p) ∧ Pth h z l first p i ∧ Fresh p := by
  obtain ⟨w, fs, j, inn, d1, d2, d3, d4, d5⟩ := down_gen (f1 := walk_stack_row_Row_down_2.l1 ((first + i : Nat) : Int)) (f2 := walk_stack_row_Row_down_2.l2 ((first + i : Nat) : Int)) h z l first i stk (fun s4 s => rfl) (fun s4 => rfl) ht hw hi hb (by omega)
  refine ⟨inn ++ [⟨some (c_tNd w), (fs : Int), (j : Int)⟩], ?_, d5, inn, w, fs, j, rfl, d3⟩
  unfold walk_stack_row_Row_down_2
  rw [d1, bnd_some']
  dsimp only
  rw [w64_id ⟨by omega, by omega⟩, show ((first + i : Nat) : Int) - (fs : Int) = (j : Int) by omega, app_of (by simp; omega), bnd_some', List.append_assoc]
theorem top_eq (pre : List Fr) (f : Fr) (hb : pre.length ≤ 900000) : walk_stack_row_Row_top (pre ++ [f]) = some (pre.length : Int) ∧ idx (pre ++ [f]) (pre.length : Int) = some f := by
  have h2 : idx (pre ++ [f]) (pre.length : Int) = some f := idx_at pre f []
  refine ⟨?_, h2⟩
  unfold walk_stack_row_Row_top
  rw [List.length_append, List.length_singleton, w64_id ⟨by omega, by omega⟩, show ((pre.length + 1 : Nat) : Int) - 1 = (pre.length : Int) by omega, h2, bnd_some']
theorem set_top (pre : List Fr) (f g : Fr) : (pre ++ [f]).set pre.length g = pre ++ [g] := by simp
theorem Fo.len_pos {h : Nat} {xs : List NP} {l : List El} (hf : Fo 3 h xs l) (hne : 0 < xs.length) (hpos : ∀ w m, T h w m → 3 ≤ wd w → 0 < m.length) : 0 < l.length := by
  cases xs with
  | nil => simp at hne
  | cons x xs =>
    obtain ⟨w, m, r, rfl, g1, g2, g3, rfl, g5⟩ := hf.cons_inv
    have := hpos w m g1 g2
    simp; omega
theorem T_pos : ∀ (h : Nat) (w : Nd) (m : List El), T h w m → 3 ≤ wd w → 0 < m.length := by
  intro h
  induction h with
  | zero => intro w m ht hw; have := (leaf_wd ht).1; omega
  | succ h ih =>
    intro w m ht hw
    have := kids_wd ht
    exact Fo.len_pos (T_succ.1 ht).2.2 (by omega) ih
/-- To the next leaf. -/
theorem forthLoop : ∀ (h : Nat) (z : Nd) (l : List El) (first i : Nat) (pre : List Fr) (w : Nd) (fs : Int) (p0 : List Fr), Pth h z l first (pre ++ [⟨some (c_tNd w), fs, (w.fItems.length : Int)⟩]) i → wd z ≤ 6 → first + l.length ≤ 900000 → p0.length + h ≤ 400 →
    (i < l.length → ∃ stk2, loop walk_stack_row_Row_forth.l1 (p0 ++ pre) = some (.ret (true, p0 ++ stk2)) ∧ Pth h z l first stk2 i ∧ Fresh stk2) ∧
    (i = l.length → ∀ t, loop walk_stack_row_Row_forth.l1 p0 = some t → loop walk_stack_row_Row_forth.l1 (p0 ++ pre) = some t) := by
  intro h
  induction h with
  | zero =>
    intro z l first i pre w fs p0 hp hw hb hs
    obtain ⟨h1, h2, h3⟩ := hp
    obtain ⟨rfl, e⟩ := List.append_inj' (show pre ++ [_] = [] ++ [_] from h1) rfl
    simp only [List.cons.injEq, and_true, wFr.mk.injEq, Option.some.injEq] at e
    obtain ⟨e1, _, e3⟩ := e
    have := cN_inj _ _ e1
    subst this
    have hq := (leaf_wd h3).2.2
    rw [hq] at e3
    refine ⟨fun hi => by omega, fun _ t ht => by rw [List.append_nil]; exact ht⟩
  | succ h ih =>
    intro z l first i pre w fs p0 hp hw hb hs
    obtain ⟨k, u, la, m, lb, stk', k1, k2, k3, k4, rfl, k6, k7, k8, k9, k10⟩ := hp
    cases pre with
    | nil =>
      have := (Pth.le k10).2
      simp at k8
      rw [k8.2] at this
      simp at this
    | cons fr pre =>
      simp only [List.cons_append, List.cons.injEq] at k8
      obtain ⟨rfl, rfl⟩ := k8
      simp only [List.length_append] at hb
      have hle := (Pth.le k10).1
      obtain ⟨a1, a2⟩ := ih u m (first + la.length) (i - la.length) pre w fs (p0 ++ [⟨some (c_tNd z), ((first + la.length : Nat) : Int), (k : Int)⟩]) k10 k4 (by omega) (by simp; omega)
      have happ : p0 ++ ⟨some (c_tNd z), ((first + la.length : Nat) : Int), (k : Int)⟩ :: pre = (p0 ++ [⟨some (c_tNd z), ((first + la.length : Nat) : Int), (k : Int)⟩]) ++ pre := by simp
      by_cases c : i - la.length < m.length
      · obtain ⟨s2, b1, b2, b3⟩ := a1 c
        refine ⟨fun _ => ⟨⟨some (c_tNd z), ((first + la.length : Nat) : Int), (k : Int)⟩ :: s2, by rw [happ, b1]; simp, ⟨k, u, la, m, lb, s2, k1, k2, k3, k4, rfl, k6, k7, rfl, k9, b2⟩, ?_⟩, fun hi => by simp at hi; omega⟩
        obtain ⟨p, w', fs', k', rfl, q⟩ := b3
        exact ⟨_ :: p, w', fs', k', rfl, q⟩
      · have hi : i - la.length = m.length := by omega
        have a2 := a2 hi
        have hN := T_N k2
        have hkl : k < z.fKids.length := (List.getElem?_eq_some_iff.1 k1).1
        obtain ⟨g1, g2⟩ := top_eq p0 ⟨some (c_tNd z), ((first + la.length : Nat) : Int), (k : Int)⟩ (by omega)
        obtain ⟨g3, g4⟩ := top_eq p0 ⟨some (c_tNd z), w64 (((first + la.length : Nat) : Int) + u.fN), (k : Int)⟩ (by omega)
        obtain ⟨g5, g6⟩ := top_eq p0 ⟨some (c_tNd z), w64 (((first + la.length : Nat) : Int) + u.fN), w64 ((k : Int) + 1)⟩ (by omega)
        have hw1 : w64 (((first + la.length : Nat) : Int) + u.fN) = ((first + (la ++ m).length : Nat) : Int) := by
          rw [hN, w64_id ⟨by omega, by omega⟩, List.length_append]; omega
        have hz6 : z.fKids.length ≤ 6 := by unfold wd at hw; omega
        have hw2 : w64 ((k : Int) + 1) = ((k + 1 : Nat) : Int) := by rw [w64_id ⟨by omega, by omega⟩, show (k : Int) + 1 = ((k + 1 : Nat) : Int) by omega]
        rw [hw1] at g3 g4 g5 g6
        rw [hw2] at g5 g6
        have e1 : walk_stack_row_Row_forth.l1 (p0 ++ [⟨some (c_tNd z), ((first + la.length : Nat) : Int), (k : Int)⟩]) = if ((k + 1 : Nat) : Int) < (z.fKids.length : Int) then
            (bnd (idx z.fKids ((k + 1 : Nat) : Int)) fun x34 => bnd (o_tNd x34) fun x35 => bnd (walk_stack_row_Row_down_2 x35.fKids x35.fItems x35.fN ((first + (la ++ m).length : Nat) : Int) ((first + (la ++ m).length : Nat) : Int) (p0 ++ [⟨some (c_tNd z), ((first + (la ++ m).length : Nat) : Int), ((k + 1 : Nat) : Int)⟩])) fun x36 => some (.done (.ret (true, x36))))
            else (bnd (cut (p0 ++ [⟨some (c_tNd z), ((first + (la ++ m).length : Nat) : Int), ((k + 1 : Nat) : Int)⟩]) 0 (p0.length : Int)) fun x39 => some (.next x39)) := by
          unfold walk_stack_row_Row_forth.l1
          rw [if_pos (by simp <;> omega), g1, bnd_some', g2, bnd_some']
          dsimp only
          rw [bnd_some']
          dsimp only
          rw [oN, bnd_some', idx_of k1, bnd_some', oN, bnd_some', Int.toNat_natCast, set_top, hw1, g4, bnd_some']
          dsimp only
          rw [set_top, hw2, g6, bnd_some']
          dsimp only
          rw [bnd_some']
          dsimp only
          have hl1 : (p0 ++ [(⟨some (c_tNd z), ((first + (la ++ m).length : Nat) : Int), ((k + 1 : Nat) : Int)⟩ : Fr)]).length = p0.length + 1 := by simp
          rw [oN, bnd_some', bnd_some', hl1, w64_id (x := ((p0.length + 1 : Nat) : Int) - 1) ⟨by omega, by omega⟩, show ((p0.length + 1 : Nat) : Int) - 1 = (p0.length : Int) by omega]
        by_cases ck : k + 1 < z.fKids.length
        · rw [if_pos (by omega)] at e1
          have hd1 : z.fKids.drop (k + 1) = z.fKids[k + 1] :: z.fKids.drop (k + 1 + 1) := List.drop_eq_getElem_cons ck
          rw [hd1] at k7
          obtain ⟨v, m2, r2, u3, u4, u5, u6, rfl, u8⟩ := k7.cons_inv
          have hkv : z.fKids[k + 1]? = some (c_tNd v) := by rw [List.getElem?_eq_getElem ck, u3]
          have hm2 := T_pos h v m2 u4 u5
          simp only [List.length_append] at hb
          obtain ⟨p, d1, d2, d3⟩ := down2_eq (first := first + (la ++ m).length) (i := 0) (p0 ++ [⟨some (c_tNd z), ((first + (la ++ m).length : Nat) : Int), ((k + 1 : Nat) : Int)⟩]) u4 u6 hm2 (by simp only [List.length_append]; omega) (by simp; omega)
          rw [Nat.add_zero] at d1
          rw [idx_of hkv, bnd_some', oN, bnd_some', d1, bnd_some'] at e1
          refine ⟨fun _ => ⟨⟨some (c_tNd z), ((first + (la ++ m).length : Nat) : Int), ((k + 1 : Nat) : Int)⟩ :: p, ?_, ⟨k + 1, v, la ++ m, m2, r2, p, hkv, u4, u5, u6, by simp, ?_, u8, rfl, by simp only [List.length_append]; omega, ?_⟩, ?_⟩, fun hi2 => by simp only [List.length_append] at hi2; omega⟩
          · rw [happ]
            refine a2 _ (loop_done ?_)
            rw [e1, List.append_assoc]; rfl
          · rw [List.take_succ_eq_append_getElem hkl]
            rw [List.getElem?_eq_getElem hkl] at k1
            rw [Option.some.inj k1]
            exact k6.app (Fo.one k2 k3 k4)
          · rw [show i - (la ++ m).length = 0 by simp only [List.length_append]; omega]; exact d2
          · obtain ⟨q, w', fs', k', rfl, h9⟩ := d3
            exact ⟨_ :: q, w', fs', k', rfl, h9⟩
        · rw [if_neg (by omega), cut_of ⟨by omega, by omega, by simp; omega⟩, bnd_some', show ((0 : Int)).toNat = 0 from rfl, List.drop_zero, Int.toNat_natCast, List.take_left] at e1
          have hd0 : z.fKids.drop (k + 1) = [] := List.drop_of_length_le (by omega)
          rw [hd0] at k7
          have := k7.nil_inv
          subst this
          refine ⟨fun hi2 => by simp only [List.length_append, List.length_nil] at hi2; omega, fun _ t ht => ?_⟩
          rw [happ]
          exact a2 t (loop_next e1 ht)
theorem forth_eq {h : Nat} {z : Nd} {l : List El} {i : Nat} {stk pre : List Fr} {w : Nd} {fs : Int} (hs : stk = pre ++ [⟨some (c_tNd w), fs, (w.fItems.length : Int)⟩]) (hp : Pth h z l 0 stk i) (hw : wd z ≤ 6) (hi : i < l.length) (hb : l.length ≤ 900000) (hh : h ≤ 400) :
    ∃ stk2, walk_stack_row_Row_forth stk = some (true, stk2) ∧ Pth h z l 0 stk2 i ∧ Fresh stk2 := by
  have hlen := hp.le.2
  subst hs
  obtain ⟨stk2, s1, s2, s3⟩ := (forthLoop h z l 0 i pre w fs [] hp hw (by omega) (by simp; omega)).1 hi
  rw [List.nil_append, List.nil_append] at s1
  refine ⟨stk2, ?_, s2, s3⟩
  unfold walk_stack_row_Row_forth
  rw [List.length_append, List.length_singleton] at hlen ⊢
  rw [w64_id ⟨by omega, by omega⟩, show ((pre.length + 1 : Nat) : Int) - 1 = (pre.length : Int) by omega, cut_of ⟨by omega, by omega, by simp; omega⟩, bnd_some', show ((0 : Int)).toNat = 0 from rfl, List.drop_zero, Int.toNat_natCast, List.take_left, s1, bnd_some']
section
variable {R : Type}
/-- What is on top, for the body. -/
noncomputable def rtake (stk : List Fr) (K : El → List Fr → Option R) : Option R :=
  bnd (walk_stack_row_Row_top stk) fun x31 => bnd (idx stk x31) fun x32 => bnd (some x32.fN) fun q33 => match q33 with
    | none => none
    | some z34 => bnd (o_tNd z34) fun x36 => bnd (idx x36.fItems x32.fNext) fun x38 => K x38 (stk.set x31.toNat (⟨x32.fN, x32.fFirst, w64 (x32.fNext + 1)⟩ : wFr))
/-- One round, up to the body. -/
noncomputable def rstep (stk : List Fr) (K : El → List Fr → Option R) : Option R :=
  bnd (walk_stack_row_Row_top stk) fun x19 => bnd (idx stk x19) fun x20 => bnd (some x20.fN) fun q21 => match q21 with
    | none => none
    | some z22 => bnd (o_tNd z22) fun x24 =>
      bnd (if x20.fNext = (x24.fItems.length : Int) then bnd (walk_stack_row_Row_forth stk) fun x29 => some x29.2 else some stk : Option (List Fr)) fun t26 => rtake t26 K
theorem Pth.items : ∀ {h : Nat} {z : Nd} {l : List El} {first : Nat} {pre : List Fr} {w : Nd} {fs : Int} {k : Int} {i : Nat}, Pth h z l first (pre ++ [⟨some (c_tNd w), fs, k⟩]) i → w.fItems.length ≤ l.length
  | 0, z, l, first, pre, w, fs, k, i, hp => by
    obtain ⟨h1, h2, h3⟩ := hp
    obtain ⟨rfl, e⟩ := List.append_inj' (show pre ++ [_] = [] ++ [_] from h1) rfl
    simp only [List.cons.injEq, and_true, wFr.mk.injEq, Option.some.injEq] at e
    have := cN_inj _ _ e.1
    subst this
    rw [(leaf_wd h3).2.2]; exact Nat.le_refl _
  | h + 1, z, l, first, pre, w, fs, k, i, hp => by
    obtain ⟨k, u, la, m, lb, stk', k1, k2, k3, k4, rfl, k6, k7, k8, k9, k10⟩ := hp
    cases pre with
    | nil =>
      have := (Pth.le k10).2
      simp at k8
      rw [k8.2] at this
      simp at this
    | cons fr pre =>
      simp only [List.cons_append, List.cons.injEq] at k8
      obtain ⟨rfl, rfl⟩ := k8
      have := Pth.items k10
      simp only [List.length_append]
      omega
theorem rtake_eq {h : Nat} {z : Nd} {l : List El} {i : Nat} {stk : List Fr} (hp : Pth h z l 0 stk i) (hf : Fresh stk) (hi : i < l.length) (hb : l.length ≤ 900000) (hh : h ≤ 400) (K : El → List Fr → Option R) :
    ∃ stk2, rtake stk K = K l[i] stk2 ∧ Pth h z l 0 stk2 (i + 1) := by
  obtain ⟨pre, w, fs, k, hs, h1, h2⟩ := hp.top
  obtain ⟨pre', w', fs', k', hs', h3⟩ := hf
  have hlen := hp.le.2
  rw [hs] at hs'
  obtain ⟨rfl, e⟩ := List.append_inj' hs' rfl
  simp only [List.cons.injEq, and_true, wFr.mk.injEq, Option.some.injEq] at e
  obtain ⟨e1, _, e3⟩ := e
  have := cN_inj _ _ e1
  subst this
  obtain rfl : k = k' := by omega
  obtain ⟨h4, h5, h6⟩ := h2 h3
  subst hs
  have hwl := hp.items
  rw [List.length_append, List.length_singleton] at hlen
  obtain ⟨g1, g2⟩ := top_eq pre ⟨some (c_tNd w), fs, (k : Int)⟩ (by omega)
  refine ⟨_, ?_, h6⟩
  unfold rtake
  rw [g1, bnd_some', g2, bnd_some', bnd_some']
  dsimp only
  rw [oN, bnd_some', idx_of (h5.symm.trans (List.getElem?_eq_getElem hi)), bnd_some', Int.toNat_natCast, set_top, w64_id ⟨by omega, by omega⟩, show ((k + 1 : Nat) : Int) = (k : Int) + 1 by omega]
theorem rstep_eq {h : Nat} {z : Nd} {l : List El} {i : Nat} {stk : List Fr} (hp : Pth h z l 0 stk i) (hw : wd z ≤ 6) (hi : i < l.length) (hb : l.length ≤ 900000) (hh : h ≤ 400) (K : El → List Fr → Option R) :
    ∃ stk2, rstep stk K = K l[i] stk2 ∧ Pth h z l 0 stk2 (i + 1) := by
  obtain ⟨pre, w, fs, k, hs, h1, h2⟩ := hp.top
  have hlen := hp.le.2
  rw [hs, List.length_append, List.length_singleton] at hlen
  obtain ⟨g1, g2⟩ := top_eq pre ⟨some (c_tNd w), fs, (k : Int)⟩ (by omega)
  rw [← hs] at g1 g2
  unfold rstep
  rw [g1, bnd_some', g2, bnd_some', bnd_some']
  dsimp only
  rw [oN, bnd_some']
  by_cases c : k < w.fItems.length
  · rw [if_neg (by omega), bnd_some']
    exact rtake_eq hp ⟨pre, w, fs, k, hs, c⟩ hi hb hh K
  · have hk : k = w.fItems.length := by omega
    subst hk
    obtain ⟨stk3, f1, f2, f3⟩ := forth_eq hs hp hw hi hb hh
    rw [if_pos rfl, f1, bnd_some', bnd_some']
    exact rtake_eq f2 f3 hi hb hh K
/-- What comes of going through things, from the i-th on. -/
def goR {σ τ : Type} (y : Int → El → σ → Option (σ ⊕ τ)) (fin : σ → τ) : List El → Int → σ → Option τ
  | [], _, s => some (fin s)
  | x :: xs, i, s => bnd (y i x s) fun r => match r with
    | .inl s' => goR y fin xs (i + 1) s'
    | .inr t => some t
theorem range_loop {S σ τ : Type} {f : S → Option (Lp S τ)} (mk : Int → List Fr → σ → S) (y : Int → El → σ → Option (σ ⊕ τ)) (fin : σ → τ) (j : Nat) {h : Nat} {z : Nd} {l : List El} (hw : wd z ≤ 6) (hb : l.length ≤ 900000) (hh : h ≤ 400) (hj : j ≤ l.length)
    (hf1 : ∀ (i : Nat) stk s, i < j → f (mk (i : Int) stk s) = rstep stk fun x st' => bnd (y (i : Int) x s) fun r => match r with | .inl s' => some (.next (mk (w64 ((i : Int) + 1)) st' s')) | .inr t => some (.done t))
    (hf2 : ∀ stk s, f (mk (j : Int) stk s) = some (.done (fin s))) : ∀ (n i : Nat) stk s t, i + n = j → Pth h z l 0 stk i → goR y fin ((l.take j).drop i) (i : Int) s = some t → loop f (mk (i : Int) stk s) = some t := by
  intro n
  induction n with
  | zero =>
    intro i stk s t hn hp hg
    obtain rfl : i = j := by omega
    rw [List.drop_of_length_le (by rw [List.length_take]; omega)] at hg
    obtain rfl := Option.some.inj (show some (fin s) = some t from hg)
    exact loop_done (hf2 stk s)
  | succ n ih =>
    intro i stk s t hn hp hg
    have hil : i < l.length := by omega
    have hd : (l.take j).drop i = l[i] :: (l.take j).drop (i + 1) := by
      rw [List.drop_eq_getElem_cons (by rw [List.length_take]; omega), List.getElem_take]
    rw [hd] at hg
    obtain ⟨stk2, s1, s2⟩ := rstep_eq hp hw hil hb hh (fun x st' => bnd (y (i : Int) x s) fun r => match r with | .inl s' => some (Lp.next (mk (w64 ((i : Int) + 1)) st' s')) | .inr t => some (Lp.done t) : El → List Fr → Option (Lp S τ))
    have e := hf1 i stk s (by omega)
    rw [s1, w64_id ⟨by omega, by omega⟩] at e
    unfold goR at hg
    cases hy : y (i : Int) l[i] s with
    | none => rw [hy] at hg; cases hg
    | some r =>
      rw [hy] at hg e
      cases r with
      | inl s' => exact loop_next e (ih (i + 1) stk2 s' t (by omega) s2 (by simpa using hg))
      | inr u =>
        obtain rfl := Option.some.inj (show some u = some t from hg)
        exact loop_done e
end
def stA (n : Nat) (i : Int) : Nat := min i.toNat n
def stB (n : Nat) (i j : Int) : Nat := max (stA n i) (stA n j)
theorem stretch_eq (t : tTr) (l : List El) (ht : IsT t l) (i j : Int) : walk_stretch_row_Row t i j = some ((stA l.length i : Int), (stB l.length i j : Int)) := by
  unfold walk_stretch_row_Row
  rw [Len_eq t l ht, bnd_some', bnd_some', bnd_some', bnd_some']
  unfold stB stA
  congr 2 <;> omega
theorem root_eq {h : Nat} {z : Nd} {l : List El} (hr : Rt h z l) : tree_Tree_row_Row_Root ⟨some (c_tNd z)⟩ = some (.inr (z.fKids, z.fItems, z.fN)) := by
  unfold tree_Tree_row_Row_Root
  rw [bnd_some']
  dsimp only
  rw [oN, bnd_some']
theorem wRange_eq (t : tTr) (l : List El) (ht : IsT t l) (i j : Int) : walk_Range_row_Row t i j = some ((stA l.length i : Int), (stB l.length i j : Int), t.fRoot) := by
  unfold walk_Range_row_Row
  rw [stretch_eq t l ht, bnd_some']
/-- The first one of a kind. -/
def findFrom (p : El → Bool) : List El → Nat → Option Nat
  | [], _ => none
  | x :: xs, i => if p x = true then some i else findFrom p xs (i + 1)
def foundR : Option Nat → Ex Unit (Unit ⊕ Int)
  | none => .brk ()
  | some k => .ret (.inr (k : Int))
theorem goFind (p : El → Bool) {r0 : Int → El → Option (Int ⊕ Unit)} (h : ∀ i x, r0 i x = some (if p x = true then .inl i else .inr ())) : ∀ (l : List El) (i : Nat), goR (fun i x (_ : Unit) => bnd (r0 i x) fun r => match r with
      | .inl v => some (.inr (.ret (.inr v)) : Unit ⊕ Ex Unit (Unit ⊕ Int))
      | .inr _ => some (.inl ())) (fun _ => .brk ()) l (i : Int) () = some (foundR (findFrom p l i))
  | [], i => rfl
  | x :: l, i => by
    unfold goR findFrom
    rw [h, bnd_some']
    by_cases c : p x = true
    · rw [if_pos c, if_pos c]; rfl
    · rw [if_neg c, if_neg c]
      have := goFind p h l (i + 1)
      rw [show ((i + 1 : Nat) : Int) = (i : Int) + 1 by omega] at this
      exact this
theorem index_gen {r0 : Int → El → Option (Int ⊕ Unit)} (p : El → Bool) (h0 : ∀ i x, r0 i x = some (if p x = true then .inl i else .inr ())) {n : Int} {g : Int × List Fr → Option (Lp (Int × List Fr) (Ex Unit (Unit ⊕ Int)))}
    (hg : ∀ i stk, g (i, stk) = if i < n then rstep stk (fun x st' => bnd (r0 i x) fun x38 => match x38 with | .inl v => some (.done (.ret (.inr v))) | .inr _ => some (.next (w64 (i + 1), st'))) else some (.done (.brk ())))
    {h a : Nat} {z : Nd} {l : List El} (hr : Rt h z l) (hl : l.length ≤ 800000) (hn : n = (l.length : Int)) (ha : a < l.length) {stk : List Fr} (hp : Pth h z l 0 stk a) : loop g ((a : Int), stk) = some (foundR (findFrom p (l.drop a) a)) := by
  have hlow := hr.low (by omega)
  have hg2 := goFind p h0 (l.drop a) a
  refine range_loop (f := g) (fun i stk (_ : Unit) => (i, stk)) (fun i x (_ : Unit) => bnd (r0 i x) fun r => match r with
      | .inl v => some (.inr (.ret (.inr v)) : Unit ⊕ Ex Unit (Unit ⊕ Int))
      | .inr _ => some (.inl ())) (fun _ => .brk ()) l.length hr.2.1 (by omega) (show h ≤ 400 by omega) (Nat.le_refl _) (fun i stk s hi => ?_) (fun stk s => ?_) (l.length - a) a stk () _ (by omega) hp (by rw [List.take_length]; exact hg2)
  · rw [hg, if_pos (by omega)]
    congr 1
    funext x st'
    rw [h0, bnd_some', bnd_some']
    by_cases c : p x = true
    · rw [if_pos c]; rfl
    · rw [if_neg c]; rfl
  · rw [hg, if_neg (by omega)]
theorem cut11_eq (a : List UInt8) (n : Nat) : law11_Cut a (n : Int) = some (a.take n) := by
  unfold law11_Cut
  by_cases h : a.length > n
  · rw [if_pos (by omega), cut_of ⟨by omega, by omega, by omega⟩, bnd_some']; simp
  · rw [if_neg (by omega), List.take_of_length_le (by omega)]
theorem rsF_le (b : List UInt8) (hb : b.length ≤ 2000000) : ∀ n i, ∀ x ∈ rsF b n i, x ≤ b.length := by
  intro n
  induction n with
  | zero => intro i x hx; cases hx
  | succ n ih =>
    intro i x hx
    simp only [rsF] at hx
    by_cases c : i < b.length
    · rw [if_pos c] at hx
      rcases List.mem_cons.1 hx with rfl | hx
      · omega
      · exact ih _ _ hx
    · rw [if_neg c] at hx; cases hx
theorem rs_le (b : List UInt8) (hb : b.length ≤ 2000000) : ∀ x ∈ rs b, x ≤ b.length := rsF_le b hb _ _
def zr : row_Row := ⟨[], 0, false⟩
def enE (w : List UInt8) (i : Nat) : Int := (endF w (fs w i).2).1
def rowsW (w : List UInt8) : List row_Row := (rs w).map fun i => (ldR w i).1
def prowsW (w : List UInt8) : List ref08_Row := (rs w).map fun i => (ldP w i).1
def okW (w : List UInt8) (l : List Nat) : Bool := l.all fun i => (ldR w i).2 == 0
def tailE (w : List UInt8) (l : List Nat) : Bool := match l.getLast? with
  | none => false
  | some i => !(enE w i == 0)
def firstE (w : List UInt8) : List Nat → Int
  | [] => 2
  | i :: l => if enE w i = 0 then firstE w l else enE w i
theorem firstE_cons (w : List UInt8) (i : Nat) (l : List Nat) : firstE w (i :: l) = if enE w i = 0 then firstE w l else enE w i := rfl
theorem tailE_snoc (w : List UInt8) (l : List Nat) (i : Nat) : tailE w (l ++ [i]) = !(enE w i == 0) := by simp [tailE]
theorem refused_eq (c : Int) : grid_refused c = some (⟨⟨none⟩, false, 2⟩, c, []) := rfl
theorem ld_same (w : List UInt8) (i : Nat) : (ldP w i).2 = (ldR w i).2 := by
  unfold ldR ldP
  split
  · rfl
  · split <;> rfl
theorem gridLoop (w : List UInt8) (hb : w.length ≤ 4096) (l : List Nat) (hl : ∀ x ∈ l, x ≤ w.length) (hn : l.length ≤ 400) :
    ∃ t, loop (grid_Load.l2 (l.map (sRow w))) (0, 0, List.replicate l.length zr) = some t ∧ ((okW w l = true ∧ t = Ex.brk (l.map fun i => (ldR w i).1)) ∨ (okW w l = false ∧ ∃ c, c ≠ 0 ∧ t = Ex.ret (Sum.inl (⟨⟨none⟩, false, 2⟩, c, [])))) := by
  refine loop_for (f := grid_Load.l2 (l.map (sRow w))) (σ := List row_Row) (fun k s => (0, k, s)) l
    (fun pre s => s = pre.map (fun i => (ldR w i).1) ++ List.replicate (l.length - pre.length) zr ∧ okW w pre = true)
    (fun t => (okW w l = true ∧ t = Ex.brk (l.map fun i => (ldR w i).1)) ∨ (okW w l = false ∧ ∃ c, c ≠ 0 ∧ t = Ex.ret (Sum.inl (⟨⟨none⟩, false, 2⟩, c, []))))
    (fun pre j suf s hs hI => ?_) (fun s hI => ?_) ⟨by simp, rfl⟩
  · obtain ⟨hI1, hI2⟩ := hI
    have hlen : l.length = pre.length + (suf.length + 1) := by rw [hs]; simp
    have hj : j ≤ w.length := hl j (by rw [hs]; simp)
    have hidx : idx l (pre.length : Int) = some j := by rw [hs]; exact idx_at pre j suf
    rw [show l.length - pre.length = suf.length + 1 by omega, List.replicate_succ] at hI1
    have hx : idx s (pre.length : Int) = some zr := by rw [hI1]; exact idx_of (by rw [List.getElem?_append_right (by simp)]; simp)
    have hset : s.set pre.length (ldR w j).1 = pre.map (fun i => (ldR w i).1) ++ (ldR w j).1 :: List.replicate suf.length zr := by rw [hI1]; exact set_at _ _ _ _ _ (by simp)
    unfold grid_Load.l2
    dsimp only
    rw [if_pos (by simp; omega), idx_map, hidx]
    simp only [Option.map_some, bnd_some']
    rw [rowLoad_eq w (by omega) j hj, bnd_some', hx, bnd_some', Int.toNat_natCast, refused_eq]
    by_cases c : (ldR w j).2 = 0
    · rw [if_pos c, c, w64_id ⟨by omega, by omega⟩]
      refine .inl ⟨_, rfl, ?_, ?_⟩
      · rw [hset, show l.length - (pre ++ [j]).length = suf.length by simp; omega]; simp
      · unfold okW at hI2 ⊢; rw [List.all_append, hI2]; simp [c]
    · rw [if_neg c]
      refine .inr ⟨_, rfl, .inr ⟨?_, _, c, rfl⟩⟩
      unfold okW; rw [hs, List.all_append]; simp [c]
  · obtain ⟨hI1, hI2⟩ := hI
    refine ⟨Ex.brk s, ?_, .inl ⟨hI2, ?_⟩⟩
    · unfold grid_Load.l2
      dsimp only
      rw [if_neg (by simp)]
    · rw [hI1]; simp
theorem endsLoop (w : List UInt8) (l : List Nat) (z : scan_Row) (hn : l.length ≤ 400) :
    ∃ t, loop (grid_ends.l1 (l.map (sRow w)) z) 0 = some t ∧ ((firstE w l = 2 ∧ t = Ex.brk ()) ∨ t = Ex.ret ((!(z.fEnd == 0)), firstE w l)) := by
  have key : ∀ (suf pre : List Nat), l = pre ++ suf → ∃ t, loop (grid_ends.l1 (l.map (sRow w)) z) (pre.length : Int) = some t ∧ ((firstE w suf = 2 ∧ t = Ex.brk ()) ∨ t = Ex.ret ((!(z.fEnd == 0)), firstE w suf)) := by
    intro suf
    induction suf with
    | nil =>
      intro pre h
      refine ⟨_, loop_done (t := Ex.brk ()) ?_, .inl ⟨rfl, rfl⟩⟩
      unfold grid_ends.l1
      rw [if_neg (by rw [h]; simp)]
    | cons x suf ih =>
      intro pre h
      have hlen : l.length = pre.length + (suf.length + 1) := by rw [h]; simp
      have hx : idx (l.map (sRow w)) (pre.length : Int) = some (sRow w x) := by rw [idx_map, h, idx_at]; rfl
      have hu : grid_ends.l1 (l.map (sRow w)) z (pre.length : Int) = if enE w x = 0 then some (Lp.next ((pre.length : Int) + 1)) else some (Lp.done (Ex.ret ((!(z.fEnd == 0)), enE w x))) := by
        unfold grid_ends.l1
        rw [if_pos (by simp; omega), hx, bnd_some', w64_id ⟨by omega, by omega⟩]
        rfl
      unfold firstE
      by_cases c : enE w x = 0
      · rw [if_pos c] at hu ⊢
        obtain ⟨t, t1, t2⟩ := ih (pre ++ [x]) (by rw [h]; simp)
        exact ⟨t, loop_next hu (by simpa using t1), t2⟩
      · rw [if_neg c] at hu ⊢
        exact ⟨_, loop_done hu, .inr rfl⟩
  exact key l [] rfl
theorem ends_eq (w : List UInt8) (l : List Nat) (hn : l.length ≤ 400) : grid_ends (l.map (sRow w)) = some (tailE w l, firstE w l) := by
  unfold grid_ends
  by_cases h : l = []
  · subst h; rfl
  · have hp : 0 < l.length := List.length_pos_iff.2 h
    rw [List.length_map, if_neg (by omega), w64_id ⟨by omega, by omega⟩]
    obtain ⟨q, x, rfl⟩ : ∃ q x, l = q ++ [x] := ⟨l.dropLast, l.getLast h, (List.dropLast_concat_getLast h).symm⟩
    rw [show ((q ++ [x]).length : Int) - 1 = (q.length : Int) by simp, idx_map, idx_at]
    obtain ⟨t, t1, t2⟩ := endsLoop w (q ++ [x]) (sRow w x) hn
    simp only [Option.map_some, bnd_some']
    rw [t1, bnd_some', tailE_snoc]
    rcases t2 with ⟨q1, rfl⟩ | rfl
    · dsimp only; rw [q1]; rfl
    · rfl
theorem refLoop (w : List UInt8) (hb : w.length ≤ 4096) (l : List Nat) (hl : ∀ x ∈ l, x ≤ w.length) (hn : l.length ≤ 400) :
    ∃ t, loop (ref11_Load.l1 w (l.map (rRow w))) (0, false, []) = some t ∧ ((okW w l = true ∧ t = Ex.brk (tailE w l, l.map fun i => (ldP w i).1)) ∨ (okW w l = false ∧ ∃ c, c ≠ 0 ∧ t = Ex.ret (⟨[], false, 2⟩, c))) := by
  refine loop_for (f := ref11_Load.l1 w (l.map (rRow w))) (σ := Bool × List ref08_Row) (fun k s => (k, s.1, s.2)) l
    (fun pre s => s = (tailE w pre, pre.map (fun i => (ldP w i).1)) ∧ okW w pre = true)
    (fun t => (okW w l = true ∧ t = Ex.brk (tailE w l, l.map fun i => (ldP w i).1)) ∨ (okW w l = false ∧ ∃ c, c ≠ 0 ∧ t = Ex.ret (⟨[], false, 2⟩, c)))
    (fun pre j suf s hs hI => ?_) (fun s hI => ?_) (s0 := (false, [])) ⟨rfl, rfl⟩
  · obtain ⟨hI1, hI2⟩ := hI
    have hlen : l.length = pre.length + (suf.length + 1) := by rw [hs]; simp
    have hj : j ≤ w.length := hl j (by rw [hs]; simp)
    have hidx : idx l (pre.length : Int) = some j := by rw [hs]; exact idx_at pre j suf
    subst hI1
    unfold ref11_Load.l1
    dsimp only
    rw [if_pos (by simp; omega), idx_map, hidx]
    simp only [Option.map_some, bnd_some']
    rw [refLoad_eq w (by omega) j hj, bnd_some', ld_same]
    by_cases c : (ldR w j).2 = 0
    · rw [if_pos c, app_of (by simp; omega), bnd_some', w64_id ⟨by omega, by omega⟩]
      refine .inl ⟨(_, _), rfl, ?_, ?_⟩
      · rw [tailE_snoc, List.map_append]; rfl
      · unfold okW at hI2 ⊢; rw [List.all_append, hI2]; simp [c]
    · rw [if_neg c]
      refine .inr ⟨_, rfl, .inr ⟨?_, _, c, rfl⟩⟩
      unfold okW; rw [hs, List.all_append]; simp [c]
  · obtain ⟨hI1, hI2⟩ := hI
    subst hI1
    refine ⟨_, ?_, .inl ⟨hI2, rfl⟩⟩
    unfold ref11_Load.l1
    dsimp only
    rw [if_neg (by simp)]
theorem refBack (w : List UInt8) (l : List Nat) (hn : l.length ≤ 400) : ∀ (k : Nat), k ≤ l.length → loop (ref11_Load.l2 (l.map (rRow w))) ((k : Int) - 1, firstE w (l.drop k)) = some (firstE w l) := by
  intro k
  induction k with
  | zero =>
    intro _
    refine loop_done ?_
    unfold ref11_Load.l2
    dsimp only
    rw [if_neg (by omega)]; rfl
  | succ k ih =>
    intro hk
    refine loop_next ?_ (ih (by omega))
    have hd : l.drop k = l[k] :: l.drop (k + 1) := List.drop_eq_getElem_cons (by omega)
    have hx : idx (l.map (rRow w)) ((k + 1 : Nat) - 1 : Int) = some (rRow w l[k]) := by
      rw [show ((k + 1 : Nat) : Int) - 1 = (k : Int) by omega, idx_map, idx_of (List.getElem?_eq_getElem (by omega))]; rfl
    unfold ref11_Load.l2
    dsimp only
    rw [if_pos (by omega), hx, bnd_some', w64_id ⟨by omega, by omega⟩, hd, show ((k + 1 : Nat) : Int) - 1 - 1 = (k : Int) - 1 by omega]
    show (bnd (if enE w l[k] = 0 then _ else _) _) = _
    rw [firstE_cons]
    by_cases c : enE w l[k] = 0
    · rw [if_pos c, if_pos c]; rfl
    · rw [if_neg c, if_neg c]; rfl
def badG : grid_Grid := ⟨⟨none⟩, false, 2⟩
def isBad (w : List UInt8) : Bool := decide ((rs w).length > 400) || !(okW w (rs w))
theorem load_bad (w : List UInt8) (hb : w.length ≤ 4096) (h : isBad w = true) : (∃ c, c ≠ 0 ∧ grid_Load w = some (.inl (badG, c, []))) ∧ ∃ c, c ≠ 0 ∧ ref11_Load w = some (⟨[], false, 2⟩, c) := by
  unfold grid_Load ref11_Load
  rw [New_eq w hb, bnd_some', sAll_eq w (by omega), rAll_eq w (by omega), if_neg (by omega : ¬ (w.length : Int) > 4096)]
  dsimp only
  rw [if_pos rfl, bnd_some', bnd_some', List.length_map, List.length_map]
  by_cases c : (rs w).length > 400
  · rw [if_pos (by omega), if_pos (by omega), refused_eq, bnd_some']
    exact ⟨⟨6, by decide, rfl⟩, 6, by decide, rfl⟩
  · rw [if_neg (by omega), if_neg (by omega), mkz_of (by omega), bnd_some', Int.toNat_natCast]
    obtain ⟨t, t1, t2⟩ := gridLoop w hb (rs w) (rs_le w (by omega)) (by omega)
    obtain ⟨u, u1, u2⟩ := refLoop w hb (rs w) (rs_le w (by omega)) (by omega)
    have hk : okW w (rs w) = false := by unfold isBad at h; simpa [c] using h
    rw [hk] at t2 u2
    obtain ⟨_, x, x0, rfl⟩ := t2.resolve_left (fun h => by cases h.1)
    obtain ⟨_, y, y0, rfl⟩ := u2.resolve_left (fun h => by cases h.1)
    rw [show (⟨[], 0, false⟩ : row_Row) = zr from rfl, t1, u1, bnd_some', bnd_some']
    exact ⟨⟨x, x0, rfl⟩, y, y0, rfl⟩
theorem load_ok (w : List UInt8) (hb : w.length ≤ 4096) (h : isBad w = false) : ∃ t, IsT t (rowsW w) ∧ grid_Load w = some (.inl (⟨t, tailE w (rs w), firstE w (rs w)⟩, 0, w)) ∧ ref11_Load w = some (⟨prowsW w, tailE w (rs w), firstE w (rs w)⟩, 0) := by
  have c : ¬ (rs w).length > 400 := fun c => by unfold isBad at h; simp [c] at h
  have hk : okW w (rs w) = true := by unfold isBad at h; simpa [c] using h
  obtain ⟨q, q1, q2⟩ := Of_eq (rowsW w) (by unfold rowsW; simp; omega)
  refine ⟨q, q2, ?_⟩
  unfold grid_Load ref11_Load
  rw [New_eq w hb, bnd_some', sAll_eq w (by omega), rAll_eq w (by omega), if_neg (by omega : ¬ (w.length : Int) > 4096)]
  dsimp only
  rw [if_pos rfl, bnd_some', bnd_some', List.length_map, List.length_map, if_neg (by omega), if_neg (by omega), mkz_of (by omega), bnd_some', Int.toNat_natCast]
  obtain ⟨t, t1, t2⟩ := gridLoop w hb (rs w) (rs_le w (by omega)) (by omega)
  obtain ⟨u, u1, u2⟩ := refLoop w hb (rs w) (rs_le w (by omega)) (by omega)
  rw [hk] at t2 u2
  obtain ⟨_, rfl⟩ := t2.resolve_right (fun h => by cases h.1)
  obtain ⟨_, rfl⟩ := u2.resolve_right (fun h => by cases h.1)
  have hbk := refBack w (rs w) (by omega) (rs w).length (Nat.le_refl _)
  rw [List.drop_length] at hbk
  rw [show (⟨[], 0, false⟩ : row_Row) = zr from rfl, t1, u1, bnd_some', bnd_some']
  dsimp only
  rw [show (rs w).map (fun i => (ldR w i).1) = rowsW w from rfl, q1, bnd_some', ends_eq w _ (by omega), bnd_some', w64_id ⟨by omega, by omega⟩]
  rw [show firstE w [] = 2 from rfl] at hbk
  rw [hbk, bnd_some']
  exact ⟨rfl, rfl⟩
theorem begun_bad (w : List UInt8) (hb : w.length ≤ 4096) (h : isBad w = true) : law11_Begun w = some (.inl (badG, ⟨[], false, 2⟩, false, [])) := by
  obtain ⟨⟨c, c0, e1⟩, d, d0, e2⟩ := load_bad w hb h
  unfold law11_Begun
  rw [e1, bnd_some']
  dsimp only
  rw [e2, bnd_some', if_neg c0]; rfl
theorem begun_ok (w : List UInt8) (hb : w.length ≤ 4096) (h : isBad w = false) : ∃ t, IsT t (rowsW w) ∧ law11_Begun w = some (.inl (⟨t, tailE w (rs w), firstE w (rs w)⟩, ⟨prowsW w, tailE w (rs w), firstE w (rs w)⟩, true, w)) := by
  obtain ⟨t, t1, e1, e2⟩ := load_ok w hb h
  refine ⟨t, t1, ?_⟩
  unfold law11_Begun
  rw [e1, bnd_some']
  dsimp only
  rw [e2, bnd_some', if_pos rfl]; rfl
theorem rowsW_len (w : List UInt8) : (rowsW w).length = (rs w).length := by simp [rowsW]
theorem isBad_len {w : List UInt8} (h : isBad w = false) : (rs w).length ≤ 400 := by unfold isBad at h; simp at h; omega
theorem awake12_eq : law12_awake = some true := by decide +kernel
def wdL : List Nat → Int → Int
  | [], a => a
  | n :: l, a => wdL l (if (n : Int) > a then (n : Int) else a)
theorem wdL_ge : ∀ (l : List Nat) (a : Int), a ≤ wdL l a ∧ ∀ n ∈ l, (n : Int) ≤ wdL l a
  | [], a => ⟨Int.le_refl _, by simp⟩
  | n :: l, a => by
    have hb : a ≤ (if (n : Int) > a then (n : Int) else a) ∧ (n : Int) ≤ (if (n : Int) > a then (n : Int) else a) := by split <;> omega
    obtain ⟨h1, h2⟩ := wdL_ge l (if (n : Int) > a then (n : Int) else a)
    refine ⟨Int.le_trans hb.1 h1, fun m hm => ?_⟩
    rcases List.mem_cons.1 hm with rfl | hm
    · exact Int.le_trans hb.2 h1
    · exact h2 m hm
theorem wdL_le : ∀ (l : List Nat) (a b : Int), a ≤ b → (∀ n ∈ l, (n : Int) ≤ b) → wdL l a ≤ b
  | [], a, b, h, _ => h
  | n :: l, a, b, h, hn => by
    unfold wdL
    refine wdL_le l _ b ?_ fun m hm => hn m (by simp [hm])
    have := hn n (by simp)
    split <;> omega
def lens (l : List row_Row) : List Nat := l.map fun R => R.fCells.length
def wid (l : List row_Row) : Int := wdL (lens l) 0
theorem wid_ge {l : List row_Row} {R : row_Row} (h : R ∈ l) : (R.fCells.length : Int) ≤ wid l := (wdL_ge (lens l) 0).2 _ (List.mem_map.2 ⟨R, h, rfl⟩)
theorem goWidth : ∀ (l : List row_Row) (i a : Int), goR (fun i x (s : Int) => bnd (grid_Grid_Width_r0 i x s) fun s' => some (.inl s' : Int ⊕ Int)) id l i a = some (wdL (lens l) a)
  | [], i, a => rfl
  | R :: l, i, a => by
    unfold goR grid_Grid_Width_r0 row_Row_Len
    rw [bnd_some', bnd_some', bnd_some']
    dsimp only
    have := goWidth l (i + 1) (if (R.fCells.length : Int) > a then (R.fCells.length : Int) else a)
    unfold grid_Grid_Width_r0 row_Row_Len at this
    rw [this]; rfl
theorem Width_eq (t : tTr) (tl : Bool) (e : Int) (l : List row_Row) (ht : IsT t l) (hl : l.length ≤ 4000) : grid_Grid_Width ⟨t, tl, e⟩ = some (wid l) := by
  unfold grid_Grid_Width grid_Grid_Len
  dsimp only
  rw [Len_eq t l ht, bnd_some', bnd_some', wRange_eq t l ht, bnd_some']
  dsimp only
  rw [show stA l.length 0 = 0 by unfold stA; simp, show stB l.length 0 (l.length : Int) = l.length by unfold stB stA; omega]
  unfold walk_Range_row_Row_1
  rcases ht with ⟨rfl, rfl⟩ | ⟨h, z, rfl, hz⟩
  · rfl
  · have hpos : 0 < l.length := List.length_pos_iff.2 hz.2.2.2
    have hlow := hz.low (by omega)
    obtain ⟨stk, d1, d2, d3⟩ := down_eq (first := 0) (i := 0) hz.1 hz.2.1 hpos (by omega) (by omega)
    rw [if_neg (by omega)]
    dsimp only
    rw [root_eq hz, bnd_some']
    dsimp only
    have hg := goWidth l 0 0
    have hlp := range_loop (f := walk_Range_row_Row_1.l1 (l.length : Int)) (fun i stk (s : Int) => (i, s, stk)) (fun i x (s : Int) => bnd (grid_Grid_Width_r0 i x s) fun s' => some (.inl s' : Int ⊕ Int)) id l.length hz.2.1 (by omega) (show h ≤ 400 by omega) (Nat.le_refl _) (fun i stk s hi => by
      have e : walk_Range_row_Row_1.l1 (l.length : Int) ((i : Int), s, stk) = if (i : Int) < (l.length : Int) then rstep stk (fun x st' => bnd (grid_Grid_Width_r0 (i : Int) x s) fun x39 => some (Lp.next (w64 ((i : Int) + 1), x39, st'))) else some (Lp.done s) := rfl
      rw [e, if_pos (by omega)]
      congr 1) (fun stk s => by
      have e : walk_Range_row_Row_1.l1 (l.length : Int) ((l.length : Int), s, stk) = if (l.length : Int) < (l.length : Int) then rstep stk (fun x st' => bnd (grid_Grid_Width_r0 (l.length : Int) x s) fun x39 => some (Lp.next (w64 ((l.length : Int) + 1), x39, st'))) else some (Lp.done s) := rfl
      rw [e, if_neg (by omega)]; rfl) l.length 0 stk 0 _ (by omega) d2 (by rw [List.take_length, List.drop_zero]; simpa using hg)
    rw [show (((0 : Nat) + 0 : Nat) : Int) = ((0 : Nat) : Int) from rfl, show ((0 : Nat) : Int) = 0 from rfl] at d1
    rw [show ((0 : Nat) : Int) = 0 from rfl] at hlp ⊢
    rw [d1, bnd_some', hlp, bnd_some', bnd_some', wid]
theorem goAllR : ∀ (l : List row_Row) (i : Int) (acc : List row_Row), acc.length + l.length ≤ 4000 → goR (fun i x (s : List row_Row) => bnd (walk_All_row_Row_r0 i x s) fun s' => some (.inl s' : List row_Row ⊕ List row_Row)) id l i acc = some (acc ++ l)
  | [], i, acc, _ => by simp [goR]
  | x :: l, i, acc, h => by
    simp only [List.length_cons] at h
    unfold goR walk_All_row_Row_r0
    rw [app_of (by simp; omega), bnd_some', bnd_some', bnd_some']
    dsimp only
    have := goAllR l (i + 1) (acc ++ [x]) (by simp; omega)
    unfold walk_All_row_Row_r0 at this
    rw [this]; simp
theorem allR_eq (t : tTr) (l : List row_Row) (ht : IsT t l) (hl : l.length ≤ 4000) : walk_All_row_Row t = some l := by
  unfold walk_All_row_Row
  rw [Len_eq t l ht, bnd_some', mkc_of ⟨by omega, by omega⟩, bnd_some', bnd_some', wRange_eq t l ht, bnd_some']
  dsimp only
  rw [show stA l.length 0 = 0 by unfold stA; simp, show stB l.length 0 (l.length : Int) = l.length by unfold stB stA; omega]
  unfold walk_Range_row_Row_1_2
  rcases ht with ⟨rfl, rfl⟩ | ⟨h, z, rfl, hz⟩
  · rfl
  · have hpos : 0 < l.length := List.length_pos_iff.2 hz.2.2.2
    have hlow := hz.low (by omega)
    obtain ⟨stk, d1, d2, d3⟩ := down_eq (first := 0) (i := 0) hz.1 hz.2.1 hpos (by omega) (by omega)
    rw [if_neg (by omega)]
    dsimp only
    rw [root_eq hz, bnd_some']
    dsimp only
    have hg := goAllR l 0 [] (by simp; omega)
    have hlp := range_loop (f := walk_Range_row_Row_1_2.l1 (l.length : Int)) (fun i stk (s : List row_Row) => (i, s, stk)) (fun i x (s : List row_Row) => bnd (walk_All_row_Row_r0 i x s) fun s' => some (.inl s' : List row_Row ⊕ List row_Row)) id l.length hz.2.1 (by omega) (show h ≤ 400 by omega) (Nat.le_refl _) (fun i stk s hi => by
      have e : walk_Range_row_Row_1_2.l1 (l.length : Int) ((i : Int), s, stk) = if (i : Int) < (l.length : Int) then rstep stk (fun x st' => bnd (walk_All_row_Row_r0 (i : Int) x s) fun x39 => some (Lp.next (w64 ((i : Int) + 1), x39, st'))) else some (Lp.done s) := rfl
      rw [e, if_pos (by omega)]
      congr 1
      funext x st'
      cases walk_All_row_Row_r0 (i : Int) x s <;> rfl) (fun stk s => by
      have e : walk_Range_row_Row_1_2.l1 (l.length : Int) ((l.length : Int), s, stk) = if (l.length : Int) < (l.length : Int) then rstep stk (fun x st' => bnd (walk_All_row_Row_r0 (l.length : Int) x s) fun x39 => some (Lp.next (w64 ((l.length : Int) + 1), x39, st'))) else some (Lp.done s) := rfl
      rw [e, if_neg (by omega)]; rfl) l.length 0 stk [] _ (by omega) d2 (by rw [List.take_length, List.drop_zero]; simpa using hg)
    rw [show (((0 : Nat) + 0 : Nat) : Int) = ((0 : Nat) : Int) from rfl, show ((0 : Nat) : Int) = 0 from rfl] at d1
    rw [show ((0 : Nat) : Int) = 0 from rfl] at hlp ⊢
    rw [d1, bnd_some', hlp, bnd_some', bnd_some']
theorem mapLoop {f : Int × Int × List row_Row → Option (Lp (Int × Int × List row_Row) (Int × List row_Row))} {h : Int → row_Row → Int → Option (row_Row × Int)} (l : List row_Row) (g : row_Row → row_Row) (hl : l.length ≤ 4000)
    (hf : ∀ i c rows, f (i, c, rows) = if i < (l.length : Int) then bnd (idx rows i) fun x => bnd (h i x c) fun y => some (Lp.next (w64 (i + 1), y.2, rows.set i.toNat y.1)) else some (Lp.done (c, rows)))
    (hh : ∀ i x, x ∈ l → h i x 0 = some (g x, 0)) : loop f (0, 0, l) = some (0, l.map g) := by
  have := loop_fold (f := f) (fun k (s : List row_Row) => (k, 0, s)) l (fun pre => pre.map g ++ l.drop pre.length) (t := (0, l.map g)) (fun pre x suf hs => by
    have hlen : l.length = pre.length + (suf.length + 1) := by rw [hs]; simp
    have hd : l.drop pre.length = x :: suf := by rw [hs]; simp
    have hd2 : l.drop (pre ++ [x]).length = suf := by rw [hs]; simp
    have hx : idx (pre.map g ++ x :: suf) (pre.length : Int) = some x := by
      have := idx_at (pre.map g) x suf
      rwa [List.length_map] at this
    rw [hf, if_pos (by omega), hd, hd2, hx, bnd_some', hh _ x (by rw [hs]; simp), bnd_some', w64_id ⟨by omega, by omega⟩, Int.toNat_natCast, set_at _ _ _ _ _ (by simp)]
    simp) (by rw [hf, if_neg (by omega), List.drop_length]; simp)
  simpa using this
def insR (c : Int) (R : row_Row) : row_Row := if (R.fCells.length : Int) < c then R else ⟨insL R.fCells c.toNat zc, R.fEnd, R.fHidden⟩
def insW (c : Int) (w : ref08_Row) : ref08_Row := if (w.fCells.length : Int) < c then w else ⟨insL w.fCells c.toNat pz, w.fEnd, w.fHidden⟩
def delR (c : Int) (R : row_Row) : row_Row := if (R.fCells.length : Int) ≤ c then R else if R.fCells.length = 1 then ⟨[zc], R.fEnd, R.fHidden⟩ else ⟨delL R.fCells c.toNat, R.fEnd, R.fHidden⟩
def padR (n : Int) (R : row_Row) : row_Row := ⟨padL R.fCells n zc, R.fEnd, R.fHidden⟩
def padW (n : Int) (w : ref08_Row) : ref08_Row := ⟨padL w.fCells n pz, w.fEnd, w.fHidden⟩
theorem each1 {a : Int} {x R : row_Row} {h : Option (row_Row × Int)} (e : h = some (R, 0)) : (bnd h fun x2 => bnd (if x2.2 = 0 then some false else some ((0 : Int) == 0) : Option Bool) fun t4 => bnd (if t4 = true then some x2.2 else some 0 : Option Int) fun t6 => some (x2.1, t6)) = some (R, 0) := by
  rw [e, bnd_some']; rfl
theorem ins1_eq (R : row_Row) (c : Int) (hc : 0 ≤ c) (hR : R.fCells.length < 40) : cols_Insert_1 R c = some (insR c R, 0) := by
  obtain ⟨L, e, h⟩ := R
  unfold cols_Insert_1 row_Row_Len insR
  dsimp only at hR ⊢
  rw [bnd_some']
  by_cases c1 : (L.length : Int) < c
  · rw [if_pos c1, if_pos c1]
  · rw [if_neg c1, if_neg c1, show (⟨⟨[], 0⟩, ⟨0, 0⟩, false⟩ : cell_Cell) = zc from rfl, insert_eq L e h c zc (by omega), if_neg (by omega), if_neg (by omega), bnd_some']
theorem del1_eq (R : row_Row) (c : Int) (hc : 0 ≤ c) (hR : R.fCells.length ≤ 40) : cols_Delete_1 R c = some (delR c R, 0) := by
  obtain ⟨L, e, h⟩ := R
  unfold cols_Delete_1 row_Row_Len delR
  dsimp only at hR ⊢
  rw [bnd_some', bnd_some']
  by_cases c1 : (L.length : Int) ≤ c
  · rw [if_pos c1, if_pos c1]
  · rw [if_neg c1, if_neg c1]
    by_cases c2 : L.length = 1
    · obtain ⟨x, rfl⟩ := List.length_eq_one_iff.1 c2
      obtain rfl : c = 0 := by simp at c1; omega
      rw [if_pos (by simp), if_pos c2, show (⟨⟨[], 0⟩, ⟨0, 0⟩, false⟩ : cell_Cell) = zc from rfl, set_eq [x] e h 0 zc (by simp), if_neg (by omega), bnd_some']
      rfl
    · rw [if_neg (by omega), if_neg c2, delete_eq L e h c (by omega), if_neg (by omega), if_neg c2, bnd_some']
theorem pad0_eq (R : row_Row) (n : Int) (hR : R.fCells.length ≤ 40) : row_Row_Pad R n = some (padR n R) := by
  obtain ⟨L, e, h⟩ := R
  dsimp only at hR
  have := pad_eq L e h n hR
  unfold row_Row_Pad_2 at this
  unfold row_Row_Pad
  dsimp only at this ⊢
  rw [clone_eq L (by omega), bnd_some'] at this ⊢
  have e1 : row_Row_Pad.l1 n = row_Row_Pad_2.l1 n := rfl
  rw [e1]
  cases hq : loop (row_Row_Pad_2.l1 n) L with
  | none => rw [hq] at this; cases this
  | some q =>
    rw [hq, bnd_some'] at this
    rw [bnd_some']
    have h2 : q = padL L n zc := by
      have := Option.some.inj this
      exact (Prod.mk.inj (Prod.mk.inj this).2).2
    rw [h2]; rfl
def movR (c d : Int) (R : row_Row) : row_Row := if (R.fCells.length : Int) ≤ min c d then R else match (padL R.fCells (max c d + 1) zc)[c.toNat]? with
  | some x => ⟨movL (padL R.fCells (max c d + 1) zc) c.toNat d.toNat x, R.fEnd, R.fHidden⟩
  | none => R
def movW (c d : Int) (w : ref08_Row) : ref08_Row := if (w.fCells.length : Int) ≤ min c d then w else match (padL w.fCells (max c d + 1) pz)[c.toNat]? with
  | some x => ⟨movL (padL w.fCells (max c d + 1) pz) c.toNat d.toNat x, w.fEnd, w.fHidden⟩
  | none => w
theorem mov1_eq (R : row_Row) (c d : Int) (hc : 0 ≤ c ∧ c < 40) (hd : 0 ≤ d ∧ d < 40) (hR : R.fCells.length ≤ 40) : cols_Move_1 R (if d < c then d else c) (if d > c then d else c) c d = some (movR c d R, 0) := by
  have e1 : (if d < c then d else c) = min c d := by omega
  have e2 : (if d > c then d else c) = max c d := by omega
  rw [e1, e2]
  unfold cols_Move_1 row_Row_Len movR
  rw [bnd_some']
  by_cases c1 : (R.fCells.length : Int) ≤ min c d
  · rw [if_pos c1, if_pos c1]
  · rw [if_neg c1, if_neg c1, w64_id ⟨by omega, by omega⟩, pad0_eq R _ hR, bnd_some']
    obtain ⟨p1, p2, p3⟩ := padL_len R.fCells (max c d + 1) zc hR
    have p4 := p3 (by omega)
    unfold padR
    rcases move_eq (padL R.fCells (max c d + 1) zc) R.fEnd R.fHidden c d (by omega) with ⟨h, _⟩ | ⟨_, x, x1, x2⟩
    · exact absurd ⟨⟨hc.1, by omega⟩, hd.1, by omega⟩ h
    · rw [x2, bnd_some', x1]
def OkR (a : List UInt8) (R : row_Row) : Prop := GR a R ∧ R.fCells.length ≤ 40 ∧ 1 ≤ R.fCells.length
theorem plR_len (a : List UInt8) (R : row_Row) : (plR a R).fCells.length = R.fCells.length := by simp [plR]
theorem ins_same (a : List UInt8) (ha : a.length ≤ 16384) (c : Int) (R : row_Row) (hc : 0 ≤ c) (h : OkR a R) (h40 : R.fCells.length < 40) : plR a (insR c R) = insW c (plR a R) ∧ OkR a (insR c R) := by
  unfold insR insW
  rw [plR_len]
  by_cases c1 : (R.fCells.length : Int) < c
  · rw [if_pos c1, if_pos c1]; exact ⟨rfl, h⟩
  · rw [if_neg c1, if_neg c1]
    refine ⟨?_, fun x hx => ?_, ?_⟩
    · unfold plR; dsimp only; rw [insL_map, (zc_good a ha).2]
    · rcases insL_mem hx with rfl | hx
      · exact (zc_good a ha).1
      · exact h.1 x hx
    · dsimp only; rw [insL_len _ _ (by omega)]; omega
theorem pad_same (a : List UInt8) (ha : a.length ≤ 16384) (n : Int) (R : row_Row) (h : OkR a R) : plR a (padR n R) = padW n (plR a R) ∧ OkR a (padR n R) := by
  unfold padR padW
  refine ⟨?_, fun x hx => ?_, (padL_len R.fCells n zc h.2.1).1, Nat.le_trans h.2.2 (padL_len R.fCells n zc h.2.1).2.1⟩
  · unfold plR; dsimp only; rw [padL_map, (zc_good a ha).2]
  · rcases padL_mem hx with rfl | hx
    · exact (zc_good a ha).1
    · exact h.1 x hx
theorem movL_len {α : Type} (l : List α) {i j : Nat} (x : α) (hi : i < l.length) (hj : j < l.length) : (movL l i j x).length = l.length := by
  unfold movL
  rw [insL_len _ _ (by rw [delL_len _ hi]; omega), delL_len _ hi]; omega
theorem movL_mem {α : Type} {l : List α} {i j : Nat} {x y : α} (h : y ∈ movL l i j x) : y = x ∨ y ∈ l := by
  rcases insL_mem h with h | h
  · exact .inl h
  · exact .inr (delL_mem h)
theorem mov_same (a : List UInt8) (ha : a.length ≤ 16384) (c d : Int) (hc : 0 ≤ c ∧ c < 40) (hd : 0 ≤ d ∧ d < 40) (R : row_Row) (h : OkR a R) : plR a (movR c d R) = movW c d (plR a R) ∧ OkR a (movR c d R) := by
  have h40 := h.2.1
  have h1 := h.2.2
  have hp := pad_same a ha (max c d + 1) R h
  unfold movR movW
  rw [plR_len]
  by_cases c1 : (R.fCells.length : Int) ≤ min c d
  · rw [if_pos c1, if_pos c1]; exact ⟨rfl, h⟩
  · rw [if_neg c1, if_neg c1]
    obtain ⟨p1, p2, p3⟩ := padL_len R.fCells (max c d + 1) zc h.2.1
    have p4 := p3 (by omega)
    have hP : ∀ y ∈ padL R.fCells (max c d + 1) zc, Gd a y := hp.2.1
    have hpl : padL (plR a R).fCells (max c d + 1) pz = (padL R.fCells (max c d + 1) zc).map (plC a) := by rw [padL_map, (zc_good a ha).2]; rfl
    rw [hpl]
    generalize padL R.fCells (max c d + 1) zc = P at *
    have hx : P[c.toNat]? = some (P[c.toNat]'(by omega)) := List.getElem?_eq_getElem (by omega)
    rw [List.getElem?_map, hx]
    have hxm : P[c.toNat]'(by omega) ∈ P := List.getElem_mem _
    refine ⟨?_, fun y hy => ?_, ?_⟩
    · unfold plR; dsimp only [Option.map_some]; rw [movL_map]
    · rcases movL_mem hy with rfl | hy
      · exact hP _ hxm
      · exact hP _ hy
    · dsimp only; rw [movL_len _ _ (by omega) (by omega)]; omega
def insC (n : Nat) (w c : Int) : Int := if n = 0 then 9 else if c < 0 ∨ c > w then 5 else if 40 ≤ w then 6 else 0
def delC (n : Nat) (w c : Int) : Int := if n = 0 then 9 else if c < 0 ∨ c ≥ w then 5 else if w = 1 then 9 else 0
def movC (w c d : Int) : Int := if c < 0 ∨ d < 0 ∨ c ≥ w ∨ d ≥ w then 5 else 0
def noG : grid_Grid := ⟨⟨none⟩, false, 0⟩
theorem or_lt (c w : Int) : (if c < 0 then some true else some (decide (c > w)) : Option Bool) = some (decide (c < 0 ∨ c > w)) := by
  by_cases h : c < 0
  · rw [if_pos h, decide_eq_true (Or.inl h)]
  · rw [if_neg h]; simp [h]
theorem or_le (c w : Int) : (if c < 0 then some true else some (decide (c ≥ w)) : Option Bool) = some (decide (c < 0 ∨ c ≥ w)) := by
  by_cases h : c < 0
  · rw [if_pos h, decide_eq_true (Or.inl h)]
  · rw [if_neg h]; simp [h]
theorem or_mov (c d w : Int) : (if c < 0 then some true else if d < 0 then some true else if c ≥ w then some true else some (decide (d ≥ w)) : Option Bool) = some (decide (c < 0 ∨ d < 0 ∨ c ≥ w ∨ d ≥ w)) := by
  by_cases h1 : c < 0
  · rw [if_pos h1, decide_eq_true (by omega)]
  · rw [if_neg h1]
    by_cases h2 : d < 0
    · rw [if_pos h2, decide_eq_true (by omega)]
    · rw [if_neg h2]
      by_cases h3 : c ≥ w
      · rw [if_pos h3, decide_eq_true (by omega)]
      · rw [if_neg h3]
        congr 1
        by_cases h4 : d ≥ w
        · rw [decide_eq_true h4, decide_eq_true (by omega)]
        · rw [decide_eq_false h4, decide_eq_false (by omega)]
theorem wid40 (l : List row_Row) (hf : ∀ R ∈ l, R.fCells.length ≤ 40) : wid l ≤ 40 := wdL_le _ _ _ (by decide) fun n hn => by
  obtain ⟨R, hR, rfl⟩ := List.mem_map.1 hn
  have := hf R hR
  omega
theorem cIns_eq (t : tTr) (tl : Bool) (e : Int) (l : List row_Row) (ht : IsT t l) (hl : l.length ≤ 4000) (hf : ∀ R ∈ l, R.fCells.length ≤ 40) (c : Int) : ∃ g, cols_Insert ⟨t, tl, e⟩ c = some (g, insC l.length (wid l) c) ∧ (insC l.length (wid l) c = 0 → g.fTail = tl ∧ g.fEnd = e ∧ IsT g.fRows (l.map (insR c))) ∧ (insC l.length (wid l) c ≠ 0 → g = noG) := by
  unfold cols_Insert insC grid_Grid_Len
  rw [Width_eq t tl e l ht hl, bnd_some']
  dsimp only
  rw [Len_eq t l ht, bnd_some', bnd_some']
  by_cases h0 : l.length = 0
  · rw [if_pos (by omega), if_pos h0]; exact ⟨_, rfl, (fun h => absurd h (by decide)), fun _ => rfl⟩
  · rw [if_neg (by omega), if_neg h0, or_lt, bnd_some']
    by_cases h1 : c < 0 ∨ c > wid l
    · rw [if_pos (decide_eq_true h1), if_pos h1]; exact ⟨_, rfl, (fun h => absurd h (by decide)), fun _ => rfl⟩
    · rw [if_neg (by simpa using h1), if_neg h1]
      by_cases h2 : 40 ≤ wid l
      · rw [if_pos h2, if_pos h2]; exact ⟨_, rfl, (fun h => absurd h (by decide)), fun _ => rfl⟩
      · rw [if_neg (by omega), if_neg h2]
        obtain ⟨q, q1, q2⟩ := Of_eq (l.map (insR c)) (by simp; omega)
        unfold cols_each walk_Map_row_Row
        dsimp only
        rw [allR_eq t l ht hl, bnd_some', cloneEl l (by omega), bnd_some', mapLoop (h := fun i x k => cols_each_1 i x k c) l (insR c) hl (fun i k rows => rfl) (fun i x hx => by
          have := wid_ge hx
          exact each1 (a := 0) (x := x) (ins1_eq x c (by omega) (by omega))), bnd_some', q1, bnd_some', bnd_some']
        dsimp only
        rw [if_pos rfl, bnd_some']
        exact ⟨_, rfl, fun _ => ⟨rfl, rfl, q2⟩, fun h => absurd rfl h⟩
theorem cDel_eq (t : tTr) (tl : Bool) (e : Int) (l : List row_Row) (ht : IsT t l) (hl : l.length ≤ 4000) (hf : ∀ R ∈ l, R.fCells.length ≤ 40) (c : Int) : ∃ g, cols_Delete ⟨t, tl, e⟩ c = some (g, delC l.length (wid l) c) ∧ (delC l.length (wid l) c = 0 → g.fTail = tl ∧ g.fEnd = e ∧ IsT g.fRows (l.map (delR c))) ∧ (delC l.length (wid l) c ≠ 0 → g = noG) := by
  unfold cols_Delete delC grid_Grid_Len
  rw [Width_eq t tl e l ht hl, bnd_some']
  dsimp only
  rw [Len_eq t l ht, bnd_some', bnd_some']
  by_cases h0 : l.length = 0
  · rw [if_pos (by omega), if_pos h0]; exact ⟨_, rfl, (fun h => absurd h (by decide)), fun _ => rfl⟩
  · rw [if_neg (by omega), if_neg h0, or_le, bnd_some']
    by_cases h1 : c < 0 ∨ c ≥ wid l
    · rw [if_pos (decide_eq_true h1), if_pos h1]; exact ⟨_, rfl, (fun h => absurd h (by decide)), fun _ => rfl⟩
    · rw [if_neg (by simpa using h1), if_neg h1]
      by_cases h2 : wid l = 1
      · rw [if_pos h2, if_pos h2]; exact ⟨_, rfl, (fun h => absurd h (by decide)), fun _ => rfl⟩
      · rw [if_neg h2, if_neg h2]
        obtain ⟨q, q1, q2⟩ := Of_eq (l.map (delR c)) (by simp; omega)
        unfold cols_each_2 walk_Map_row_Row_3
        dsimp only
        rw [allR_eq t l ht hl, bnd_some', cloneEl l (by omega), bnd_some', mapLoop (h := fun i x k => cols_each_1_2 i x k c) l (delR c) hl (fun i k rows => rfl) (fun i x hx => by
          exact each1 (a := 0) (x := x) (del1_eq x c (by omega) (hf x hx))), bnd_some', q1, bnd_some', bnd_some']
        dsimp only
        rw [if_pos rfl, bnd_some']
        exact ⟨_, rfl, fun _ => ⟨rfl, rfl, q2⟩, fun h => absurd rfl h⟩
theorem cMov_eq (t : tTr) (tl : Bool) (e : Int) (l : List row_Row) (ht : IsT t l) (hl : l.length ≤ 4000) (hf : ∀ R ∈ l, R.fCells.length ≤ 40) (c d : Int) : ∃ g, cols_Move ⟨t, tl, e⟩ c d = some (g, movC (wid l) c d) ∧ (movC (wid l) c d = 0 → g.fTail = tl ∧ g.fEnd = e ∧ IsT g.fRows (if c = d then l else l.map (movR c d))) ∧ (movC (wid l) c d ≠ 0 → g = noG) := by
  have h40 := wid40 l hf
  unfold cols_Move movC
  rw [Width_eq t tl e l ht hl, bnd_some', or_mov, bnd_some']
  by_cases h1 : c < 0 ∨ d < 0 ∨ c ≥ wid l ∨ d ≥ wid l
  · rw [if_pos (decide_eq_true h1), if_pos h1]; exact ⟨_, rfl, (fun h => absurd h (by decide)), fun _ => rfl⟩
  · rw [if_neg (by simpa using h1), if_neg h1]
    by_cases h2 : c = d
    · rw [if_pos h2, if_pos h2]; exact ⟨_, rfl, fun _ => ⟨rfl, rfl, ht⟩, fun h => absurd rfl h⟩
    · rw [if_neg h2, if_neg h2]
      obtain ⟨q, q1, q2⟩ := Of_eq (l.map (movR c d)) (by simp; omega)
      unfold cols_each_3 walk_Map_row_Row_4
      dsimp only
      rw [allR_eq t l ht hl, bnd_some', cloneEl l (by omega), bnd_some', mapLoop (h := fun i x k => cols_each_1_3 i x k (if d < c then d else c) (if d > c then d else c) c d) l (movR c d) hl (fun i k rows => rfl) (fun i x hx => by
        exact each1 (a := 0) (x := x) (mov1_eq x c d (by omega) (by omega) (hf x hx))), bnd_some', q1, bnd_some', bnd_some']
      dsimp only
      rw [if_pos rfl, bnd_some']
      exact ⟨_, rfl, fun _ => ⟨rfl, rfl, q2⟩, fun h => absurd rfl h⟩
theorem insC_0 {n : Nat} {w c : Int} (q : insC n w c = 0) : 0 ≤ c ∧ w < 40 := by
  unfold insC at q
  split at q
  · omega
  · split at q
    · omega
    · split at q <;> omega
structure Inv (a : List UInt8) (t : tTr) (l : List row_Row) : Prop where
  tree : IsT t l
  few : l.length ≤ 4000
  rows : ∀ R ∈ l, OkR a R
theorem Inv.forty {a : List UInt8} {t : tTr} {l : List row_Row} (h : Inv a t l) : ∀ R ∈ l, R.fCells.length ≤ 40 := fun R hR => (h.rows R hR).2.1
theorem Inv.map {a : List UInt8} {t u : tTr} {l : List row_Row} (h : Inv a t l) {f : row_Row → row_Row} {g : ref08_Row → ref08_Row} (hf : ∀ R ∈ l, plR a (f R) = g (plR a R) ∧ OkR a (f R)) (hu : IsT u (l.map f)) : Inv a u (l.map f) ∧ (l.map f).map (plR a) = (l.map (plR a)).map g := by
  refine ⟨⟨hu, by rw [List.length_map]; exact h.few, fun R hR => ?_⟩, ?_⟩
  · obtain ⟨Q, hQ, rfl⟩ := List.mem_map.1 hR
    exact (hf Q hQ).2
  · rw [List.map_map, List.map_map]
    exact List.map_congr_left fun R hR => (hf R hR).1
theorem plain11_eq {a : List UInt8} (ha : a.length ≤ 16384) {t : tTr} {l : List row_Row} (h : Inv a t l) (h4 : l.length ≤ 400) (tl : Bool) (e : Int) : law11_Plain ⟨t, tl, e⟩ a = some ⟨l.map (plR a), tl, e⟩ := by
  unfold law11_Plain
  have hlp := loop_fold (f := law11_Plain.l1 ⟨t, tl, e⟩ a) (fun k (s : List ref08_Row) => (k, s)) l (fun pre => pre.map (plR a)) (t := l.map (plR a)) (fun pre x suf hs => by
    have hlen : l.length = pre.length + (suf.length + 1) := by rw [hs]; simp
    have hx : l[pre.length]'(by omega) = x := by
      have : l[pre.length]? = some x := by rw [hs]; simp
      rw [List.getElem?_eq_getElem (by omega)] at this
      exact Option.some.inj this
    have hm : x ∈ l := by rw [hs]; simp
    unfold law11_Plain.l1 grid_Grid_Len grid_Grid_Row
    dsimp only
    rw [Len_eq t l h.tree, bnd_some', bnd_some', if_pos (by omega), decide_eq_true (by omega), bnd_some', if_pos rfl, (At_eq t l h.tree (by omega) (pre.length : Int)).2 ⟨by omega, by omega⟩, bnd_some', bnd_some']
    dsimp only
    simp only [Int.toNat_natCast, hx]
    rw [plR_eq ha (h.rows x hm).1 (by have := h.forty x hm; omega), bnd_some', app_of (by simp; omega), bnd_some', w64_id ⟨by omega, by omega⟩]
    simp) (by
    unfold law11_Plain.l1 grid_Grid_Len
    dsimp only
    rw [Len_eq t l h.tree, bnd_some', bnd_some', if_neg (by omega), bnd_some', if_neg (by simp)])
  rw [show loop (law11_Plain.l1 ⟨t, tl, e⟩ a) (0, []) = _ from hlp, bnd_some']
def evenL (l : List Nat) (w : Int) : Bool := l.all fun n => (n : Int) == w
theorem find_none (p : row_Row → Bool) : ∀ (l : List row_Row) (i : Nat), (∃ k, findFrom p l i = some k) ∨ (findFrom p l i = none ∧ ∀ x ∈ l, p x = false)
  | [], i => .inr ⟨rfl, by simp⟩
  | x :: l, i => by
    unfold findFrom
    by_cases c : p x = true
    · rw [if_pos c]; exact .inl ⟨i, rfl⟩
    · rw [if_neg c]
      rcases find_none p l (i + 1) with h | ⟨h1, h2⟩
      · exact .inl h
      · refine .inr ⟨h1, fun y hy => ?_⟩
        rcases List.mem_cons.1 hy with rfl | hy
        · simpa using c
        · exact h2 y hy
theorem find_some (p : row_Row → Bool) : ∀ (l : List row_Row) (i k : Nat), findFrom p l i = some k → ∃ x ∈ l, p x = true
  | [], i, k, h => by cases h
  | x :: l, i, k, h => by
    unfold findFrom at h
    by_cases c : p x = true
    · exact ⟨x, by simp, c⟩
    · rw [if_neg c] at h
      obtain ⟨y, hy, hp⟩ := find_some p l (i + 1) k h
      exact ⟨y, by simp [hy], hp⟩
theorem cEven_eq (t : tTr) (tl : Bool) (e : Int) (l : List row_Row) (ht : IsT t l) (hl : l.length ≤ 4000) : cols_Even ⟨t, tl, e⟩ = some (evenL (lens l) (wid l)) := by
  unfold cols_Even walk_Index_row_Row
  rw [Width_eq t tl e l ht hl, bnd_some']
  dsimp only
  rw [Len_eq t l ht, bnd_some', wRange_eq t l ht, bnd_some']
  dsimp only
  rw [show stA l.length 0 = 0 by unfold stA; simp, show stB l.length 0 (l.length : Int) = l.length by unfold stB stA; omega]
  unfold walk_Range_row_Row_1_4
  rcases ht with ⟨rfl, rfl⟩ | ⟨h, z, rfl, hr⟩
  · rfl
  · have hpos : 0 < l.length := List.length_pos_iff.2 hr.2.2.2
    have hlow := hr.low (by omega)
    obtain ⟨stk, d1, d2, d3⟩ := down_eq (first := 0) (i := 0) hr.1 hr.2.1 hpos (by omega) (by omega)
    rw [show (((0 : Nat) + 0 : Nat) : Int) = ((0 : Nat) : Int) from rfl, show ((0 : Nat) : Int) = 0 from rfl] at d1
    rw [if_neg (by omega)]
    dsimp only
    rw [root_eq hr, bnd_some']
    dsimp only
    have hi := index_gen (r0 := fun i x => walk_Index_row_Row_r0 i x (wid l) 0) (fun x => !((x.fCells.length : Int) == wid l)) (fun i x => by
        unfold walk_Index_row_Row_r0 cols_Even_1 row_Row_Len
        rw [bnd_some', bnd_some']
        by_cases c : (!((x.fCells.length : Int) == wid l)) = true
        · rw [if_pos c, if_pos c]
        · rw [if_neg c, if_neg c]) (g := walk_Range_row_Row_1_4.l1 (l.length : Int) (wid l) 0) (fun i stk => rfl) hr (by omega) rfl hpos d2
    rw [List.drop_zero] at hi
    rw [show ((0 : Nat) : Int) = 0 from rfl] at hi ⊢
    rw [d1, bnd_some', hi, bnd_some']
    rcases find_none (fun x => !((x.fCells.length : Int) == wid l)) l 0 with ⟨k, hk⟩ | ⟨hk, hall⟩
    · obtain ⟨x, hx, hp⟩ := find_some _ l 0 k hk
      rw [hk]
      have e1 : evenL (lens l) (wid l) = false := by
        unfold evenL lens
        rw [List.all_eq_false]
        exact ⟨_, List.mem_map.2 ⟨x, hx, rfl⟩, by simpa using hp⟩
      rw [e1]
      unfold foundR
      dsimp only
      rw [bnd_some', bnd_some', decide_eq_false (by omega)]
    · rw [hk]
      have e1 : evenL (lens l) (wid l) = true := by
        unfold evenL lens
        rw [List.all_eq_true]
        intro n hn
        obtain ⟨x, hx, rfl⟩ := List.mem_map.1 hn
        have := hall x hx
        simpa using this
      rw [e1]
      unfold foundR
      dsimp only
      rw [bnd_some', bnd_some', decide_eq_true (by omega)]
theorem begin_inv (w : List UInt8) (hb : w.length ≤ 4096) (h : isBad w = false) {t : tTr} (ht : IsT t (rowsW w)) : Inv w t (rowsW w) ∧ prowsW w = (rowsW w).map (plR w) := by
  have hk : okW w (rs w) = true := by unfold isBad at h; simp at h; exact h.2
  have hB : ∀ i ∈ rs w, Both w (ldR w i).1 (ldP w i).1 ∧ 1 ≤ (ldR w i).1.fCells.length := fun i hi => by
    have hz : (ldP w i).2 = 0 := by
      rw [ld_same]
      have := List.all_eq_true.1 hk i hi
      simpa using this
    obtain ⟨b1, b2⟩ := ld_both w (by omega) i (rs_le w (by omega) i hi) hz
    refine ⟨b1, ?_⟩
    rw [b2]
    unfold fs
    cases w.length with
    | zero => simp [fsF]
    | succ n => unfold fsF; split <;> simp
  refine ⟨⟨ht, by rw [rowsW_len]; have := isBad_len h; omega, fun R hR => ?_⟩, ?_⟩
  · obtain ⟨i, hi, rfl⟩ := List.mem_map.1 hR
    obtain ⟨b1, b2⟩ := hB i hi
    exact ⟨b1.good, b1.few, b2⟩
  · unfold prowsW rowsW
    rw [List.map_map]
    exact List.map_congr_left fun i hi => ((hB i hi).1.same).symm
theorem padL_same {α : Type} (l : List α) (n : Int) (z : α) (h : n ≤ (l.length : Int)) : padL l n z = l := by
  unfold padL
  rw [show (if 40 < n then 40 else n).toNat - l.length = 0 by split <;> omega]
  simp
theorem delR_insR (c : Int) (hc : 0 ≤ c) (R : row_Row) (h1 : 1 ≤ R.fCells.length) : delR c (insR c R) = R := by
  obtain ⟨L, e, h⟩ := R
  dsimp only at h1
  unfold insR
  dsimp only
  by_cases c1 : (L.length : Int) < c
  · rw [if_pos c1]
    unfold delR
    dsimp only
    rw [if_pos (by omega)]
  · rw [if_neg c1]
    unfold delR
    dsimp only
    rw [insL_len _ _ (by omega), if_neg (by omega), if_neg (by omega), del_ins _ _ (by omega)]
theorem mov_back (c d : Int) (hc : 0 ≤ c ∧ c < 40) (hd : 0 ≤ d ∧ d < 40) (R : row_Row) (h40 : R.fCells.length ≤ 40) : movR d c (movR c d R) = if (R.fCells.length : Int) ≤ min c d then R else padR (max c d + 1) R := by
  by_cases c1 : (R.fCells.length : Int) ≤ min c d
  · rw [if_pos c1]
    have e1 : movR c d R = R := by unfold movR; rw [if_pos c1]
    rw [e1]
    unfold movR
    rw [if_pos (by omega)]
  · rw [if_neg c1]
    obtain ⟨p1, p2, p3⟩ := padL_len R.fCells (max c d + 1) zc h40
    have p4 := p3 (by omega)
    unfold padR
    have e1 : ∃ x, (padL R.fCells (max c d + 1) zc)[c.toNat]? = some x ∧ movR c d R = ⟨movL (padL R.fCells (max c d + 1) zc) c.toNat d.toNat x, R.fEnd, R.fHidden⟩ := by
      have hx : (padL R.fCells (max c d + 1) zc)[c.toNat]? = some ((padL R.fCells (max c d + 1) zc)[c.toNat]'(by omega)) := List.getElem?_eq_getElem (by omega)
      refine ⟨_, hx, ?_⟩
      unfold movR
      rw [if_neg c1, hx]
    obtain ⟨x, x1, x2⟩ := e1
    rw [x2]
    generalize padL R.fCells (max c d + 1) zc = P at *
    have hl : (movL P c.toNat d.toNat x).length = P.length := movL_len P x (by omega) (by omega)
    have hdl : (delL P c.toNat).length = P.length - 1 := delL_len P (by omega)
    unfold movR
    dsimp only
    rw [hl, if_neg (by omega), padL_same _ _ _ (by rw [hl]; omega)]
    have hg : (movL P c.toNat d.toNat x)[d.toNat]? = some x := ins_get _ _ (by omega)
    rw [hg]
    dsimp only
    have hb : movL (movL P c.toNat d.toNat x) d.toNat c.toNat x = P := by
      show insL (delL (insL (delL P c.toNat) d.toNat x) d.toNat) c.toNat x = P
      rw [del_ins _ _ (by omega)]
      exact (ins_at x1).symm
    rw [hb]
noncomputable def sameY (u : tTr) (tl : Bool) (e : Int) (a : List UInt8) (i : Int) (x : row_Row) (_ : Unit) : Option (Unit ⊕ Ex Unit (Unit ⊕ Bool)) := bnd (grid_Same_r0 i x u.fRoot tl e false a) fun r => match r with
  | .inl _ => some (.inl ())
  | .inr v => some (.inr (.ret (.inr v)))
theorem goSame {a : List UInt8} (ha : a.length ≤ 16384) {u : tTr} {l : List row_Row} (h : Inv a u l) (tl : Bool) (e : Int) : ∀ (suf pre : List row_Row), l = pre ++ suf → goR (sameY u tl e a) (fun _ => Ex.brk ()) suf (pre.length : Int) () = some (Ex.brk ())
  | [], pre, _ => rfl
  | x :: suf, pre, hs => by
    have hf := h.few
    have hlen : l.length = pre.length + (suf.length + 1) := by rw [hs]; simp
    have hx : l[pre.length]'(by omega) = x := by
      have : l[pre.length]? = some x := by rw [hs]; simp
      rw [List.getElem?_eq_getElem (by omega)] at this
      exact Option.some.inj this
    have hm : x ∈ l := by rw [hs]; simp
    have ok := h.rows x hm
    have o2 := ok.2.1
    have e1 : sameY u tl e a (pre.length : Int) x () = some (.inl ()) := by
      unfold sameY grid_Same_r0 grid_Grid_Row
      dsimp only
      rw [show (⟨u.fRoot⟩ : tTr) = u from rfl, (At_eq u l h.tree (by omega) (pre.length : Int)).2 ⟨by omega, by omega⟩, bnd_some', bnd_some']
      dsimp only
      simp only [Int.toNat_natCast, hx]
      rw [rowSame_eq ha ok.1 ok.1 (by omega), bnd_some', decide_eq_true rfl, if_pos rfl, bnd_some']
    have := goSame ha h tl e suf (pre ++ [x]) (by rw [hs]; simp)
    rw [List.length_append, List.length_singleton, show ((pre.length + 1 : Nat) : Int) = (pre.length : Int) + 1 by omega] at this
    unfold goR
    rw [e1, bnd_some']
    exact this
theorem gridSame_eq {a : List UInt8} (ha : a.length ≤ 16384) {t u : tTr} {l : List row_Row} (h : Inv a t l) (hu : IsT u l) (tl : Bool) (e : Int) : grid_Same ⟨t, tl, e⟩ ⟨u, tl, e⟩ a = some true := by
  have hl := h.few
  unfold grid_Same grid_Grid_Len
  dsimp only
  rw [Len_eq t l h.tree, Len_eq u l hu, bnd_some', bnd_some', bnd_some', bnd_some', if_pos rfl, if_pos (by simp), bnd_some', if_neg (by simp), wRange_eq t l h.tree, bnd_some']
  dsimp only
  rw [show stA l.length 0 = 0 by unfold stA; simp, show stB l.length 0 (l.length : Int) = l.length by unfold stB stA; omega]
  have hg := goSame ha (u := u) ⟨hu, h.few, h.rows⟩ tl e l [] rfl
  unfold walk_Range_row_Row_1_5
  rcases h.tree with ⟨rfl, rfl⟩ | ⟨n, z, rfl, hz⟩
  · rfl
  · have hpos : 0 < l.length := List.length_pos_iff.2 hz.2.2.2
    have hlow := hz.low (by omega)
    obtain ⟨stk, d1, d2, d3⟩ := down_eq (first := 0) (i := 0) hz.1 hz.2.1 hpos (by omega) (by omega)
    rw [if_neg (by omega)]
    dsimp only
    rw [root_eq hz, bnd_some']
    dsimp only
    have hlp := range_loop (f := walk_Range_row_Row_1_5.l1 u.fRoot tl e (l.length : Int) false a) (fun i stk (s : Unit) => (i, stk)) (sameY u tl e a) (fun _ => Ex.brk ()) l.length hz.2.1 (by omega) (show n ≤ 400 by omega) (Nat.le_refl _) (fun i stk s hi => by
      have e : walk_Range_row_Row_1_5.l1 u.fRoot tl e (l.length : Int) false a ((i : Int), stk) = if (i : Int) < (l.length : Int) then rstep stk (fun x st' => bnd (grid_Same_r0 (i : Int) x u.fRoot tl e false a) fun r => match r with | .inl _ => some (Lp.next (w64 ((i : Int) + 1), st')) | .inr v => some (Lp.done (Ex.ret (Sum.inr v)))) else some (Lp.done (Ex.brk ())) := rfl
      rw [e, if_pos (by omega)]
      congr 1
      funext x st'
      unfold sameY
      cases grid_Same_r0 (i : Int) x u.fRoot tl _ false a with
      | none => rfl
      | some r => cases r <;> rfl) (fun stk s => by
      have e : walk_Range_row_Row_1_5.l1 u.fRoot tl e (l.length : Int) false a ((l.length : Int), stk) = if (l.length : Int) < (l.length : Int) then rstep stk (fun x st' => bnd (grid_Same_r0 (l.length : Int) x u.fRoot tl e false a) fun r => match r with | .inl _ => some (Lp.next (w64 ((l.length : Int) + 1), st')) | .inr v => some (Lp.done (Ex.ret (Sum.inr v)))) else some (Lp.done (Ex.brk ())) := rfl
      rw [e, if_neg (by omega)]) l.length 0 stk () _ (by omega) d2 (by rw [List.take_length, List.drop_zero]; simpa using hg)
    rw [show (((0 : Nat) + 0 : Nat) : Int) = ((0 : Nat) : Int) from rfl, show ((0 : Nat) : Int) = 0 from rfl] at d1
    rw [show ((0 : Nat) : Int) = 0 from rfl] at hlp ⊢
    rw [d1, bnd_some', hlp, bnd_some', bnd_some']
theorem wid_pos {l : List row_Row} {R : row_Row} (hR : R ∈ l) (h1 : 1 ≤ R.fCells.length) : 1 ≤ wid l := by
  have := wid_ge hR
  omega
theorem wdL_mem : ∀ (l : List Nat) (a : Int), wdL l a = a ∨ ∃ n ∈ l, wdL l a = (n : Int)
  | [], a => .inl rfl
  | n :: l, a => by
    unfold wdL
    rcases wdL_mem l (if (n : Int) > a then (n : Int) else a) with h | ⟨m, hm, h⟩
    · rw [h]
      split
      · exact .inr ⟨n, by simp, rfl⟩
      · exact .inl rfl
    · exact .inr ⟨m, by simp [hm], h⟩
theorem wid_mem {l : List row_Row} (h : 1 ≤ wid l) : ∃ R ∈ l, (R.fCells.length : Int) = wid l := by
  rcases wdL_mem (lens l) 0 with h0 | ⟨n, hn, h0⟩
  · exact absurd (show wid l = 0 from h0) (by omega)
  · obtain ⟨R, hR, rfl⟩ := List.mem_map.1 hn
    exact ⟨R, hR, h0.symm⟩
/-- Inserted and deleted again. -/
theorem insdel {a : List UInt8} (ha : a.length ≤ 16384) {t : tTr} {l : List row_Row} (h : Inv a t l) (tl : Bool) (e c : Int) : ∃ g k, cols_Insert ⟨t, tl, e⟩ c = some (g, k) ∧ (k = 0 → ∃ u, IsT u l ∧ cols_Delete g c = some (⟨u, tl, e⟩, 0)) := by
  obtain ⟨g, g1, g2, g3⟩ := cIns_eq t tl e l h.tree h.few h.forty c
  refine ⟨g, _, g1, fun q => ?_⟩
  obtain ⟨q1, q2, q3⟩ := g2 q
  obtain ⟨hc, hw⟩ := insC_0 q
  have q0 := q
  have hne : l.length ≠ 0 := fun h0 => by unfold insC at q0; rw [if_pos h0] at q0; exact absurd q0 (by decide)
  have hcw : c ≤ wid l := by
    unfold insC at q0
    rw [if_neg hne] at q0
    by_cases hb : c < 0 ∨ c > wid l
    · rw [if_pos hb] at q0; exact absurd q0 (by decide)
    · omega
  have i1 : Inv a g.fRows (l.map (insR c)) := ⟨q3, by rw [List.length_map]; exact h.few, fun R hR => by
    obtain ⟨Q, hQ, rfl⟩ := List.mem_map.1 hR
    exact (ins_same a ha c Q hc (h.rows Q hQ) (by have := wid_ge hQ; omega)).2⟩
  obtain ⟨u, u1, u2, u3⟩ := cDel_eq g.fRows tl e (l.map (insR c)) i1.tree i1.few i1.forty c
  have hg : g = ⟨g.fRows, tl, e⟩ := by rw [← q1, ← q2]
  obtain ⟨R0, hR0, hw0⟩ : ∃ R ∈ l, (R.fCells.length : Int) = wid l := by
    obtain ⟨x, hx⟩ := List.exists_mem_of_length_pos (Nat.pos_of_ne_zero hne)
    exact wid_mem (wid_pos hx (h.rows x hx).2.2)
  have hge : wid l + 1 ≤ wid (l.map (insR c)) := by
    have := wid_ge (List.mem_map.2 ⟨R0, hR0, rfl⟩ : insR c R0 ∈ l.map (insR c))
    have e1 : (insR c R0).fCells.length = R0.fCells.length + 1 := by
      unfold insR
      rw [if_neg (by omega)]
      exact insL_len _ _ (by omega)
    omega
  have hpos := (h.rows R0 hR0).2.2
  have hk : delC (l.map (insR c)).length (wid (l.map (insR c))) c = 0 := by
    unfold delC
    rw [List.length_map, if_neg hne, if_neg (by omega), if_neg (by omega)]
  obtain ⟨v1, v2, v3⟩ := u2 hk
  have hback : (l.map (insR c)).map (delR c) = l := by
    rw [List.map_map]
    conv => rhs; rw [← List.map_id l]
    exact List.map_congr_left fun R hR => delR_insR c hc R (h.rows R hR).2.2
  rw [hback] at v3
  refine ⟨u.fRows, v3, ?_⟩
  rw [hg, u1, hk, ← v1, ← v2]
def backR (c d : Int) (R : row_Row) : row_Row := if c = d then R else if (R.fCells.length : Int) ≤ min c d then R else padR (max c d + 1) R
theorem movmov {a : List UInt8} (ha : a.length ≤ 16384) {t : tTr} {l : List row_Row} (h : Inv a t l) (tl : Bool) (e c d : Int) : ∃ g k, cols_Move ⟨t, tl, e⟩ c d = some (g, k) ∧ (k = 0 → (0 ≤ c ∧ c < wid l) ∧ (0 ≤ d ∧ d < wid l) ∧ ∃ u, Inv a u (l.map (backR c d)) ∧ cols_Move g d c = some (⟨u, tl, e⟩, 0)) := by
  obtain ⟨g, g1, g2, g3⟩ := cMov_eq t tl e l h.tree h.few h.forty c d
  refine ⟨g, _, g1, fun q => ?_⟩
  obtain ⟨q1, q2, q3⟩ := g2 q
  have hr : (0 ≤ c ∧ c < wid l) ∧ (0 ≤ d ∧ d < wid l) := by unfold movC at q; split at q <;> omega
  have h40 := wid40 l h.forty
  have hg : g = ⟨g.fRows, tl, e⟩ := by rw [← q1, ← q2]
  refine ⟨hr.1, hr.2, ?_⟩
  obtain ⟨R0, hR0, hw0⟩ := wid_mem (show 1 ≤ wid l by omega)
  by_cases hcd : c = d
  · rw [if_pos hcd] at q3
    have hb : l.map (backR c d) = l := by
      conv => rhs; rw [← List.map_id l]
      exact List.map_congr_left fun R hR => by unfold backR; rw [if_pos hcd]; rfl
    have i1 : Inv a g.fRows l := ⟨q3, h.few, h.rows⟩
    obtain ⟨u, u1, u2, u3⟩ := cMov_eq g.fRows tl e l i1.tree i1.few i1.forty d c
    have hk : movC (wid l) d c = 0 := by unfold movC; rw [if_neg (by omega)]
    obtain ⟨v1, v2, v3⟩ := u2 hk
    rw [if_pos hcd.symm] at v3
    refine ⟨u.fRows, ?_, ?_⟩
    · rw [hb]; exact ⟨v3, h.few, h.rows⟩
    · rw [hg, u1, hk, ← v1, ← v2]
  · rw [if_neg hcd] at q3
    have i1 : Inv a g.fRows (l.map (movR c d)) := ⟨q3, by rw [List.length_map]; exact h.few, fun R hR => by
      obtain ⟨Q, hQ, rfl⟩ := List.mem_map.1 hR
      exact (mov_same a ha c d ⟨hr.1.1, by omega⟩ ⟨hr.2.1, by omega⟩ Q (h.rows Q hQ)).2⟩
    obtain ⟨u, u1, u2, u3⟩ := cMov_eq g.fRows tl e (l.map (movR c d)) i1.tree i1.few i1.forty d c
    have hge : wid l ≤ wid (l.map (movR c d)) := by
      have h1 := wid_ge (List.mem_map.2 ⟨R0, hR0, rfl⟩ : movR c d R0 ∈ l.map (movR c d))
      have f40 := h.forty R0 hR0
      obtain ⟨p1, p2, p3⟩ := padL_len R0.fCells (max c d + 1) zc f40
      have hx : (padL R0.fCells (max c d + 1) zc)[c.toNat]? = some ((padL R0.fCells (max c d + 1) zc)[c.toNat]'(by omega)) := List.getElem?_eq_getElem (by omega)
      have e1 : (movR c d R0).fCells.length = (padL R0.fCells (max c d + 1) zc).length := by
        unfold movR
        rw [if_neg (by omega), hx]
        exact movL_len _ _ (by omega) (by omega)
      omega
    have hk : movC (wid (l.map (movR c d))) d c = 0 := by unfold movC; rw [if_neg (by omega)]
    obtain ⟨v1, v2, v3⟩ := u2 hk
    rw [if_neg (fun x => hcd x.symm), List.map_map] at v3
    have hb : l.map (movR d c ∘ movR c d) = l.map (backR c d) := List.map_congr_left fun R hR => by
      unfold backR
      rw [if_neg hcd]
      exact mov_back c d ⟨hr.1.1, by omega⟩ ⟨hr.2.1, by omega⟩ R (h.forty R hR)
    rw [hb] at v3
    refine ⟨u.fRows, ⟨v3, by rw [List.length_map]; exact h.few, fun R hR => ?_⟩, ?_⟩
    · obtain ⟨Q, hQ, rfl⟩ := List.mem_map.1 hR
      unfold backR
      rw [if_neg hcd]
      split
      · exact h.rows Q hQ
      · exact (pad_same a ha _ Q (h.rows Q hQ)).2
    · rw [hg, u1, hk, ← v1, ← v2]
theorem back_take (c d : Int) (R : row_Row) : R.fCells.length ≤ (backR c d R).fCells.length ∧ (backR c d R).fCells.take R.fCells.length = R.fCells := by
  unfold backR
  split
  · exact ⟨Nat.le_refl _, List.take_length⟩
  · split
    · exact ⟨Nat.le_refl _, List.take_length⟩
    · unfold padR padL
      exact ⟨by simp, by simp⟩
theorem back_even (c d : Int) {l : List row_Row} (hc : c < wid l) (hd : d < wid l) (he : evenL (lens l) (wid l) = true) : l.map (backR c d) = l := by
  conv => rhs; rw [← List.map_id l]
  refine List.map_congr_left fun R hR => ?_
  have hw : (R.fCells.length : Int) = wid l := by
    unfold evenL lens at he
    rw [List.all_eq_true] at he
    have := he _ (List.mem_map.2 ⟨R, hR, rfl⟩)
    simpa using this
  unfold backR
  split
  · rfl
  · split
    · rfl
    · unfold padR
      rw [padL_same _ _ _ (by omega)]; rfl
theorem takes (a : List UInt8) (tl : Bool) (e : Int) (c d : Int) (l : List row_Row) (h4 : l.length ≤ 4000) (hf : ∀ R ∈ l, R.fCells.length ≤ 40) : loop (law12_ColsBack.l1 ⟨l.map (plR a), tl, e⟩ ⟨(l.map (backR c d)).map (plR a), tl, e⟩) 0 = some (Ex.brk ()) := by
  refine loop_fold (f := law12_ColsBack.l1 ⟨l.map (plR a), tl, e⟩ ⟨(l.map (backR c d)).map (plR a), tl, e⟩) (fun k (s : Unit) => k) l (fun _ => ()) (t := Ex.brk ()) (fun pre R suf hs => ?_) ?_
  · have hlen : l.length = pre.length + (suf.length + 1) := by rw [hs]; simp
    have hx : l[pre.length]? = some R := by rw [hs]; simp
    have h40 := hf R (by rw [hs]; simp)
    obtain ⟨b1, b2⟩ := back_take c d R
    unfold law12_ColsBack.l1
    dsimp only
    rw [if_pos (by rw [List.length_map]; omega), idx_map, idx_of hx, idx_map, idx_map, idx_of hx]
    simp only [Option.map_some, bnd_some']
    rw [plR_len, plR_len, if_neg (by omega), cut_of ⟨by omega, by omega, by rw [plR_len]; omega⟩, bnd_some']
    have e1 : ((plR a (backR c d R)).fCells.take (R.fCells.length : Int).toNat).drop (0 : Int).toNat = (plR a R).fCells := by
      rw [Int.toNat_natCast]
      show List.drop 0 (((backR c d R).fCells.map (plC a)).take R.fCells.length) = R.fCells.map (plC a)
      rw [List.drop_zero, ← List.map_take, b2]
    rw [e1, refCells_same _ _ (by rw [plR_len]; omega), bnd_some', decide_eq_true rfl, bnd_some', if_neg (by simp), w64_id ⟨by omega, by omega⟩]
  · unfold law12_ColsBack.l1
    dsimp only
    rw [if_neg (by rw [List.length_map]; omega)]
theorem ColsBack_holds (a0 : List UInt8) (a1 : Int) (a2 : Int) (w0 : a0.length ≤ maxLen) (w1 : (Lit.int .i64 a1).wf = true) (w2 : (Lit.int .i64 a2).wf = true) : law12_ColsBack a0 a1 a2 = some true := by
  unfold law12_ColsBack
  rw [show ((1500 : Int)) = ((1500 : Nat) : Int) from rfl, cut11_eq, bnd_some']
  generalize hw : a0.take 1500 = w
  have hb : w.length ≤ 4096 := by rw [← hw]; simp; omega
  cases hbad : isBad w with
  | true => rw [begun_bad w hb hbad, bnd_some']; dsimp only; rw [if_neg (by simp), awake12_eq, bnd_some']
  | false =>
    obtain ⟨t, t1, e1⟩ := begun_ok w hb hbad
    obtain ⟨i1, i2⟩ := begin_inv w hb hbad t1
    have hlen := isBad_len hbad
    have h4 : (rowsW w).length ≤ 400 := by rw [rowsW_len]; omega
    have ha : w.length ≤ 16384 := by omega
    rw [e1, bnd_some']
    generalize tailE w (rs w) = tl
    generalize firstE w (rs w) = e
    generalize rowsW w = l at *
    dsimp only
    rw [if_pos rfl]
    obtain ⟨g, k, g1, g2⟩ := insdel ha i1 tl e a1
    rw [g1, bnd_some']
    dsimp only
    have hfirst : (bnd (if k = 0 then bnd (cols_Delete g a1) fun x12 => bnd (if x12.2 = 0 then bnd (grid_Same ⟨t, tl, e⟩ x12.1 w) fun x16 => some (!x16) else some true : Option Bool) fun t14 => if t14 = true then some (Ex.ret false) else some (Ex.brk ()) else some (Ex.brk ()) : Option (Ex Unit Bool)) fun t9 => some t9) = some (Ex.brk ()) := by
      by_cases hk : k = 0
      · obtain ⟨u, u1, u2⟩ := g2 hk
        rw [if_pos hk, u2, bnd_some']
        dsimp only
        rw [if_pos rfl, gridSame_eq ha i1 u1, bnd_some', bnd_some', if_neg (by simp), bnd_some']
      · rw [if_neg hk, bnd_some']
    have hfirst' : (if k = 0 then bnd (cols_Delete g a1) fun x12 => bnd (if x12.2 = 0 then bnd (grid_Same ⟨t, tl, e⟩ x12.1 w) fun x16 => some (!x16) else some true : Option Bool) fun t14 => if t14 = true then some (Ex.ret false) else some (Ex.brk ()) else some (Ex.brk ()) : Option (Ex Unit Bool)) = some (Ex.brk ()) := by
      obtain ⟨x, hx, hy⟩ := bnd_some hfirst
      rw [hx]; exact hy
    rw [hfirst', bnd_some']
    dsimp only
    obtain ⟨g', k', m1, m2⟩ := movmov ha i1 tl e a1 a2
    rw [m1, bnd_some']
    dsimp only
    by_cases hk : k' = 0
    · obtain ⟨r1, r2, u, u1, u2⟩ := m2 hk
      rw [if_pos hk, u2, bnd_some']
      dsimp only
      rw [if_pos rfl, cEven_eq t tl e l i1.tree i1.few, bnd_some']
      have hev : (if evenL (lens l) (wid l) = true then bnd (grid_Same ⟨t, tl, e⟩ ⟨u, tl, e⟩ w) fun x27 => some (!x27) else some false : Option Bool) = some false := by
        by_cases he : evenL (lens l) (wid l) = true
        · have hbk := back_even a1 a2 r1.2 r2.2 he
          have hu : IsT u l := by have := u1.tree; rwa [hbk] at this
          rw [if_pos he, gridSame_eq ha i1 hu, bnd_some']; rfl
        · rw [if_neg he]
      rw [hev, bnd_some', if_neg (by simp), plain11_eq ha i1 h4, bnd_some', plain11_eq ha u1 (by rw [List.length_map]; exact h4), bnd_some', takes w tl e a1 a2 l (by omega) i1.forty, bnd_some']
      dsimp only
      rw [awake12_eq, bnd_some']
    · rw [if_neg hk, awake12_eq, bnd_some']
end Go.Proofs.YtpmhiiemklhbhaaGreat.S
