/- Stretches of places, told plainly: spans side by side. -/
import Derived.Test.YtbcbggdgkdfciaaG0
import Derived.Test.YtbcbggdgkdfciaaG2xa
import Derived.Test.YtbcbggdgkdfciaaSD
set_option linter.unusedVariables false
namespace Go.Proofs.Ytbcbggdgkdfciaa.S
open Go Go.Sm
/-! ### plain -/
def rangeI (a : Int) (n : Nat) : List Int := (List.range n).map fun i : Nat => a + (i : Int)
theorem rangeI_succ (a : Int) (n : Nat) : rangeI a (n + 1) = rangeI a n ++ [a + (n : Int)] := by simp [rangeI, List.range_succ]
theorem rangeI_len (a : Int) (n : Nat) : (rangeI a n).length = n := by simp [rangeI]
theorem rangeI_add (a : Int) (m : Nat) : ∀ n : Nat, rangeI a (m + n) = rangeI a m ++ rangeI (a + (m : Int)) n
  | 0 => by simp [rangeI]
  | n + 1 => by rw [← Nat.add_assoc, rangeI_succ, rangeI_add a m n, rangeI_succ, List.append_assoc]; congr 2; simp; omega
def exp1 (s : arena_Span) : List Int := rangeI s.fAt s.fN.toNat
def expand (L : List arena_Span) : List Int := L.flatMap exp1
theorem expand_append (L M : List arena_Span) : expand (L ++ M) = expand L ++ expand M := by simp [expand]
theorem expand_one (s : arena_Span) : expand [s] = exp1 s := by simp [expand]
/-- One span more. -/
def addS (L : List arena_Span) (s : arena_Span) : List arena_Span :=
  if s.fN < 1 then L else match L.getLast? with
    | none => [s]
    | some k => if k.fAt + k.fN = s.fAt then L.dropLast ++ [⟨k.fAt, k.fN + s.fN⟩] else L ++ [s]
theorem addS_nil {s : arena_Span} (h : ¬ s.fN < 1) : addS [] s = [s] := by simp [addS, h]
theorem addS_less {L : List arena_Span} {s : arena_Span} (h : s.fN < 1) : addS L s = L := by simp [addS, h]
theorem addS_snoc {L : List arena_Span} {k s : arena_Span} (h : ¬ s.fN < 1) : addS (L ++ [k]) s = if k.fAt + k.fN = s.fAt then L ++ [⟨k.fAt, k.fN + s.fN⟩] else L ++ [k] ++ [s] := by simp [addS, h]
def addI (L : List arena_Span) (x : Int) : List arena_Span := addS L ⟨x, 1⟩
def canon (r : List Int) : List arena_Span := r.foldl addI []
theorem snoc_cases (L : List arena_Span) : L = [] ∨ ∃ M k, L = M ++ [k] := by
  rcases List.eq_nil_or_concat L with h | ⟨M, k, h⟩
  · exact .inl h
  · exact .inr ⟨M, k, by simpa using h⟩
theorem addI_range (a : Int) (L : List arena_Span) : ∀ n : Nat, (rangeI a n).foldl addI L = addS L ⟨a, n⟩
  | 0 => by rw [addS_less (by simp)]; rfl
  | n + 1 => by
    rw [rangeI_succ, List.foldl_append, addI_range a L n]
    simp only [List.foldl_cons, List.foldl_nil, addI]
    have h1 : ¬ ((1 : Int) < 1) := by omega
    have h2 : ¬ ((((n + 1 : Nat) : Int)) < 1) := by omega
    cases n with
    | zero => rw [addS_less (L := L) (s := ⟨a, ((0 : Nat) : Int)⟩) (by simp)]; simp
    | succ n =>
      have h3 : ¬ ((((n + 1 : Nat) : Int)) < 1) := by omega
      rcases snoc_cases L with rfl | ⟨M, k, rfl⟩
      · rw [addS_nil h3, addS_nil h2, show [(⟨a, ((n + 1 : Nat) : Int)⟩ : arena_Span)] = [] ++ [⟨a, ((n + 1 : Nat) : Int)⟩] from rfl, addS_snoc h1]
        simp only [List.nil_append]
        rw [if_pos trivial]; simp
      · rw [addS_snoc h3, addS_snoc h2]
        by_cases hk : k.fAt + k.fN = a
        · rw [if_pos hk, if_pos hk, addS_snoc h1]
          simp only
          rw [if_pos (by omega)]
          simp; omega
        · rw [if_neg hk, if_neg hk, addS_snoc h1]
          simp only
          rw [if_pos trivial]; simp
theorem addS_exp (L : List arena_Span) (s : arena_Span) : addS L s = (exp1 s).foldl addI L := by
  unfold exp1
  rw [addI_range]
  by_cases h : s.fN < 1
  · rw [addS_less h, addS_less (by simp; omega)]
  · rw [Int.toNat_of_nonneg (by omega)]
theorem foldS (M L : List arena_Span) : M.foldl addS L = (expand M).foldl addI L := by
  induction M generalizing L with
  | nil => rfl
  | cons s M ih => rw [List.foldl_cons, ih, addS_exp]; simp [expand, List.foldl_append]
/-- Spans that may be: their numbers are small. -/
def Good (s : arena_Span) : Prop := 0 ≤ s.fAt ∧ 1 ≤ s.fN ∧ s.fAt + s.fN ≤ 2097152
theorem addS_good {L : List arena_Span} {s : arena_Span} (hL : ∀ k ∈ L, Good k) (hs : 1 ≤ s.fN → Good s) : ∀ k ∈ addS L s, Good k := by
  by_cases h : s.fN < 1
  · rw [addS_less h]; exact hL
  · have hs' := hs (by omega)
    rcases snoc_cases L with rfl | ⟨M, k, rfl⟩
    · rw [addS_nil h]; simpa using hs'
    · rw [addS_snoc h]
      split
      · rename_i hk
        intro x hx
        rcases List.mem_append.1 hx with hx | hx
        · exact hL x (List.mem_append_left _ hx)
        · have := hL k (by simp)
          simp at hx; subst hx
          simp only [Good] at this hs' ⊢
          omega
      · intro x hx
        rcases List.mem_append.1 hx with hx | hx
        · exact hL x hx
        · simp at hx; subst hx; exact hs'
theorem addS_expand {L : List arena_Span} {s : arena_Span} (hL : ∀ k ∈ L, Good k) : expand (addS L s) = expand L ++ exp1 s := by
  by_cases h : s.fN < 1
  · rw [addS_less h]; simp [exp1, rangeI, show s.fN.toNat = 0 by omega]
  · rcases snoc_cases L with rfl | ⟨M, k, rfl⟩
    · rw [addS_nil h, expand_one]; rfl
    · rw [addS_snoc h]
      split
      · rename_i hk
        have := hL k (by simp)
        simp only [Good] at this
        simp only [expand_append, expand_one, List.append_assoc]
        congr 1
        simp only [exp1]
        rw [show (k.fN + s.fN).toNat = k.fN.toNat + s.fN.toNat by omega, rangeI_add]
        congr 2; omega
      · rw [expand_append, expand_one]
theorem canon_snoc (r : List Int) (x : Int) : canon (r ++ [x]) = addI (canon r) x := by simp [canon, List.foldl_append]
/-- Places that may be. -/
def GoodP (r : List Int) : Prop := ∀ x ∈ r, 0 ≤ x ∧ x < 2097152
theorem canon_good : ∀ (r : List Int), GoodP r → ∀ k ∈ canon r, Good k := by
  intro r
  induction r using snoc_ind with
  | nil => intro _ k hk; cases hk
  | snoc r x ih =>
    intro hr
    rw [canon_snoc]
    exact addS_good (ih fun y hy => hr y (by simp [hy])) (fun _ => by have := hr x (by simp); simp only [Good]; omega)
theorem canon_expand (r : List Int) (hr : GoodP r) : expand (canon r) = r := by
  induction r using snoc_ind with
  | nil => rfl
  | snoc r x ih =>
    have hr' : GoodP r := fun y hy => hr y (by simp [hy])
    rw [canon_snoc, addI, addS_expand (canon_good r hr'), ih hr']
    simp [exp1, rangeI]
theorem canon_last (r : List Int) (y : Int) : ∃ L k, canon (r ++ [y]) = L ++ [k] ∧ k.fAt + k.fN = y + 1 := by
  rw [canon_snoc, addI]
  rcases snoc_cases (canon r) with h | ⟨M, k, h⟩
  · rw [h, addS_nil (by simp)]; exact ⟨[], _, rfl, rfl⟩
  · rw [h, addS_snoc (by simp)]
    split
    · rename_i hk; exact ⟨_, _, rfl, by simp only at hk ⊢; omega⟩
    · exact ⟨_, _, rfl, rfl⟩
theorem canon_fold (r r' : List Int) (hr' : GoodP r') : (canon r').foldl addS (canon r) = canon (r ++ r') := by
  rw [foldS, canon_expand r' hr']; simp [canon, List.foldl_append]
/-- The text of places. -/
def tOf (r : List Int) : piece_Text := ⟨canon r, (r.length : Int)⟩
def toR (s : arena_Span) : ref03_Span := ⟨s.fAt, s.fN⟩
theorem toR_inj {a b : List arena_Span} (h : a.map toR = b.map toR) : a = b := by
  induction a generalizing b with
  | nil => cases b with
    | nil => rfl
    | cons => cases h
  | cons x a ih => cases b with
    | nil => cases h
    | cons y b =>
      simp only [List.map_cons, List.cons.injEq] at h
      rw [ih h.2]
      have := h.1
      cases x; cases y
      simp [toR] at this
      rw [this.1, this.2]
theorem join_eq (k s : arena_Span) (hk : Good k) (hs : Good s) : arena_Join k s = some (if k.fAt + k.fN = s.fAt then (⟨k.fAt, k.fN + s.fN⟩, true) else (⟨0, 0⟩, false)) := by
  simp only [Good] at hk hs
  unfold arena_Join
  rw [if_neg (by omega), if_neg (by omega), bnd_some', w64_id ⟨by omega, by omega⟩]
  by_cases h : k.fAt + k.fN = s.fAt
  · have : s = (⟨k.fAt + k.fN, s.fN⟩ : arena_Span) := by cases s; simp_all
    rw [if_pos h, if_neg (by simp only [Bool.not_eq_true', beq_eq_false_iff_ne, ne_eq, Classical.not_not]; exact this), w64_id ⟨by omega, by omega⟩]
  · have : s ≠ (⟨k.fAt + k.fN, s.fN⟩ : arena_Span) := fun e => h (congrArg arena_Span.fAt e).symm
    rw [if_neg h, if_pos (by simpa using this)]
theorem set_last {α : Type} (M : List α) (k x : α) (i : Nat) (h : i = M.length) : (M ++ [k]).set i x = M ++ [x] := by subst h; simp
theorem addI_len (L : List arena_Span) (s : arena_Span) : (addS L s).length ≤ L.length + 1 := by
  by_cases h : s.fN < 1
  · rw [addS_less h]; omega
  · rcases snoc_cases L with rfl | ⟨M, k, rfl⟩
    · rw [addS_nil h]; simp
    · rw [addS_snoc h]; split <;> simp
theorem canon_len : ∀ r : List Int, (canon r).length ≤ r.length := by
  intro r
  induction r using snoc_ind with
  | nil => simp [canon]
  | snoc r x ih => rw [canon_snoc]; have := addI_len (canon r) ⟨x, 1⟩; simp only [addI, List.length_append, List.length_cons, List.length_nil]; omega
theorem len_ex (L : List arena_Span) : (expand L).length = (L.map fun s => s.fN.toNat).sum := by
  induction L with
  | nil => rfl
  | cons s L ih => rw [show expand (s :: L) = exp1 s ++ expand L by simp [expand]]; simp [ih, exp1, rangeI_len]
theorem fold_canon (M : List arena_Span) : M.foldl addS [] = canon (expand M) := foldS M []
theorem idx_map {α β : Type} (g : α → β) (l : List α) (i : Int) : idx (l.map g) i = (idx l i).map g := by
  unfold idx; split <;> simp
theorem exp_sub {r : List Int} (hr : GoodP r) {pre suf : List arena_Span} (h : canon r = pre ++ suf) : GoodP (expand pre) ∧ (expand pre).length ≤ r.length ∧ r = expand pre ++ expand suf := by
  have := canon_expand r hr
  rw [h, expand_append] at this
  exact ⟨fun x hx => hr x (by rw [← this]; simp [hx]), by rw [← this]; simp, this.symm⟩
theorem goodP_cut {r : List Int} (hr : GoodP r) (i j : Nat) : GoodP ((r.take j).drop i) := fun x hx => hr x (List.mem_of_mem_take (List.mem_of_mem_drop hx))
theorem goodP_app {r q : List Int} (hr : GoodP r) (hq : GoodP q) : GoodP (r ++ q) := fun x hx => (List.mem_append.1 hx).elim (hr x) (hq x)
end Go.Proofs.Ytbcbggdgkdfciaa.S
