/- Places of a text in another one, told plainly: the longest beginning that ends somewhere. -/
import Derived.Test.YtbcbggdgkdfciaaSD
set_option linter.unusedVariables false
namespace Go.Proofs.Ytbcbggdgkdfciaa.S
open Go Go.Sm
/-- p's first k things end at place i of b. -/
def sf (p b : Nat → UInt8) (m k i : Nat) : Prop := k ≤ i ∧ k ≤ m ∧ ∀ j, j < k → p j = b (i - k + j)
theorem sf_zero (p b : Nat → UInt8) (m i : Nat) : sf p b m 0 i := ⟨by omega, by omega, fun j hj => by omega⟩
theorem sf_succ {p b : Nat → UInt8} {m k i : Nat} : sf p b m (k + 1) (i + 1) ↔ k < m ∧ sf p b m k i ∧ p k = b i := by
  constructor
  · rintro ⟨h1, h2, h3⟩
    refine ⟨by omega, ⟨by omega, by omega, fun j hj => ?_⟩, ?_⟩
    · have := h3 j (by omega)
      rw [this]; congr 1; omega
    · have := h3 k (by omega)
      rw [this]; congr 1; omega
  · rintro ⟨h1, ⟨h2, h3, h4⟩, h5⟩
    refine ⟨by omega, by omega, fun j hj => ?_⟩
    by_cases c : j = k
    · subst c; rw [h5]; congr 1; omega
    · rw [h4 j (by omega)]; congr 1; omega
def shf (p : Nat → UInt8) : Nat → UInt8 := fun j => p (j + 1)
theorem sf_down {p b : Nat → UInt8} {m k i k' : Nat} (h : sf p b m k i) (hk : k' < k) : sf p b m k' i ↔ sf p (shf p) m k' (k - 1) := by
  obtain ⟨h1, h2, h3⟩ := h
  constructor
  · rintro ⟨g1, g2, g3⟩
    refine ⟨by omega, by omega, fun j hj => ?_⟩
    have a := g3 j hj
    have b' := h3 (k - k' + j) (by omega)
    unfold shf
    rw [a, show k - 1 - k' + j + 1 = k - k' + j by omega, b']
    congr 1; omega
  · rintro ⟨g1, g2, g3⟩
    refine ⟨by omega, by omega, fun j hj => ?_⟩
    have a := g3 j hj
    have b' := h3 (k - k' + j) (by omega)
    unfold shf at a
    rw [a, show k - 1 - k' + j + 1 = k - k' + j by omega, b']
    congr 1; omega
/-- The longest one. -/
def mxs (p b : Nat → UInt8) (m i k : Nat) : Prop := sf p b m k i ∧ ∀ k', sf p b m k' i → k' ≤ k
theorem mxs_zero (p b : Nat → UInt8) (m : Nat) : mxs p b m 0 0 := ⟨sf_zero _ _ _ _, fun k' h => h.1⟩
theorem mxs_uniq {p b : Nat → UInt8} {m i k k' : Nat} (h : mxs p b m i k) (h' : mxs p b m i k') : k = k' := Nat.le_antisymm (h'.2 _ h.1) (h.2 _ h'.1)
/-- The row of ends of the first n of p's beginnings. -/
def TabOk (p : Nat → UInt8) (m n : Nat) (t : Nat → Nat) : Prop := ∀ k, 1 ≤ k → k ≤ n → mxs p (shf p) m (k - 1) (t k)
/-- On the way down. -/
def Dn (p b : Nat → UInt8) (m i : Nat) (c : UInt8) (k : Nat) : Prop := sf p b m k i ∧ ∀ k', sf p b m k' i → k' < m → p k' = c → k' ≤ k
theorem dn_start {p b : Nat → UInt8} {m i k : Nat} {c : UInt8} (h : mxs p b m i k) : Dn p b m i c k := ⟨h.1, fun k' h' _ _ => h.2 k' h'⟩
theorem dn_step {p b : Nat → UInt8} {m n i k : Nat} {c : UInt8} {t : Nat → Nat} (ht : TabOk p m n t) (h : Dn p b m i c k) (h1 : 1 ≤ k) (hn : k ≤ n) (hc : k = m ∨ p k ≠ c) : Dn p b m i c (t k) ∧ t k < k := by
  obtain ⟨g1, g2⟩ := ht k h1 hn
  have hlt : t k < k := by have := g1.1; omega
  refine ⟨⟨(sf_down h.1 hlt).2 g1, fun k' hs hm hp => ?_⟩, hlt⟩
  have := h.2 k' hs hm hp
  by_cases e : k' = k
  · subst e; rcases hc with hc | hc
    · omega
    · exact absurd hp hc
  · exact g2 k' ((sf_down h.1 (by omega)).1 hs)
theorem dn_fin {p b : Nat → UInt8} {m i k : Nat} (hm : 0 < m) (h : Dn p b m i (b i) k) (hc : k = 0 ∨ (k < m ∧ p k = b i)) : k < m ∧ mxs p b m (i + 1) (if p k = b i then k + 1 else k) := by
  refine ⟨by omega, ?_⟩
  by_cases c : p k = b i
  · rw [if_pos c]
    refine ⟨sf_succ.2 ⟨by omega, h.1, c⟩, fun k' hk' => ?_⟩
    cases k' with
    | zero => omega
    | succ k' =>
      obtain ⟨g1, g2, g3⟩ := sf_succ.1 hk'
      have := h.2 k' g2 g1 g3
      omega
  · rw [if_neg c]
    have hk : k = 0 := by
      rcases hc with hc | ⟨_, hc⟩
      · exact hc
      · exact absurd hc c
    subst hk
    refine ⟨sf_zero _ _ _ _, fun k' hk' => ?_⟩
    cases k' with
    | zero => omega
    | succ k' =>
      obtain ⟨g1, g2, g3⟩ := sf_succ.1 hk'
      have := h.2 k' g2 g1 g3
      have hz : k' = 0 := by omega
      subst hz
      exact absurd g3 c
/-- A table of one more. -/
theorem tab_snoc {p : Nat → UInt8} {m n : Nat} {t t' : Nat → Nat} (ht : TabOk p m n t) (hs : ∀ k, k ≤ n → t' k = t k) (hn : mxs p (shf p) m n (t' (n + 1))) : TabOk p m (n + 1) t' := fun k h1 h2 => by
  by_cases c : k = n + 1
  · subst c; exact hn
  · rw [hs k (by omega)]; exact ht k h1 (by omega)
/-! ### places -/
/-- p stands at place i. -/
def eqAt (p b : Nat → UInt8) (m i : Nat) : Prop := ∀ j, j < m → p j = b (i + j)
theorem sf_full {p b : Nat → UInt8} {m i : Nat} : sf p b m m i ↔ m ≤ i ∧ eqAt p b m (i - m) := ⟨fun ⟨h1, _, h3⟩ => ⟨h1, h3⟩, fun ⟨h1, h3⟩ => ⟨h1, Nat.le_refl _, h3⟩⟩
instance (p b : Nat → UInt8) (m i : Nat) : Decidable (eqAt p b m i) := by unfold eqAt; infer_instance
/-- The places below n. -/
def plc (p b : Nat → UInt8) (m n : Nat) : List Nat := (List.range n).filter fun i => decide (eqAt p b m i)
theorem plc_succ (p b : Nat → UInt8) (m n : Nat) : plc p b m (n + 1) = plc p b m n ++ (if eqAt p b m n then [n] else []) := by
  unfold plc
  rw [List.range_succ, List.filter_append]
  congr 1
  by_cases c : eqAt p b m n
  · simp [c]
  · simp [c]
/-- One thing more read. -/
theorem plc_next {p b : Nat → UInt8} {m i k : Nat} (hm : 0 < m) (h : mxs p b m (i + 1) k) : plc p b m (i + 1 + 1 - m) = plc p b m (i + 1 - m) ++ (if k = m then [i + 1 - m] else []) := by
  by_cases c : k = m
  · subst c
    obtain ⟨h1, h2⟩ := sf_full.1 h.1
    rw [if_pos rfl, show i + 1 + 1 - k = (i + 1 - k) + 1 by omega, plc_succ, if_pos h2]
  · rw [if_neg c]
    by_cases d : m ≤ i + 1
    · rw [show i + 1 + 1 - m = (i + 1 - m) + 1 by omega, plc_succ, if_neg (fun e => ?_)]
      have := h.2 m (sf_full.2 ⟨d, e⟩)
      have := h.1.2.1
      omega
    · rw [show i + 1 + 1 - m = 0 by omega, show i + 1 - m = 0 by omega]; simp
theorem plc_lt {p b : Nat → UInt8} {m n i : Nat} (h : i ∈ plc p b m n) : i < n := by
  unfold plc at h; exact List.mem_range.1 (List.mem_filter.1 h).1
end Go.Proofs.Ytbcbggdgkdfciaa.S
