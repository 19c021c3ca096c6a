/- Package utf: where characters begin: what utf.Bound looks at tells the boundaries. -/
import Derived.Test.YtbogkjbjgcclnaaUtfL
namespace Go.Proofs.Ytbogkjbjgcclnaa
open Go Go.Am
/-- How many bytes the character at a place has. -/
def szB (bs : List UInt8) (i : Nat) : Nat := (dec (bs.drop i)).2.toNat
/-- Is a place a boundary, from a boundary on? -/
def isB (bs : List UInt8) (p i : Nat) : Prop := i = p ∨ i ∈ bndA bs p
theorem isB_no {bs : List UInt8} {p i : Nat} (h : ¬ p < bs.length) : isB bs p i ↔ i = p := by
  unfold isB; rw [bndA_no h]; simp
theorem isB_yes {bs : List UInt8} {p i : Nat} (h : p < bs.length) : isB bs p i ↔ i = p ∨ isB bs (p + szB bs p) i := by
  unfold isB szB; rw [bndA_yes h]; simp
theorem isB_ge {bs : List UInt8} : ∀ (k p i : Nat), bs.length - p ≤ k → isB bs p i → p ≤ i ∧ (i = p ∨ i ≤ bs.length)
  | 0, p, i, hk, h => by rw [isB_no (by omega)] at h; omega
  | k + 1, p, i, hk, h => by
    by_cases hp : p < bs.length
    · have hs := step_bd hp
      rw [isB_yes hp] at h
      rcases h with h | h
      · omega
      · have := isB_ge k (p + szB bs p) i (by unfold szB; omega) h
        unfold szB at this
        omega
    · rw [isB_no hp] at h; omega
theorem refL_two {c x y z : Int} {k : Nat} (h : 2 ≤ (refL c x y z k).2) : 128 ≤ x ∧ x ≤ 191 := by
  unfold refL at h
  (repeat' split at h) <;> first | (dsimp only at h; omega) | omega
theorem refL_three {c x y z : Int} {k : Nat} (h : 3 ≤ (refL c x y z k).2) : 128 ≤ y ∧ y ≤ 191 := by
  unfold refL at h
  (repeat' split at h) <;> first | (dsimp only at h; omega) | omega
theorem refL_four {c x y z : Int} {k : Nat} (h : 4 ≤ (refL c x y z k).2) : 128 ≤ z ∧ z ≤ 191 := by
  unfold refL at h
  (repeat' split at h) <;> first | (dsimp only at h; omega) | omega
theorem refL_le {c x y z : Int} {k : Nat} : (refL c x y z k).2 ≤ 4 := by
  unfold refL
  (repeat' split) <;> (dsimp only; omega)
theorem refL_mid {c x y z : Int} {k : Nat} (h : 128 ≤ c ∧ c ≤ 191) : (refL c x y z k).2 = 1 := by
  unfold refL
  rw [if_neg (by omega), if_neg (by omega), if_neg (by omega), if_neg (by omega)]
theorem drop_cons {bs : List UInt8} {i : Nat} (h : i < bs.length) : bs.drop i = bs[i] :: bs.drop (i + 1) := List.drop_eq_getElem_cons h
theorem szB_le {bs : List UInt8} {i : Nat} : szB bs i ≤ 4 := by
  unfold szB
  by_cases h : i < bs.length
  · rw [drop_cons h, dec_ref]
    have := refL_le (c := (bs[i].toNat : Int)) (x := ((bs.drop (i + 1)).getD 0 0).toNat) (y := ((bs.drop (i + 1)).getD 1 0).toNat) (z := ((bs.drop (i + 1)).getD 2 0).toNat) (k := (bs.drop (i + 1)).length)
    omega
  · rw [List.drop_eq_nil_of_le (by omega)]
    decide +kernel
/-- Inside of a character nothing longer begins. -/
theorem szB_mid {bs : List UInt8} {p t : Nat} (hp : p + t < bs.length) (h0 : 0 < t) (h1 : t < szB bs p) : szB bs (p + t) = 1 := by
  have h4 := szB_le (bs := bs) (i := p)
  have hp' : p < bs.length := by omega
  have hb : 128 ≤ (bs[p + t].toNat : Int) ∧ (bs[p + t].toNat : Int) ≤ 191 := by
    have hg : ∀ k : Nat, p + (k + 1) < bs.length → ((bs.drop (p + 1)).getD k 0) = bs.getD (p + (k + 1)) 0 := fun k _ => by
      simp [List.getD_eq_getElem?_getD, Nat.add_assoc, Nat.add_comm 1 k]
    have hgt : bs[p + t] = bs.getD (p + t) 0 := by rw [List.getD_eq_getElem?_getD, List.getElem?_eq_getElem hp]; rfl
    have ht : t = 1 ∨ t = 2 ∨ t = 3 := by omega
    unfold szB at h1
    rw [drop_cons hp', dec_ref] at h1
    rw [hgt]
    rcases ht with rfl | rfl | rfl
    · rw [← hg 0 (by omega)]; exact refL_two (c := (bs[p].toNat : Int)) (y := ((bs.drop (p + 1)).getD 1 0).toNat) (z := ((bs.drop (p + 1)).getD 2 0).toNat) (k := (bs.drop (p + 1)).length) (by omega)
    · rw [← hg 1 (by omega)]; exact refL_three (c := (bs[p].toNat : Int)) (x := ((bs.drop (p + 1)).getD 0 0).toNat) (z := ((bs.drop (p + 1)).getD 2 0).toNat) (k := (bs.drop (p + 1)).length) (by omega)
    · rw [← hg 2 (by omega)]; exact refL_four (c := (bs[p].toNat : Int)) (x := ((bs.drop (p + 1)).getD 0 0).toNat) (y := ((bs.drop (p + 1)).getD 1 0).toNat) (k := (bs.drop (p + 1)).length) (by omega)
  unfold szB
  rw [drop_cons hp, dec_ref, refL_mid hb]
  rfl
theorem bound_yes {bs : List UInt8} : ∀ (k p i q : Nat), bs.length - p ≤ k → isB bs p i → p ≤ q → q < i → szB bs q ≤ i - q
  | 0, p, i, q, hk, h, h1, h2 => by rw [isB_no (by omega)] at h; omega
  | k + 1, p, i, q, hk, h, h1, h2 => by
    by_cases hp : p < bs.length
    · have hs := step_bd hp
      have hs' : 1 ≤ szB bs p ∧ p + szB bs p ≤ bs.length := hs
      rw [isB_yes hp] at h
      rcases h with h | h
      · omega
      · have hge := isB_ge _ _ _ (Nat.le_refl _) h
        by_cases hq : p + szB bs p ≤ q
        · exact bound_yes k (p + szB bs p) i q (by omega) h hq h2
        · by_cases hqp : q = p
          · subst hqp; omega
          · have := szB_mid (bs := bs) (p := p) (t := q - p) (by omega) (by omega) (by omega)
            rw [show p + (q - p) = q by omega] at this
            omega
    · rw [isB_no hp] at h; omega
theorem bound_no {bs : List UInt8} : ∀ (k p i : Nat), bs.length - p ≤ k → p ≤ i → i ≤ bs.length → ¬ isB bs p i → ∃ q, p ≤ q ∧ q < i ∧ i - q < szB bs q
  | 0, p, i, hk, h1, h2, h => by rw [isB_no (by omega)] at h; omega
  | k + 1, p, i, hk, h1, h2, h => by
    by_cases hp : p < bs.length
    · have hs : 1 ≤ szB bs p ∧ p + szB bs p ≤ bs.length := step_bd hp
      rw [isB_yes hp] at h
      by_cases hi : i < p + szB bs p
      · exact ⟨p, Nat.le_refl _, by omega, by omega⟩
      · obtain ⟨q, q1, q2, q3⟩ := bound_no k (p + szB bs p) i (by omega) (by omega) h2 (fun h' => h (.inr h'))
        exact ⟨q, by omega, q2, q3⟩
    · rw [isB_no hp] at h; omega
/-- What utf.Bound looks at. -/
theorem bound_iff {bs : List UInt8} {i : Nat} (hi : i ≤ bs.length) : isB bs 0 i ↔ ∀ k, 1 ≤ k → k < 4 → k ≤ i → szB bs (i - k) ≤ k := by
  constructor
  · intro h k h1 _ h3
    have := bound_yes _ 0 i (i - k) (Nat.le_refl _) h (Nat.zero_le _) (by omega)
    omega
  · intro h
    refine Classical.byContradiction fun hn => ?_
    obtain ⟨q, _, q2, q3⟩ := bound_no _ 0 i (Nat.le_refl _) (Nat.zero_le _) hi hn
    have h4 := szB_le (bs := bs) (i := q)
    have := h (i - q) (by omega) (by omega) (by omega)
    rw [show i - (i - q) = q by omega] at this
    omega
end Go.Proofs.Ytbogkjbjgcclnaa
