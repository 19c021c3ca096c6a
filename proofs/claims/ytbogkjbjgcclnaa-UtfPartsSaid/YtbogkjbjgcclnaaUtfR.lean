/- Package utf: from boundary to boundary; a number's bytes between any others. Plain law for UtfParts and UtfBetween. -/
import Derived.Test.YtbogkjbjgcclnaaUtfP
import Derived.Test.YtbogkjbjgcclnaaAmF
namespace Go.Proofs.Ytbogkjbjgcclnaa
open Go Go.Am
theorem sz_bd {bs : List UInt8} {p : Nat} (h : p < bs.length) : 1 ≤ szB bs p ∧ p + szB bs p ≤ bs.length := step_bd h
theorem isB_next {bs : List UInt8} : ∀ (k q p : Nat), bs.length - q ≤ k → isB bs q p → p < bs.length → isB bs q (p + szB bs p)
  | 0, q, p, hk, h, hp => by
    have hq : ¬ q < bs.length := by omega
    rw [isB_no hq] at h; omega
  | k + 1, q, p, hk, h, hp => by
    by_cases hq : q < bs.length
    · have hs := sz_bd hq
      rw [isB_yes hq] at h ⊢
      rcases h with rfl | h
      · exact .inr (.inl rfl)
      · exact .inr (isB_next k (q + szB bs q) p (by omega) h hp)
    · rw [isB_no hq] at h; omega
/-- Nothing begins within a character. -/
theorem isB_far {bs : List UInt8} {p x : Nat} (h : isB bs 0 x) (hx : p < x) : p + szB bs p ≤ x := by
  have := bound_yes _ 0 x p (Nat.le_refl _) h (Nat.zero_le _) hx
  omega
theorem next_is {bs : List UInt8} {p : Nat} (h : isB bs 0 p) (hp : p < bs.length) : nextB (allB bs) p bs.length = p + szB bs p := by
  have hs := sz_bd hp
  exact nextB_is (allB_sorted bs) (mem_allB.2 (isB_next _ 0 p (Nat.le_refl _) h hp)) (by omega) (fun x hx h' => isB_far (mem_allB.1 hx) (by omega))
theorem prev_is {bs : List UInt8} {p : Nat} (h : isB bs 0 p) (hp : p < bs.length) : prevB (allB bs) ((p : Int) + (szB bs p : Nat)) 0 = p := by
  have hs := sz_bd hp
  refine prevB_is (allB_sorted bs) (mem_allB.2 h) (by omega) (fun x hx h' => ?_)
  rcases Nat.lt_or_ge p x with h1 | h1
  · have := isB_far (mem_allB.1 hx) h1; omega
  · exact h1
theorem nth_succ {bs : List UInt8} : ∀ (k i : Nat), nth bs i k < bs.length → nth bs i (k + 1) = nth bs i k + szB bs (nth bs i k)
  | 0, i, h => by
    rw [nth] at h
    show (if i < bs.length then _ else _) = _
    rw [if_pos h, nth, nth]; rfl
  | k + 1, i, h => by
    by_cases hi : i < bs.length
    · rw [nth, if_pos hi] at h
      have ih := nth_succ k _ h
      rw [nth, if_pos hi, ih, nth, if_pos hi]
    · rw [nth_end hi] at h; exact absurd h hi
theorem hasB_yes {bs : List UInt8} {p : Nat} (h : isB bs 0 p) : hasB (allB bs) p = true := hasB_iff.2 ⟨by omega, mem_allB.2 (by simpa using h)⟩
theorem hasB_mid {bs : List UInt8} {p : Nat} {k : Int} (h1 : (p : Int) < k) (h2 : k < (p : Int) + (szB bs p : Nat)) : hasB (allB bs) k = false := by
  cases hb : hasB (allB bs) k
  · rfl
  · have := hasB_iff.1 hb
    have h3 := isB_far (p := p) (mem_allB.1 this.2) (by omega)
    omega
/-- What stands within a character is a byte from 128 to 191. -/
theorem byte_mid {bs : List UInt8} {p t : Nat} (hp : p + t < bs.length) (h0 : 0 < t) (h1 : t < szB bs p) : 128 ≤ (bs[p + t].toNat : Int) ∧ (bs[p + t].toNat : Int) ≤ 191 := by
  have h4 := szB_le (bs := bs) (i := p)
  have hp' : p < bs.length := by omega
  have hg : ∀ k : Nat, p + (k + 1) < bs.length → ((bs.drop (p + 1)).getD k 0) = bs.getD (p + (k + 1)) 0 := fun k _ => by
    simp [List.getD_eq_getElem?_getD, Nat.add_assoc, Nat.add_comm 1 k]
  have hgt : bs[p + t] = bs.getD (p + t) 0 := by rw [List.getD_eq_getElem?_getD, List.getElem?_eq_getElem hp]; rfl
  have ht : t = 1 ∨ t = 2 ∨ t = 3 := by omega
  unfold szB at h1
  rw [drop_cons hp', dec_ref] at h1
  rw [hgt]
  rcases ht with rfl | rfl | rfl
  · rw [← hg 0 (by omega)]; exact refL_two (c := (bs[p].toNat : Int)) (y := ((bs.drop (p + 1)).getD 1 0).toNat) (z := ((bs.drop (p + 1)).getD 2 0).toNat) (k := (bs.drop (p + 1)).length) (by omega)
  · rw [← hg 1 (by omega)]; exact refL_three (c := (bs[p].toNat : Int)) (x := ((bs.drop (p + 1)).getD 0 0).toNat) (z := ((bs.drop (p + 1)).getD 2 0).toNat) (k := (bs.drop (p + 1)).length) (by omega)
  · rw [← hg 2 (by omega)]; exact refL_four (c := (bs[p].toNat : Int)) (x := ((bs.drop (p + 1)).getD 0 0).toNat) (y := ((bs.drop (p + 1)).getD 1 0).toNat) (k := (bs.drop (p + 1)).length) (by omega)
/-- A place at which no such byte stands is a boundary. -/
theorem isB_lead {bs : List UInt8} {i : Nat} (hi : i < bs.length) (h : ¬ (128 ≤ (bs[i].toNat : Int) ∧ (bs[i].toNat : Int) ≤ 191)) : isB bs 0 i := by
  refine (bound_iff (by omega)).2 fun k k1 k2 k3 => ?_
  refine Classical.byContradiction fun hk => h ?_
  have := byte_mid (bs := bs) (p := i - k) (t := k) (by omega) (by omega) (by omega)
  simpa only [show i - k + k = i by omega] using this

/-! ### a number's bytes -/
theorem ofNatB {n : Int} (h : 0 ≤ n ∧ n < 256) : ((UInt8.ofNat n.toNat).toNat : Int) = n := by
  rw [UInt8.toNat_ofNat_of_lt' (by show n.toNat < 256; omega), Int.toNat_of_nonneg h.1]
theorem scalar_iff {r : Int} : scalar r = true ↔ 0 ≤ r ∧ r ≤ 1114111 ∧ (r < 55296 ∨ 57343 < r) := by unfold scalar; exact decide_eq_true_iff
theorem putB_nil {r : Int} (h : scalar r = false) : putB r = [] := by unfold putB putN; rw [if_neg (by rw [h]; simp)]; rfl
theorem dec_put {r : Int} (h : scalar r = true) (l : List UInt8) : dec (putB r ++ l) = (r, ((putB r).length : Int)) ∧ 1 ≤ (putB r).length ∧ (putB r).length ≤ 4 ∧ ∀ (b : UInt8) (t : List UInt8), putB r ++ l = b :: t → ¬ (128 ≤ (b.toNat : Int) ∧ (b.toNat : Int) ≤ 191) := by
  have hs := scalar_iff.1 h
  by_cases h1 : r < 128
  · have e : putB r = [UInt8.ofNat r.toNat] := by unfold putB putN; rw [if_pos h, if_pos h1]; rfl
    have b0 := ofNatB (n := r) (by omega)
    rw [e]
    refine ⟨?_, by simp, by simp, fun b t ht => ?_⟩
    · show dec (_ :: l) = _
      rw [dec_ref, b0]; unfold refL; rw [if_pos h1]; rfl
    · rw [← (List.cons.inj ht).1, b0]; omega
  · by_cases h2 : r < 2048
    · have e : putB r = [UInt8.ofNat (192 + r / 64).toNat, UInt8.ofNat (128 + r % 64).toNat] := by unfold putB putN; rw [if_pos h, if_neg h1, if_pos h2]; rfl
      have b0 := ofNatB (n := 192 + r / 64) (by omega)
      have b1 := ofNatB (n := 128 + r % 64) (by omega)
      rw [e]
      refine ⟨?_, by simp, by simp, fun b t ht => ?_⟩
      · show dec (_ :: _ :: l) = _
        rw [dec_ref]
        simp only [List.getD_cons_zero, List.length_cons, b0, b1]
        unfold refL
        rw [if_neg (by omega), if_pos (by omega)]
        refine Prod.ext ?_ rfl
        dsimp only; omega
      · rw [← (List.cons.inj ht).1, b0]; omega
    · by_cases h3 : r < 65536
      · have e : putB r = [UInt8.ofNat (224 + r / 4096).toNat, UInt8.ofNat (128 + r / 64 % 64).toNat, UInt8.ofNat (128 + r % 64).toNat] := by unfold putB putN; rw [if_pos h, if_neg h1, if_neg h2, if_pos h3]; rfl
        have b0 := ofNatB (n := 224 + r / 4096) (by omega)
        have b1 := ofNatB (n := 128 + r / 64 % 64) (by omega)
        have b2 := ofNatB (n := 128 + r % 64) (by omega)
        rw [e]
        refine ⟨?_, by simp, by simp, fun b t ht => ?_⟩
        · show dec (_ :: _ :: _ :: l) = _
          rw [dec_ref]
          simp only [List.getD_cons_zero, List.getD_cons_succ, List.length_cons, b0, b1, b2]
          unfold refL
          rw [if_neg (by omega), if_neg (by omega), if_pos (by omega)]
          refine Prod.ext ?_ rfl
          dsimp only; omega
        · rw [← (List.cons.inj ht).1, b0]; omega
      · have e : putB r = [UInt8.ofNat (240 + r / 262144).toNat, UInt8.ofNat (128 + r / 4096 % 64).toNat, UInt8.ofNat (128 + r / 64 % 64).toNat, UInt8.ofNat (128 + r % 64).toNat] := by unfold putB putN; rw [if_pos h, if_neg h1, if_neg h2, if_neg h3]; rfl
        have b0 := ofNatB (n := 240 + r / 262144) (by omega)
        have b1 := ofNatB (n := 128 + r / 4096 % 64) (by omega)
        have b2 := ofNatB (n := 128 + r / 64 % 64) (by omega)
        have b3 := ofNatB (n := 128 + r % 64) (by omega)
        rw [e]
        refine ⟨?_, by simp, by simp, fun b t ht => ?_⟩
        · show dec (_ :: _ :: _ :: _ :: l) = _
          rw [dec_ref]
          simp only [List.getD_cons_zero, List.getD_cons_succ, List.length_cons, b0, b1, b2, b3]
          unfold refL
          rw [if_neg (by omega), if_neg (by omega), if_neg (by omega), if_pos (by omega)]
          refine Prod.ext ?_ rfl
          dsimp only; omega
        · rw [← (List.cons.inj ht).1, b0]; omega
theorem between {r : Int} (h : scalar r = true) (a c : List UInt8) : atS (a ++ putB r ++ c) a.length = (r, ((putB r).length : Int)) ∧ hasB (allB (a ++ putB r ++ c)) a.length = true ∧ hasB (allB (a ++ putB r ++ c)) ((a.length : Int) + ((putB r).length : Int)) = true := by
  obtain ⟨h1, h2, h3, h4⟩ := dec_put h c
  have hd : (a ++ putB r ++ c).drop a.length = putB r ++ c := by rw [List.append_assoc, List.drop_left]
  have hl : a.length < (a ++ putB r ++ c).length := by simp; omega
  have hA : atS (a ++ putB r ++ c) a.length = (r, ((putB r).length : Int)) := by
    rw [atS, if_pos (by omega), Int.toNat_natCast, hd, h1]
  have hz : szB (a ++ putB r ++ c) a.length = (putB r).length := by unfold szB; rw [hd, h1]; simp
  have hB : isB (a ++ putB r ++ c) 0 a.length := by
    refine isB_lead hl ?_
    refine h4 _ ((a ++ putB r ++ c).drop (a.length + 1)) ?_
    rw [← hd, ← List.drop_eq_getElem_cons hl]
  refine ⟨hA, hasB_yes hB, ?_⟩
  have := hasB_yes (isB_next _ 0 _ (Nat.le_refl _) hB hl)
  rw [hz] at this
  simpa using this
end Go.Proofs.Ytbogkjbjgcclnaa
