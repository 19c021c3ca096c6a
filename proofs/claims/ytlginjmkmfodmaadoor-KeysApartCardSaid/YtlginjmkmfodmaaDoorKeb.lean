/- Which key a text begins with, plainly; characters as Go's range over a text has them. -/
import Derived.Test.YtlginjmkmfodmaaDoorKea
set_option linter.unusedVariables false
namespace Go.Proofs.YtlginjmkmfodmaaDoor.S
open Go Go.Sm
/-! ### what 'dec' tells is the text -/
theorem dec_inv {b : UInt8} {l : List UInt8} (h : 0 ≤ (dec (b :: l)).1) : scalar (dec (b :: l)).1 = true ∧ ∃ rest, b :: l = putB (dec (b :: l)).1 ++ rest := by
  have hb := b.toNat_lt
  have byte : ∀ {x : UInt8} {n : Int}, (x.toNat : Int) = n → UInt8.ofNat n.toNat = x := fun {x n} e => by rw [← e]; simp
  rw [dec_ref] at h ⊢
  unfold refL at h ⊢
  by_cases h1 : (b.toNat : Int) < 128
  · rw [if_pos h1]
    dsimp only
    have hs : scalar (b.toNat : Int) = true := scalar_iff.2 (by omega)
    refine ⟨hs, l, ?_⟩
    have e : putB (b.toNat : Int) = [b] := by unfold putB putN; rw [if_pos hs, if_pos h1]; simp
    rw [e]; rfl
  rw [if_neg h1] at h ⊢
  cases l with
  | nil =>
    simp only [List.length_nil] at h ⊢
    rw [if_neg (by omega), if_neg (by omega), if_neg (by omega)] at h
    dsimp only at h; omega
  | cons x l =>
    have hx := x.toNat_lt
    simp only [List.getD_cons_zero, List.getD_cons_succ, List.length_cons] at h ⊢
    split
    · rename_i c
      dsimp only
      have hs : scalar ((b.toNat : Int) - 192) = scalar ((b.toNat : Int) - 192) := rfl
      have hs : scalar (((b.toNat : Int) - 192) * 64 + x.toNat - 128) = true := scalar_iff.2 (by omega)
      refine ⟨hs, l, ?_⟩
      have e : putB (((b.toNat : Int) - 192) * 64 + x.toNat - 128) = [b, x] := by
        unfold putB putN
        rw [if_pos hs, if_neg (by omega), if_pos (by omega)]
        simp only [List.map_cons, List.map_nil]
        rw [byte (x := b) (by omega), byte (x := x) (by omega)]
      rw [e]; rfl
    rename_i c1
    rw [if_neg c1] at h
    cases l with
    | nil =>
      simp only [List.length_nil] at h ⊢
      rw [if_neg (by omega), if_neg (by omega)] at h
      dsimp only at h; omega
    | cons y l =>
      have hy := y.toNat_lt
      simp only [List.getD_cons_zero, List.getD_cons_succ, List.length_cons] at h ⊢
      split
      · rename_i c
        dsimp only
        have hs : scalar (((b.toNat : Int) - 224) * 4096 + ((x.toNat : Int) - 128) * 64 + y.toNat - 128) = true := scalar_iff.2 (by omega)
        refine ⟨hs, l, ?_⟩
        have e : putB (((b.toNat : Int) - 224) * 4096 + ((x.toNat : Int) - 128) * 64 + y.toNat - 128) = [b, x, y] := by
          unfold putB putN
          rw [if_pos hs, if_neg (by omega), if_neg (by omega), if_pos (by omega)]
          simp only [List.map_cons, List.map_nil]
          rw [byte (x := b) (by omega), byte (x := x) (by omega), byte (x := y) (by omega)]
        rw [e]; rfl
      rename_i c2
      rw [if_neg c2] at h
      cases l with
      | nil =>
        simp only [List.length_nil] at h ⊢
        rw [if_neg (by omega)] at h
        dsimp only at h; omega
      | cons z l =>
        have hz := z.toNat_lt
        simp only [List.getD_cons_zero, List.length_cons] at h ⊢
        split
        · rename_i c
          dsimp only
          have hs : scalar (((b.toNat : Int) - 240) * 262144 + ((x.toNat : Int) - 128) * 4096 + ((y.toNat : Int) - 128) * 64 + z.toNat - 128) = true := scalar_iff.2 (by omega)
          refine ⟨hs, l, ?_⟩
          have e : putB (((b.toNat : Int) - 240) * 262144 + ((x.toNat : Int) - 128) * 4096 + ((y.toNat : Int) - 128) * 64 + z.toNat - 128) = [b, x, y, z] := by
            unfold putB putN
            rw [if_pos hs, if_neg (by omega), if_neg (by omega), if_neg (by omega)]
            simp only [List.map_cons, List.map_nil]
            rw [byte (x := b) (by omega), byte (x := x) (by omega), byte (x := y) (by omega), byte (x := z) (by omega)]
          rw [e]; rfl
        · rename_i c3
          rw [if_neg c3] at h
          dsimp only at h; omega
theorem dec_cases (b : UInt8) (l : List UInt8) : ((dec (b :: l)).1 = -1 ∧ (dec (b :: l)).2 = 1) ∨ 0 ≤ (dec (b :: l)).1 := by
  rw [dec_ref]; unfold refL
  have := b.toNat_lt
  split
  · right; dsimp only; omega
  split
  · right; dsimp only; omega
  split
  · right; dsimp only; omega
  split
  · right; dsimp only; omega
  · left; exact ⟨rfl, rfl⟩
theorem dec_low {b : UInt8} {l : List UInt8} (h : b.toNat < 128) : dec (b :: l) = ((b.toNat : Int), 1) := by
  rw [dec_ref]; unfold refL; rw [if_pos (by omega)]
theorem dec_high {b : UInt8} {l : List UInt8} (h : 128 ≤ b.toNat) : (dec (b :: l)).1 < 0 ∨ 128 ≤ (dec (b :: l)).1 := by
  rw [dec_ref]; unfold refL; rw [if_neg (by omega)]
  split
  · right; dsimp only; omega
  split
  · right; dsimp only; omega
  split
  · right; dsimp only; omega
  · left; exact (by decide : (-1 : Int) < 0)
/-! ### Go's own decoding -/
theorem bs_get (s : List UInt8) (j : Nat) : (bs s).get! j = s.getD j 0 := by
  show s.toArray[j]! = _
  rw [List.getElem!_toArray, List.getD_eq_getElem?_getD]
  rcases Nat.lt_or_ge j s.length with h | h
  · rw [getElem!_pos s j h, List.getElem?_eq_getElem h]; rfl
  · rw [getElem!_neg s j (by omega), List.getElem?_eq_none h]; rfl
theorem u8dec (s : List UInt8) (i : Nat) (hi : i < s.length) : Utf8.decode (bs s) i = if 0 ≤ (dec (s.drop i)).1 then ((dec (s.drop i)).1.toNat, (dec (s.drop i)).2.toNat) else (65533, 1) := by
  have hd : s.drop i = s[i] :: s.drop (i + 1) := List.drop_eq_getElem_cons hi
  have g0 : s.getD (i + 0) 0 = s[i] := by rw [List.getD_eq_getElem?_getD, Nat.add_zero, List.getElem?_eq_getElem hi]; rfl
  have gk : ∀ k, s.getD (i + (k + 1)) 0 = (s.drop (i + 1)).getD k 0 := fun k => by
    rw [List.getD_eq_getElem?_getD, List.getD_eq_getElem?_getD, List.getElem?_drop]; congr 2; omega
  have hl : (s.drop (i + 1)).length = s.length - (i + 1) := List.length_drop
  have hsz : (bs s).size = s.length := bs_size s
  have g1 : s.getD (i + 1) 0 = (s.drop (i + 1)).getD 0 0 := gk 0
  have g2 : s.getD (i + 2) 0 = (s.drop (i + 1)).getD 1 0 := gk 1
  have g3 : s.getD (i + 3) 0 = (s.drop (i + 1)).getD 2 0 := gk 2
  have b0 := s[i].toNat_lt
  have b1 := ((s.drop (i + 1)).getD 0 0).toNat_lt
  have b2 := ((s.drop (i + 1)).getD 1 0).toNat_lt
  have b3 := ((s.drop (i + 1)).getD 2 0).toNat_lt
  rw [hd, dec_ref, hl]
  unfold Utf8.decode
  simp only [bs_get, hsz, g0, g1, g2, g3]
  clear gk g0 g1 g2 g3 hd hsz
  generalize (s.drop (i + 1)).getD 0 0 = x at *
  generalize (s.drop (i + 1)).getD 1 0 = y at *
  generalize (s.drop (i + 1)).getD 2 0 = z at *
  generalize s[i] = b at *
  generalize b.toNat = c at *
  generalize x.toNat = x at *
  generalize y.toNat = y at *
  generalize z.toNat = z at *
  generalize s.length = n at *
  unfold Utf8.valid Utf8.runeError
  simp only [Bool.and_eq_true, decide_eq_true_eq, beq_iff_eq, Bool.or_eq_true, ge_iff_le]
  have no : ∀ {R : Int × Int}, R = (-1, 1) → ((65533, 1) : Nat × Nat) = if 0 ≤ R.1 then (R.1.toNat, R.2.toNat) else (65533, 1) := fun e => by rw [e]; rfl
  have yes : ∀ {R : Int × Int} {a d : Nat}, R = ((a : Int), (d : Int)) → ((a, d) : Nat × Nat) = if 0 ≤ R.1 then (R.1.toNat, R.2.toNat) else (65533, 1) := fun {R a d} e => by
    rw [e]; dsimp only; rw [if_pos (by omega)]; simp
  have pe : ∀ {a a' d d' : Int}, a = a' → d = d' → ((a, d) : Int × Int) = (a', d') := fun e1 e2 => by rw [e1, e2]
  by_cases h1 : c < 128
  · rw [if_pos h1]
    exact yes (by unfold refL; rw [if_pos (by omega)]; rfl)
  rw [if_neg h1]
  by_cases c2 : c / 32 = 6 ∧ i + 1 < n ∧ x / 64 = 2
  · rw [if_pos c2]
    by_cases d2 : 128 ≤ c % 32 * 64 + x % 64
    · rw [if_pos d2]
      exact yes (by unfold refL; rw [if_neg (by omega), if_pos (by omega)]; exact pe (by omega) rfl)
    · rw [if_neg d2]
      exact no (by unfold refL; rw [if_neg (by omega), if_neg (by omega), if_neg (by omega), if_neg (by omega)])
  rw [if_neg c2]
  by_cases c3 : (c / 16 = 14 ∧ i + 1 < n ∧ x / 64 = 2) ∧ i + 2 < n ∧ y / 64 = 2
  · rw [if_pos c3]
    by_cases d3 : 2048 ≤ c % 16 * 4096 + x % 64 * 64 + y % 64 ∧ ((0 ≤ ((c % 16 * 4096 + x % 64 * 64 + y % 64 : Nat) : Int) ∧ ((c % 16 * 4096 + x % 64 * 64 + y % 64 : Nat) : Int) < 55296) ∨ 57344 ≤ ((c % 16 * 4096 + x % 64 * 64 + y % 64 : Nat) : Int) ∧ ((c % 16 * 4096 + x % 64 * 64 + y % 64 : Nat) : Int) ≤ 1114111)
    · rw [if_pos d3]
      exact yes (by unfold refL; rw [if_neg (by omega), if_neg (by omega), if_pos (by omega)]; exact pe (by omega) rfl)
    · rw [if_neg d3]
      exact no (by unfold refL; rw [if_neg (by omega), if_neg (by omega), if_neg (by omega), if_neg (by omega)])
  rw [if_neg c3]
  by_cases c4 : ((c / 8 = 30 ∧ i + 1 < n ∧ x / 64 = 2) ∧ i + 2 < n ∧ y / 64 = 2) ∧ i + 3 < n ∧ z / 64 = 2
  · rw [if_pos c4]
    by_cases d4 : 65536 ≤ c % 8 * 262144 + x % 64 * 4096 + y % 64 * 64 + z % 64 ∧ ((0 ≤ ((c % 8 * 262144 + x % 64 * 4096 + y % 64 * 64 + z % 64 : Nat) : Int) ∧ ((c % 8 * 262144 + x % 64 * 4096 + y % 64 * 64 + z % 64 : Nat) : Int) < 55296) ∨ 57344 ≤ ((c % 8 * 262144 + x % 64 * 4096 + y % 64 * 64 + z % 64 : Nat) : Int) ∧ ((c % 8 * 262144 + x % 64 * 4096 + y % 64 * 64 + z % 64 : Nat) : Int) ≤ 1114111)
    · rw [if_pos d4]
      exact yes (by unfold refL; rw [if_neg (by omega), if_neg (by omega), if_neg (by omega), if_pos (by omega)]; exact pe (by omega) rfl)
    · rw [if_neg d4]
      exact no (by unfold refL; rw [if_neg (by omega), if_neg (by omega), if_neg (by omega), if_neg (by omega)])
  rw [if_neg c4]
  exact no (by unfold refL; rw [if_neg (by omega), if_neg (by omega), if_neg (by omega), if_neg (by omega)])
end Go.Proofs.YtlginjmkmfodmaaDoor.S
