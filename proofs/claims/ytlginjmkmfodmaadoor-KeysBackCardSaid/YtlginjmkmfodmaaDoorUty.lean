/- Chapter 1's bytes of a number, and the document's boundaries, told plainly. -/
import Derived.Test.YtlginjmkmfodmaaDoorG1xa
import Derived.Test.YtlginjmkmfodmaaDoorG3xa
import Derived.Test.YtlginjmkmfodmaaDoorG4xa
import Derived.Test.YtlginjmkmfodmaaDoorUtx
set_option linter.unusedVariables false
namespace Go.Proofs.YtlginjmkmfodmaaDoor.S
open Go Go.Sm
theorem ub_of {x n : Int} (h : ((ub x).toNat : Int) = n) : ub x = UInt8.ofNat n.toNat := by
  subst h; simp
theorem ub_small {n : Int} (h : 0 ≤ n ∧ n < 256) : ub (w64 n) = UInt8.ofNat n.toNat := by
  refine ub_of ?_
  rw [ub_toNat, w64_id ⟨by omega, by omega⟩]
  omega
theorem ub_or {x m n : Int} (h : IntKind.u8.wrap (IntKind.i64.wrap ((BitVec.ofInt IntKind.i64.bits x ||| BitVec.ofInt IntKind.i64.bits m).toNat : Int)) = n) : ub (w64 (ior .i64 x m)) = UInt8.ofNat n.toNat := by
  refine ub_of ?_
  rw [← ub_wrap]; exact h
def B6 (x : Int) : UInt8 := UInt8.ofNat (128 + x % 64).toNat
theorem ub_B6 {x : Int} (h0 : 0 ≤ x) (h1 : x ≤ 1000000000000) : ub (w64 (ior .i64 128 (w64 (iand .i64 x 63)))) = B6 x := ub_or (or128w h0 h1)
theorem ishr6 (x : Int) : ishr .i64 x 6 = x / 64 := shr6 x
theorem hd0 : utf_head (w64 (3 - 3)) = some ⟨0, 128⟩ := rfl
theorem hd1 : utf_head (w64 (3 - 2)) = some ⟨192, 32⟩ := rfl
theorem hd2 : utf_head (w64 (3 - 1)) = some ⟨224, 16⟩ := rfl
theorem hd3 : utf_head (w64 (3 - 0)) = some ⟨240, 8⟩ := rfl
theorem st3 {x : Int} (h : 128 ≤ x) (h1 : x ≤ 1000000000000) : utf_Put.l1 (x, 3, 0, 0, 0, 0) = some (.next (x / 64, 2, 0, 0, 0, B6 x)) := by
  unfold utf_Put.l1
  dsimp only
  rw [hd0, bnd_some', if_pos (by simpa using h), show idx ([0, 0, 0, 0] : List UInt8) 3 = some 0 from rfl, bnd_some', ub_B6 (by omega) h1, ishr6]
  rfl
theorem st3' {x : Int} (h : x < 128) : utf_Put.l1 (x, 3, 0, 0, 0, 0) = some (.done (x, 3, 0, 0, 0, 0)) := by
  unfold utf_Put.l1
  dsimp only
  rw [hd0, bnd_some', if_neg (by simpa using h)]
theorem st2 {x : Int} {b : UInt8} (h : 32 ≤ x) (h1 : x ≤ 1000000000000) : utf_Put.l1 (x, 2, 0, 0, 0, b) = some (.next (x / 64, 1, 0, 0, B6 x, b)) := by
  unfold utf_Put.l1
  dsimp only
  rw [hd1, bnd_some', if_pos (by simpa using h), show idx ([0, 0, 0, b] : List UInt8) 2 = some 0 from rfl, bnd_some', ub_B6 (by omega) h1, ishr6]
  rfl
theorem st2' {x : Int} {b : UInt8} (h : x < 32) : utf_Put.l1 (x, 2, 0, 0, 0, b) = some (.done (x, 2, 0, 0, 0, b)) := by
  unfold utf_Put.l1
  dsimp only
  rw [hd1, bnd_some', if_neg (by simpa using h)]
theorem st1 {x : Int} {b c : UInt8} (h : 16 ≤ x) (h1 : x ≤ 1000000000000) : utf_Put.l1 (x, 1, 0, 0, b, c) = some (.next (x / 64, 0, 0, B6 x, b, c)) := by
  unfold utf_Put.l1
  dsimp only
  rw [hd2, bnd_some', if_pos (by simpa using h), show idx ([0, 0, b, c] : List UInt8) 1 = some 0 from rfl, bnd_some', ub_B6 (by omega) h1, ishr6]
  rfl
theorem st1' {x : Int} {b c : UInt8} (h : x < 16) : utf_Put.l1 (x, 1, 0, 0, b, c) = some (.done (x, 1, 0, 0, b, c)) := by
  unfold utf_Put.l1
  dsimp only
  rw [hd2, bnd_some', if_neg (by simpa using h)]
theorem st0' {x : Int} {a b c : UInt8} (h : x < 8) : utf_Put.l1 (x, 0, 0, a, b, c) = some (.done (x, 0, 0, a, b, c)) := by
  unfold utf_Put.l1
  dsimp only
  rw [hd3, bnd_some', if_neg (by simpa using h)]
theorem Put_eqU (r : Int) : utf_Put r = some (putB r) := by
  unfold utf_Put
  rw [scalar_eq, bnd_some']
  cases hs : scalar r with
  | false => rw [if_neg (by simp), putB_nil hs]
  | true =>
    have hr := scalar_iff.1 hs
    rw [if_pos rfl]
    unfold putB putN
    rw [if_pos hs]
    by_cases h1 : r < 128
    · rw [loop_done (st3' h1), bnd_some']
      dsimp only
      rw [hd0, bnd_some', show idx ([0, 0, 0, 0] : List UInt8) 3 = some 0 from rfl, bnd_some', ub_or (or0w hr.1 h1), if_pos h1]
      rfl
    · rw [if_neg h1]
      by_cases h2 : r < 2048
      · rw [loop_next (st3 (by omega) (by omega)) (loop_done (st2' (by omega))), bnd_some']
        dsimp only
        rw [hd1, bnd_some', show idx ([0, 0, 0, B6 r] : List UInt8) 2 = some 0 from rfl, bnd_some', ub_or (or192w (by omega) (by omega)), if_pos h2]
        rfl
      · rw [if_neg h2]
        by_cases h3 : r < 65536
        · rw [loop_next (st3 (by omega) (by omega)) (loop_next (st2 (by omega) (by omega)) (loop_done (st1' (by omega)))), bnd_some']
          dsimp only
          rw [hd2, bnd_some', show idx ([0, 0, B6 (r / 64), B6 r] : List UInt8) 1 = some 0 from rfl, bnd_some', ub_or (or224w (by omega) (by omega)), if_pos h3, show r / 64 / 64 = r / 4096 by omega]
          rfl
        · rw [if_neg h3]
          rw [loop_next (st3 (by omega) (by omega)) (loop_next (st2 (by omega) (by omega)) (loop_next (st1 (by omega) (by omega)) (loop_done (st0' (by omega))))), bnd_some']
          dsimp only
          rw [hd3, bnd_some', show idx ([0, B6 (r / 64 / 64), B6 (r / 64), B6 r] : List UInt8) 0 = some 0 from rfl, bnd_some', ub_or (or240w (by omega) (by omega)), show r / 64 / 64 / 64 = r / 262144 by omega, show r / 64 / 64 = r / 4096 by omega]
          rfl
theorem quo_64 {r : Int} (h : 0 ≤ r) : quo r 63 = r / 64 := Int.tdiv_eq_ediv_of_nonneg h
theorem quo_4096 {r : Int} (h : 0 ≤ r) : quo r 4095 = r / 4096 := Int.tdiv_eq_ediv_of_nonneg h
theorem quo_262144 {r : Int} (h : 0 ≤ r) : quo r 262143 = r / 262144 := Int.tdiv_eq_ediv_of_nonneg h
theorem rem_64 {r : Int} (h : 0 ≤ r) : rem r 63 = r % 64 := Int.tmod_eq_emod_of_nonneg h
theorem refPut_eqU (r : Int) : ref01_Put r = some (putB r) := by
  unfold ref01_Put
  by_cases hs : scalar r = true
  · have hr := scalar_iff.1 hs
    have e : (if r < 0 then some true else if r > 1114111 then some true else if r ≥ 55296 then some (decide (r ≤ 57343)) else some false : Option Bool) = some false := by
      rw [if_neg (by omega), if_neg (by omega)]
      split
      · rw [decide_eq_false (by omega)]
      · rfl
    rw [e, bnd_some', if_neg (by simp)]
    unfold putB putN
    rw [if_pos hs]
    by_cases h1 : r < 128
    · rw [if_pos h1, if_pos h1]
      have : ub r = UInt8.ofNat r.toNat := ub_of (by rw [ub_toNat]; omega)
      rw [this]; rfl
    · rw [if_neg h1, if_neg h1]
      by_cases h2 : r < 2048
      · rw [if_pos h2, if_pos h2, quo_64 hr.1, rem_64 hr.1, w64_id (x := r / 64) ⟨by omega, by omega⟩, ub_small (by omega), ub_small (by omega)]; rfl
      · rw [if_neg h2, if_neg h2]
        by_cases h3 : r < 65536
        · rw [if_pos h3, if_pos h3, quo_4096 hr.1, quo_64 hr.1, rem_64 hr.1, w64_id (x := r / 4096) ⟨by omega, by omega⟩, w64_id (x := r / 64) ⟨by omega, by omega⟩, rem_64 (by omega), ub_small (by omega), ub_small (by omega), ub_small (by omega)]; rfl
        · rw [if_neg h3, if_neg h3, quo_262144 hr.1, quo_4096 hr.1, quo_64 hr.1, rem_64 hr.1, w64_id (x := r / 262144) ⟨by omega, by omega⟩, w64_id (x := r / 4096) ⟨by omega, by omega⟩, w64_id (x := r / 64) ⟨by omega, by omega⟩, rem_64 (r := r / 4096) (by omega), rem_64 (r := r / 64) (by omega), ub_small (by omega), ub_small (by omega), ub_small (by omega), ub_small (by omega)]; rfl
  · have hs' : scalar r = false := by simpa using hs
    have hr : ¬ (0 ≤ r ∧ r ≤ 1114111 ∧ (r < 55296 ∨ 57343 < r)) := fun h => hs (scalar_iff.2 h)
    have e : (if r < 0 then some true else if r > 1114111 then some true else if r ≥ 55296 then some (decide (r ≤ 57343)) else some false : Option Bool) = some true := by
      by_cases h1 : r < 0
      · rw [if_pos h1]
      · by_cases h2 : r > 1114111
        · rw [if_neg h1, if_pos h2]
        · rw [if_neg h1, if_neg h2, if_pos (by omega), decide_eq_true (by omega)]
    rw [e, bnd_some', if_pos rfl, putB_nil hs']
/-! ### the document's -/
theorem more_eq (s : List UInt8) (i t : Nat) (hi : i < s.length) (hs : s.length ≤ 1000000) (ht : t ≤ 3) : ref01_more s (w64 ((i : Int) + ((t : Int) + 1))) = some (decide (t + 1 ≤ (s.drop (i + 1)).length ∧ 128 ≤ (((s.drop (i + 1)).getD t 0).toNat : Int) ∧ (((s.drop (i + 1)).getD t 0).toNat : Int) ≤ 191)) ∧ (t + 1 ≤ (s.drop (i + 1)).length → idx s (w64 ((i : Int) + ((t : Int) + 1))) = some ((s.drop (i + 1)).getD t 0)) := by
  rw [w64_id ⟨by omega, by omega⟩]
  have hlen : (s.drop (i + 1)).length = s.length - (i + 1) := List.length_drop
  have hidx : t + 1 ≤ (s.drop (i + 1)).length → idx s ((i : Int) + ((t : Int) + 1)) = some ((s.drop (i + 1)).getD t 0) := fun h => by
    rw [hlen] at h
    have hlt : i + 1 + t < s.length := by omega
    rw [show (i : Int) + ((t : Int) + 1) = ((i + 1 + t : Nat) : Int) by omega, idx_nat (List.getElem?_eq_getElem hlt)]
    rw [List.getD_eq_getElem?_getD, List.getElem?_drop, List.getElem?_eq_getElem hlt]; rfl
  refine ⟨?_, hidx⟩
  unfold ref01_more
  by_cases h : t + 1 ≤ (s.drop (i + 1)).length
  · rw [if_pos (by rw [hlen] at h; omega), hidx h, bnd_some']
    by_cases h2 : (((s.drop (i + 1)).getD t 0).toNat : Int) ≥ 128
    · rw [if_pos h2, bnd_some']; congr 1; rw [Bool.eq_iff_iff]; simp only [decide_eq_true_eq]; omega
    · rw [if_neg h2, bnd_some', decide_eq_false (by omega)]
  · rw [if_neg (by rw [hlen] at h; omega), bnd_some', decide_eq_false (by omega)]
theorem At_eqU (s : List UInt8) (i : Int) (hs : s.length ≤ 1000000) : ref01_At s i = some (atS s i) := by
  by_cases h : 0 ≤ i ∧ i < (s.length : Int)
  · rw [atS, if_pos h]
    have hlt : i.toNat < s.length := by omega
    have hi : ((i.toNat : Nat) : Int) = i := by omega
    obtain ⟨m0, g0⟩ := more_eq s i.toNat 0 hlt hs (by omega)
    obtain ⟨m1, g1⟩ := more_eq s i.toNat 1 hlt hs (by omega)
    obtain ⟨m2, g2⟩ := more_eq s i.toNat 2 hlt hs (by omega)
    rw [hi] at m0 g0 m1 g1 m2 g2
    rw [List.drop_eq_getElem_cons hlt, dec_ref]
    generalize hk : s.drop (i.toNat + 1) = L at *
    have hx := (L.getD 0 0).toNat_lt
    have hy := (L.getD 1 0).toNat_lt
    have hz := (L.getD 2 0).toNat_lt
    have hc := (s[i.toNat]).toNat_lt
    have hidx : idx s i = some s[i.toNat] := idx_int h.1 (List.getElem?_eq_getElem hlt)
    generalize s[i.toNat] = b at *
    rw [show (((0 : Nat) : Int) + 1) = 1 from rfl] at m0 g0
    rw [show (((1 : Nat) : Int) + 1) = 2 from rfl] at m1 g1
    rw [show (((2 : Nat) : Int) + 1) = 3 from rfl] at m2 g2
    generalize L.getD 0 0 = x at *
    generalize L.getD 1 0 = y at *
    generalize L.getD 2 0 = z at *
    generalize L.length = k at *
    have ff : ¬ (false = true) := Bool.false_ne_true
    unfold ref01_At
    rw [if_neg (by omega), decide_eq_false (by omega), bnd_some', if_neg ff, hidx, bnd_some']
    by_cases c1 : (b.toNat : Int) < 128
    · rw [show refL b.toNat x.toNat y.toNat z.toNat k = ((b.toNat : Int), 1) by unfold refL; rw [if_pos c1], if_pos c1]
    · rw [if_neg c1]
      by_cases c2 : 192 ≤ (b.toNat : Int) ∧ (b.toNat : Int) < 224
      · have n3 : ¬ (b.toNat : Int) ≥ 224 := by omega
        have n4 : ¬ (b.toNat : Int) ≥ 240 := by omega
        rw [if_pos (show (b.toNat : Int) ≥ 192 by omega), if_pos (show (b.toNat : Int) < 224 by omega), m0, bnd_some', bnd_some']
        by_cases p1 : 0 + 1 ≤ k ∧ 128 ≤ (x.toNat : Int) ∧ (x.toNat : Int) ≤ 191
        · rw [decide_eq_true p1, if_pos rfl, g0 p1.1, bnd_some', bnd_some']
          rw [w64_id (x := (b.toNat : Int) - 192) ⟨by omega, by omega⟩, w64_id (x := ((b.toNat : Int) - 192) * 64) ⟨by omega, by omega⟩, w64_id (x := ((b.toNat : Int) - 192) * 64 + (x.toNat : Int)) ⟨by omega, by omega⟩, w64_id (x := ((b.toNat : Int) - 192) * 64 + (x.toNat : Int) - 128) ⟨by omega, by omega⟩]
          by_cases v : ((b.toNat : Int) - 192) * 64 + (x.toNat : Int) - 128 ≥ 128
          · rw [if_pos v, bnd_some', show refL b.toNat x.toNat y.toNat z.toNat k = (((b.toNat : Int) - 192) * 64 + (x.toNat : Int) - 128, 2) by unfold refL; rw [if_neg c1, if_pos ⟨c2.1, c2.2, ⟨by omega, p1.2.1, p1.2.2⟩, v⟩]]
          · rw [if_neg v, bnd_some']
            dsimp only
            rw [if_neg n3, bnd_some', if_neg ff, bnd_some']
            dsimp only
            rw [if_neg n4, bnd_some', if_neg ff, bnd_some']
            rw [show refL b.toNat x.toNat y.toNat z.toNat k = (-1, 1) by unfold refL; rw [if_neg c1, if_neg (by omega), if_neg (by omega), if_neg (by omega)]]
        · rw [decide_eq_false p1, if_neg ff, bnd_some']
          dsimp only
          rw [if_neg n3, bnd_some', if_neg ff, bnd_some']
          dsimp only
          rw [if_neg n4, bnd_some', if_neg ff, bnd_some']
          rw [show refL b.toNat x.toNat y.toNat z.toNat k = (-1, 1) by unfold refL; rw [if_neg c1, if_neg (by omega), if_neg (by omega), if_neg (by omega)]]
      · have e2 : (if (b.toNat : Int) ≥ 192 then if (b.toNat : Int) < 224 then bnd (ref01_more s (w64 (i + 1))) fun x9 => some x9 else some false else some false : Option Bool) = some false := by
          by_cases q : (b.toNat : Int) ≥ 192
          · rw [if_pos q, if_neg (by omega)]
          · rw [if_neg q]
        rw [e2, bnd_some', if_neg ff, bnd_some']
        dsimp only
        by_cases c3 : 224 ≤ (b.toNat : Int) ∧ (b.toNat : Int) < 240
        · have n4 : ¬ (b.toNat : Int) ≥ 240 := by omega
          rw [if_pos (show (b.toNat : Int) ≥ 224 by omega), if_pos (show (b.toNat : Int) < 240 by omega), m0, bnd_some']
          by_cases p1 : 0 + 1 ≤ k ∧ 128 ≤ (x.toNat : Int) ∧ (x.toNat : Int) ≤ 191
          · rw [decide_eq_true p1, if_pos rfl, m1, bnd_some', bnd_some']
            by_cases p2 : 1 + 1 ≤ k ∧ 128 ≤ (y.toNat : Int) ∧ (y.toNat : Int) ≤ 191
            · rw [decide_eq_true p2, if_pos rfl, g0 p1.1, bnd_some', bnd_some', g1 p2.1, bnd_some']
              rw [w64_id (x := (b.toNat : Int) - 224) ⟨by omega, by omega⟩, w64_id (x := ((b.toNat : Int) - 224) * 4096) ⟨by omega, by omega⟩, w64_id (x := (x.toNat : Int) - 128) ⟨by omega, by omega⟩, w64_id (x := ((x.toNat : Int) - 128) * 64) ⟨by omega, by omega⟩, w64_id (x := ((b.toNat : Int) - 224) * 4096 + ((x.toNat : Int) - 128) * 64) ⟨by omega, by omega⟩, w64_id (x := ((b.toNat : Int) - 224) * 4096 + ((x.toNat : Int) - 128) * 64 + (y.toNat : Int)) ⟨by omega, by omega⟩, w64_id (x := ((b.toNat : Int) - 224) * 4096 + ((x.toNat : Int) - 128) * 64 + (y.toNat : Int) - 128) ⟨by omega, by omega⟩]
              by_cases v : ((b.toNat : Int) - 224) * 4096 + ((x.toNat : Int) - 128) * 64 + (y.toNat : Int) - 128 ≥ 2048
              · rw [if_pos v]
                by_cases u : ((b.toNat : Int) - 224) * 4096 + ((x.toNat : Int) - 128) * 64 + (y.toNat : Int) - 128 < 55296
                · rw [if_pos u, bnd_some', if_pos rfl, bnd_some', show refL b.toNat x.toNat y.toNat z.toNat k = (((b.toNat : Int) - 224) * 4096 + ((x.toNat : Int) - 128) * 64 + (y.toNat : Int) - 128, 3) by unfold refL; rw [if_neg c1, if_neg (by omega), if_pos ⟨c3.1, c3.2, ⟨by omega, p1.2.1, p1.2.2⟩, ⟨by omega, p2.2.1, p2.2.2⟩, v, .inl u⟩]]
                · rw [if_neg u, bnd_some']
                  by_cases u2 : ((b.toNat : Int) - 224) * 4096 + ((x.toNat : Int) - 128) * 64 + (y.toNat : Int) - 128 > 57343
                  · rw [decide_eq_true u2, if_pos rfl, bnd_some', show refL b.toNat x.toNat y.toNat z.toNat k = (((b.toNat : Int) - 224) * 4096 + ((x.toNat : Int) - 128) * 64 + (y.toNat : Int) - 128, 3) by unfold refL; rw [if_neg c1, if_neg (by omega), if_pos ⟨c3.1, c3.2, ⟨by omega, p1.2.1, p1.2.2⟩, ⟨by omega, p2.2.1, p2.2.2⟩, v, .inr u2⟩]]
                  · rw [decide_eq_false u2, if_neg ff, bnd_some']
                    dsimp only
                    rw [if_neg n4, bnd_some', if_neg ff, bnd_some']
                    rw [show refL b.toNat x.toNat y.toNat z.toNat k = (-1, 1) by unfold refL; rw [if_neg c1, if_neg (by omega), if_neg (by omega), if_neg (by omega)]]
              · rw [if_neg v, bnd_some', if_neg ff, bnd_some']
                dsimp only
                rw [if_neg n4, bnd_some', if_neg ff, bnd_some']
                rw [show refL b.toNat x.toNat y.toNat z.toNat k = (-1, 1) by unfold refL; rw [if_neg c1, if_neg (by omega), if_neg (by omega), if_neg (by omega)]]
            · rw [decide_eq_false p2, if_neg ff, bnd_some']
              dsimp only
              rw [if_neg n4, bnd_some', if_neg ff, bnd_some']
              rw [show refL b.toNat x.toNat y.toNat z.toNat k = (-1, 1) by unfold refL; rw [if_neg c1, if_neg (by omega), if_neg (by omega), if_neg (by omega)]]
          · rw [decide_eq_false p1, if_neg ff, bnd_some', if_neg ff, bnd_some']
            dsimp only
            rw [if_neg n4, bnd_some', if_neg ff, bnd_some']
            rw [show refL b.toNat x.toNat y.toNat z.toNat k = (-1, 1) by unfold refL; rw [if_neg c1, if_neg (by omega), if_neg (by omega), if_neg (by omega)]]
        · have e3 : (if (b.toNat : Int) ≥ 224 then if (b.toNat : Int) < 240 then bnd (ref01_more s (w64 (i + 1))) fun x19 => if x19 = true then bnd (ref01_more s (w64 (i + 2))) fun x21 => some x21 else some false else some false else some false : Option Bool) = some false := by
            by_cases q : (b.toNat : Int) ≥ 224
            · rw [if_pos q, if_neg (by omega)]
            · rw [if_neg q]
          rw [e3, bnd_some', if_neg ff, bnd_some']
          dsimp only
          have no4 : ∀ (h : ¬ (240 ≤ (b.toNat : Int) ∧ (b.toNat : Int) < 248 ∧ (1 ≤ k ∧ 128 ≤ (x.toNat : Int) ∧ (x.toNat : Int) ≤ 191) ∧ (2 ≤ k ∧ 128 ≤ (y.toNat : Int) ∧ (y.toNat : Int) ≤ 191) ∧ (3 ≤ k ∧ 128 ≤ (z.toNat : Int) ∧ (z.toNat : Int) ≤ 191) ∧ 65536 ≤ ((b.toNat : Int) - 240) * 262144 + ((x.toNat : Int) - 128) * 4096 + ((y.toNat : Int) - 128) * 64 + (z.toNat : Int) - 128 ∧
      ((b.toNat : Int) - 240) * 262144 + ((x.toNat : Int) - 128) * 4096 + ((y.toNat : Int) - 128) * 64 + (z.toNat : Int) - 128 ≤ 1114111)), refL b.toNat x.toNat y.toNat z.toNat k = (-1, 1) := fun h => by
            unfold refL
            rw [if_neg c1, if_neg (by omega), if_neg (by omega), if_neg h]
          by_cases c4 : 240 ≤ (b.toNat : Int) ∧ (b.toNat : Int) < 248
          · rw [if_pos (show (b.toNat : Int) ≥ 240 by omega), if_pos (show (b.toNat : Int) < 248 by omega), m0, bnd_some']
            by_cases p1 : 0 + 1 ≤ k ∧ 128 ≤ (x.toNat : Int) ∧ (x.toNat : Int) ≤ 191
            · rw [decide_eq_true p1, if_pos rfl, m1, bnd_some']
              by_cases p2 : 1 + 1 ≤ k ∧ 128 ≤ (y.toNat : Int) ∧ (y.toNat : Int) ≤ 191
              · rw [decide_eq_true p2, if_pos rfl, m2, bnd_some', bnd_some']
                by_cases p3 : 2 + 1 ≤ k ∧ 128 ≤ (z.toNat : Int) ∧ (z.toNat : Int) ≤ 191
                · rw [decide_eq_true p3, if_pos rfl, g0 p1.1, bnd_some', bnd_some', g1 p2.1, bnd_some', g2 p3.1, bnd_some', bnd_some']
                  rw [w64_id (x := (b.toNat : Int) - 240) ⟨by omega, by omega⟩, w64_id (x := ((b.toNat : Int) - 240) * 262144) ⟨by omega, by omega⟩, w64_id (x := (x.toNat : Int) - 128) ⟨by omega, by omega⟩, w64_id (x := ((x.toNat : Int) - 128) * 4096) ⟨by omega, by omega⟩, w64_id (x := ((b.toNat : Int) - 240) * 262144 + ((x.toNat : Int) - 128) * 4096) ⟨by omega, by omega⟩, w64_id (x := (y.toNat : Int) - 128) ⟨by omega, by omega⟩, w64_id (x := ((y.toNat : Int) - 128) * 64) ⟨by omega, by omega⟩, w64_id (x := ((b.toNat : Int) - 240) * 262144 + ((x.toNat : Int) - 128) * 4096 + ((y.toNat : Int) - 128) * 64) ⟨by omega, by omega⟩, w64_id (x := ((b.toNat : Int) - 240) * 262144 + ((x.toNat : Int) - 128) * 4096 + ((y.toNat : Int) - 128) * 64 + (z.toNat : Int)) ⟨by omega, by omega⟩, w64_id (x := ((b.toNat : Int) - 240) * 262144 + ((x.toNat : Int) - 128) * 4096 + ((y.toNat : Int) - 128) * 64 + (z.toNat : Int) - 128) ⟨by omega, by omega⟩]
                  by_cases v : ((b.toNat : Int) - 240) * 262144 + ((x.toNat : Int) - 128) * 4096 + ((y.toNat : Int) - 128) * 64 + (z.toNat : Int) - 128 ≥ 65536
                  · rw [if_pos v, bnd_some']
                    by_cases u : ((b.toNat : Int) - 240) * 262144 + ((x.toNat : Int) - 128) * 4096 + ((y.toNat : Int) - 128) * 64 + (z.toNat : Int) - 128 ≤ 1114111
                    · rw [decide_eq_true u, if_pos rfl, bnd_some', show refL b.toNat x.toNat y.toNat z.toNat k = (((b.toNat : Int) - 240) * 262144 + ((x.toNat : Int) - 128) * 4096 + ((y.toNat : Int) - 128) * 64 + (z.toNat : Int) - 128, 4) by unfold refL; rw [if_neg c1, if_neg (by omega), if_neg (by omega), if_pos ⟨c4.1, c4.2, ⟨by omega, p1.2.1, p1.2.2⟩, ⟨by omega, p2.2.1, p2.2.2⟩, ⟨by omega, p3.2.1, p3.2.2⟩, v, u⟩]]
                    · rw [decide_eq_false u, if_neg ff, bnd_some', no4 (by omega)]
                  · rw [if_neg v, bnd_some', if_neg ff, bnd_some', no4 (by omega)]
                · rw [decide_eq_false p3, if_neg ff, bnd_some', no4 (by omega)]
              · rw [decide_eq_false p2, if_neg ff, bnd_some', if_neg ff, bnd_some', no4 (by omega)]
            · rw [decide_eq_false p1, if_neg ff, bnd_some', if_neg ff, bnd_some', no4 (by omega)]
          · rw [no4 (by omega)]
            by_cases q : (b.toNat : Int) ≥ 240
            · rw [if_pos q, if_neg (by omega), bnd_some', if_neg ff, bnd_some']
            · rw [if_neg q, bnd_some', if_neg ff, bnd_some']
  · unfold ref01_At
    rw [atS, if_neg h]
    by_cases h0 : i < 0
    · rw [if_pos h0, bnd_some', if_pos rfl]
    · rw [if_neg h0, decide_eq_true (by omega), bnd_some', if_pos rfl]
end Go.Proofs.YtlginjmkmfodmaaDoor.S
