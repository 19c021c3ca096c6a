/- Package utf: the document's own At and decode tell the same. -/
import Derived.Test.YtbogkjbjgcclnaaUtfH
namespace Go.Proofs.Ytbogkjbjgcclnaa
open Go Go.Am
/-- What the document tells of a first byte and up to three that follow, of which so many are there. -/
def refL (c x y z : Int) (k : Nat) : Int × Int :=
  if c < 128 then (c, 1)
  else if 192 ≤ c ∧ c < 224 ∧ (1 ≤ k ∧ 128 ≤ x ∧ x ≤ 191) ∧ 128 ≤ (c - 192) * 64 + x - 128 then ((c - 192) * 64 + x - 128, 2)
  else if 224 ≤ c ∧ c < 240 ∧ (1 ≤ k ∧ 128 ≤ x ∧ x ≤ 191) ∧ (2 ≤ k ∧ 128 ≤ y ∧ y ≤ 191) ∧ 2048 ≤ (c - 224) * 4096 + (x - 128) * 64 + y - 128 ∧
      ((c - 224) * 4096 + (x - 128) * 64 + y - 128 < 55296 ∨ (c - 224) * 4096 + (x - 128) * 64 + y - 128 > 57343) then
    ((c - 224) * 4096 + (x - 128) * 64 + y - 128, 3)
  else if 240 ≤ c ∧ c < 248 ∧ (1 ≤ k ∧ 128 ≤ x ∧ x ≤ 191) ∧ (2 ≤ k ∧ 128 ≤ y ∧ y ≤ 191) ∧ (3 ≤ k ∧ 128 ≤ z ∧ z ≤ 191) ∧ 65536 ≤ (c - 240) * 262144 + (x - 128) * 4096 + (y - 128) * 64 + z - 128 ∧
      (c - 240) * 262144 + (x - 128) * 4096 + (y - 128) * 64 + z - 128 ≤ 1114111 then
    ((c - 240) * 262144 + (x - 128) * 4096 + (y - 128) * 64 + z - 128, 4)
  else (-1, 1)
theorem cont1 {r : Int} {x : UInt8} : cont r [x] = if 128 ≤ x.toNat ∧ x.toNat < 192 then some (r * 64 + (x.toNat % 64 : Nat)) else none := rfl
theorem contS {r : Int} {x : UInt8} {l : List UInt8} : cont r (x :: l) = if 128 ≤ x.toNat ∧ x.toNat < 192 then cont (r * 64 + (x.toNat % 64 : Nat)) l else none := rfl
/-- The last test. -/
theorem last_if {m r : Int} {p : Prop} [Decidable p] {a b : Int × Int} (h : p ↔ (0 ≤ r ∧ r ≤ 1114111 ∧ (r < 55296 ∨ 57343 < r)) ∧ ¬ r < least m) : (if scalar r = true ∧ ¬ r < least m then a else b) = if p then a else b := by
  by_cases hp : p
  · rw [if_pos hp, if_pos ⟨by unfold scalar; exact decide_eq_true (h.1 hp).1, (h.1 hp).2⟩]
  · rw [if_neg hp, if_neg (fun h' => hp (h.2 ⟨by have := h'.1; unfold scalar at this; exact of_decide_eq_true this, h'.2⟩))]
theorem l0 : least 0 = 0 := by decide +kernel
theorem l1 : least 1 = 128 := by decide +kernel
theorem l2 : least 2 = 2048 := by decide +kernel
theorem l3 : least 3 = 65536 := by decide +kernel
theorem dec_ref (b : UInt8) (l : List UInt8) : dec (b :: l) = refL b.toNat (l.getD 0 0).toNat (l.getD 1 0).toNat (l.getD 2 0).toNat l.length := by
  have hb := b.toNat_lt
  by_cases h1 : b.toNat < 128
  · have hL : lead b.toNat = (0, (b.toNat : Int)) := by unfold lead; rw [if_pos h1]
    rw [dec_yes hL (by omega)]
    show (if _ then _ else _) = _
    rw [last_if (p := True) (by rw [l0]; constructor <;> intro <;> first | trivial | omega), if_pos trivial]
    unfold refL
    rw [if_pos (by omega)]; rfl
  by_cases h2 : 194 ≤ b.toNat ∧ b.toNat ≤ 223
  · have hL : lead b.toNat = (1, ((b.toNat % 32 : Nat) : Int)) := by unfold lead; rw [if_neg h1, if_pos h2]
    cases l with
    | nil =>
      rw [dec_no hL (by right; simp)]
      unfold refL
      simp only [List.length_nil]
      rw [if_neg (by omega), if_neg (by omega), if_neg (by omega), if_neg (by omega)]
    | cons x l =>
      rw [dec_yes hL (by simp only [List.length_cons]; omega)]
      show (match cont _ [x] with | none => _ | some r => _) = _
      simp only [List.getD_cons_zero, List.length_cons]
      have hx := x.toNat_lt
      rw [cont1]
      by_cases hx1 : 128 ≤ x.toNat ∧ x.toNat < 192
      · rw [if_pos hx1]
        show (if _ then _ else _) = _
        rw [if_pos ⟨by unfold scalar; exact decide_eq_true (by omega), by rw [l1]; omega⟩]
        unfold refL
        rw [if_neg (by omega), if_pos (by omega)]
        exact Prod.ext (by show _ = _; omega) rfl
      · rw [if_neg hx1]
        show (-1, 1) = _
        unfold refL
        rw [if_neg (by omega), if_neg (by omega), if_neg (by omega), if_neg (by omega)]
  by_cases h3 : 224 ≤ b.toNat ∧ b.toNat ≤ 239
  · have hL : lead b.toNat = (2, ((b.toNat % 16 : Nat) : Int)) := by unfold lead; rw [if_neg h1, if_neg h2, if_pos h3]
    match l with
    | [] =>
      rw [dec_no hL (by right; simp only [List.length_nil]; omega)]
      unfold refL
      simp only [List.length_nil]
      rw [if_neg (by omega), if_neg (by omega), if_neg (by omega), if_neg (by omega)]
    | [x] =>
      rw [dec_no hL (by right; simp only [List.length_cons, List.length_nil]; omega)]
      unfold refL
      simp only [List.length_cons, List.length_nil]
      rw [if_neg (by omega), if_neg (by omega), if_neg (by omega), if_neg (by omega)]
    | x :: y :: l =>
      rw [dec_yes hL (by simp only [List.length_cons]; omega)]
      show (match cont _ [x, y] with | none => _ | some r => _) = _
      simp only [List.getD_cons_zero, List.getD_cons_succ, List.length_cons]
      have hx := x.toNat_lt
      have hy := y.toNat_lt
      rw [contS]
      by_cases hx1 : 128 ≤ x.toNat ∧ x.toNat < 192
      · rw [if_pos hx1, cont1]
        by_cases hy1 : 128 ≤ y.toNat ∧ y.toNat < 192
        · rw [if_pos hy1]
          show (if _ then _ else _) = _
          have e : (((b.toNat % 16 : Nat) : Int) * 64 + (x.toNat % 64 : Nat)) * 64 + (y.toNat % 64 : Nat) = ((b.toNat : Int) - 224) * 4096 + ((x.toNat : Int) - 128) * 64 + y.toNat - 128 := by omega
          rw [e, last_if (p := 2048 ≤ ((b.toNat : Int) - 224) * 4096 + ((x.toNat : Int) - 128) * 64 + y.toNat - 128 ∧ (((b.toNat : Int) - 224) * 4096 + ((x.toNat : Int) - 128) * 64 + y.toNat - 128 < 55296 ∨ ((b.toNat : Int) - 224) * 4096 + ((x.toNat : Int) - 128) * 64 + y.toNat - 128 > 57343)) (by rw [l2]; omega)]
          split
          · unfold refL
            rw [if_neg (by omega), if_neg (by omega), if_pos (by omega)]; rfl
          · unfold refL
            rw [if_neg (by omega), if_neg (by omega), if_neg (by omega), if_neg (by omega)]
        · rw [if_neg hy1]
          show (-1, 1) = _
          unfold refL
          rw [if_neg (by omega), if_neg (by omega), if_neg (by omega), if_neg (by omega)]
      · rw [if_neg hx1]
        show (-1, 1) = _
        unfold refL
        rw [if_neg (by omega), if_neg (by omega), if_neg (by omega), if_neg (by omega)]
  by_cases h4 : 240 ≤ b.toNat ∧ b.toNat ≤ 244
  · have hL : lead b.toNat = (3, ((b.toNat % 8 : Nat) : Int)) := by unfold lead; rw [if_neg h1, if_neg h2, if_neg h3, if_pos h4]
    match l with
    | [] =>
      rw [dec_no hL (by right; simp only [List.length_nil]; omega)]
      unfold refL
      simp only [List.length_nil]
      rw [if_neg (by omega), if_neg (by omega), if_neg (by omega), if_neg (by omega)]
    | [x] =>
      rw [dec_no hL (by right; simp only [List.length_cons, List.length_nil]; omega)]
      unfold refL
      simp only [List.length_cons, List.length_nil]
      rw [if_neg (by omega), if_neg (by omega), if_neg (by omega), if_neg (by omega)]
    | [x, y] =>
      rw [dec_no hL (by right; simp only [List.length_cons, List.length_nil]; omega)]
      unfold refL
      simp only [List.length_cons, List.length_nil]
      rw [if_neg (by omega), if_neg (by omega), if_neg (by omega), if_neg (by omega)]
    | x :: y :: z :: l =>
      rw [dec_yes hL (by simp only [List.length_cons]; omega)]
      show (match cont _ [x, y, z] with | none => _ | some r => _) = _
      simp only [List.getD_cons_zero, List.getD_cons_succ, List.length_cons]
      have hx := x.toNat_lt
      have hy := y.toNat_lt
      have hz := z.toNat_lt
      rw [contS]
      by_cases hx1 : 128 ≤ x.toNat ∧ x.toNat < 192
      · rw [if_pos hx1, contS]
        by_cases hy1 : 128 ≤ y.toNat ∧ y.toNat < 192
        · rw [if_pos hy1, cont1]
          by_cases hz1 : 128 ≤ z.toNat ∧ z.toNat < 192
          · rw [if_pos hz1]
            show (if _ then _ else _) = _
            have e : ((((b.toNat % 8 : Nat) : Int) * 64 + (x.toNat % 64 : Nat)) * 64 + (y.toNat % 64 : Nat)) * 64 + (z.toNat % 64 : Nat) = ((b.toNat : Int) - 240) * 262144 + ((x.toNat : Int) - 128) * 4096 + ((y.toNat : Int) - 128) * 64 + z.toNat - 128 := by omega
            rw [e, last_if (p := 65536 ≤ ((b.toNat : Int) - 240) * 262144 + ((x.toNat : Int) - 128) * 4096 + ((y.toNat : Int) - 128) * 64 + z.toNat - 128 ∧ ((b.toNat : Int) - 240) * 262144 + ((x.toNat : Int) - 128) * 4096 + ((y.toNat : Int) - 128) * 64 + z.toNat - 128 ≤ 1114111) (by rw [l3]; omega)]
            split
            · unfold refL
              rw [if_neg (by omega), if_neg (by omega), if_neg (by omega), if_pos (by omega)]; rfl
            · unfold refL
              rw [if_neg (by omega), if_neg (by omega), if_neg (by omega), if_neg (by omega)]
          · rw [if_neg hz1]
            show (-1, 1) = _
            unfold refL
            rw [if_neg (by omega), if_neg (by omega), if_neg (by omega), if_neg (by omega)]
        · rw [if_neg hy1]
          show (-1, 1) = _
          unfold refL
          rw [if_neg (by omega), if_neg (by omega), if_neg (by omega), if_neg (by omega)]
      · rw [if_neg hx1]
        show (-1, 1) = _
        unfold refL
        rw [if_neg (by omega), if_neg (by omega), if_neg (by omega), if_neg (by omega)]
  have hL : lead b.toNat = (-1, 0) := by unfold lead; rw [if_neg h1, if_neg h2, if_neg h3, if_neg h4]
  rw [dec_no hL (by omega)]
  have hx : 0 ≤ ((l.getD 0 0).toNat : Int) ∧ ((l.getD 0 0).toNat : Int) < 256 := by have := (l.getD 0 0).toNat_lt; omega
  unfold refL
  rw [if_neg (by omega), if_neg (by omega), if_neg (by omega), if_neg (by omega)]
theorem refAt_eq (s : ByteArray) (i : Int) : refAt s i = atS s.data.toList i := by
  have hsz : (s.size : Int) = (s.data.toList.length : Int) := rfl
  by_cases h : 0 ≤ i ∧ i < (s.data.toList.length : Int)
  · rw [atS, if_pos h]
    have hlt : i.toNat < s.data.toList.length := by omega
    have hg : ∀ k : Nat, ((((s.data.toList.drop (i.toNat + 1)).getD k 0).toNat : Nat) : Int) = gS s (i + (k + 1 : Nat)) := fun k => by
      unfold gS
      rw [show (i + (k + 1 : Nat)).toNat = i.toNat + 1 + k by omega]
      simp [List.getD_eq_getElem?_getD]
    have h0 : (((s.data.toList[i.toNat]'hlt).toNat : Nat) : Int) = gS s i := by
      unfold gS
      rw [List.getD_eq_getElem?_getD, List.getElem?_eq_getElem hlt]; rfl
    rw [List.drop_eq_getElem_cons hlt, dec_ref, h0, hg 0, hg 1, hg 2]
    have hL : (s.data.toList.drop (i.toNat + 1)).length = s.data.toList.length - (i.toNat + 1) := List.length_drop
    have k1 : (1 ≤ (s.data.toList.drop (i.toNat + 1)).length) = (i + 1 < (s.size : Int)) := propext (by rw [hL]; omega)
    have k2 : (2 ≤ (s.data.toList.drop (i.toNat + 1)).length) = (i + 2 < (s.size : Int)) := propext (by rw [hL]; omega)
    have k3 : (3 ≤ (s.data.toList.drop (i.toNat + 1)).length) = (i + 3 < (s.size : Int)) := propext (by rw [hL]; omega)
    unfold refAt refL moS
    rw [if_neg (by omega)]
    simp only [k1, k2, k3]
    rfl
  · rw [atS, if_neg h, refAt, if_pos (by omega)]
theorem At_c (s : ByteArray) (i : Int) (hl : s.size ≤ 4611686018427387904) : CallE X 44 [.val (.string s), .val (.int .i64 i)] (.tup [.val (.int .i64 (atS s.data.toList i).1), .val (.int .i64 (atS s.data.toList i).2)]) := by
  rw [← refAt_eq]; exact refAt_c s i hl
end Go.Proofs.Ytbogkjbjgcclnaa
