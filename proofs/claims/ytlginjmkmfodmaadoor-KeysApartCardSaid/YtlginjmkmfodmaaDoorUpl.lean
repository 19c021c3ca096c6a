/- Chapter 1's bytes as characters, told plainly: what is decoded, where boundaries are. -/
import Derived.Test.YtlginjmkmfodmaaDoorSD
import Derived.Test.YtlginjmkmfodmaaDoorSF
set_option linter.unusedVariables false
namespace Go.Proofs.YtlginjmkmfodmaaDoor.S
open Go Go.Sm
theorem wrapI {x : Int} (h : -9223372036854775808 ≤ x ∧ x ≤ 9223372036854775807) : IntKind.i64.wrap x = x := w64_id h
/-- What a first byte says: how many follow, and what it brings. -/
def lead (c : Nat) : Int × Int :=
  if c < 128 then (0, c) else if 194 ≤ c ∧ c ≤ 223 then (1, (c % 32 : Nat)) else if 224 ≤ c ∧ c ≤ 239 then (2, (c % 16 : Nat)) else if 240 ≤ c ∧ c ≤ 244 then (3, (c % 8 : Nat)) else (-1, 0)
def least (m : Int) : Int := if m = 1 then 128 else if m = 2 then 2048 else if m = 3 then 65536 else 0
def scalar (r : Int) : Bool := decide (0 ≤ r ∧ r ≤ 1114111 ∧ (r < 55296 ∨ 57343 < r))
theorem and31 : ∀ b : Nat, b < 256 → IntKind.u8.wrap ((BitVec.ofInt IntKind.u8.bits (b : Int) &&& BitVec.ofInt IntKind.u8.bits 31).toNat : Int) = ((b % 32 : Nat) : Int) := by decide +kernel
theorem and15 : ∀ b : Nat, b < 256 → IntKind.u8.wrap ((BitVec.ofInt IntKind.u8.bits (b : Int) &&& BitVec.ofInt IntKind.u8.bits 15).toNat : Int) = ((b % 16 : Nat) : Int) := by decide +kernel
theorem and7 : ∀ b : Nat, b < 256 → IntKind.u8.wrap ((BitVec.ofInt IntKind.u8.bits (b : Int) &&& BitVec.ofInt IntKind.u8.bits 7).toNat : Int) = ((b % 8 : Nat) : Int) := by decide +kernel
theorem and63 : ∀ b : Nat, b < 256 → IntKind.u8.wrap ((BitVec.ofInt IntKind.u8.bits (b : Int) &&& BitVec.ofInt IntKind.u8.bits 63).toNat : Int) = ((b % 64 : Nat) : Int) := by decide +kernel
theorem and192 : ∀ b : Nat, b < 256 → (IntKind.u8.wrap ((BitVec.ofInt IntKind.u8.bits (b : Int) &&& BitVec.ofInt IntKind.u8.bits 192).toNat : Int) = 128 ↔ (128 ≤ b ∧ b < 192)) := by decide +kernel
def cont : Int → List UInt8 → Option Int
  | r, [] => some r
  | r, c :: cs => if 128 ≤ c.toNat ∧ c.toNat < 192 then cont (r * 64 + (c.toNat % 64 : Nat)) cs else none
def dec : List UInt8 → Int × Int
  | [] => (-1, 1)
  | b :: bs =>
    if (lead b.toNat).1 < 0 ∨ (lead b.toNat).1 ≥ (bs.length : Int) + 1 then (-1, 1)
    else match cont (lead b.toNat).2 (bs.take (lead b.toNat).1.toNat) with
      | none => (-1, 1)
      | some r => if scalar r = true ∧ ¬ r < least (lead b.toNat).1 then (r, (lead b.toNat).1 + 1) else (-1, 1)
theorem pow64 : (2 : Nat) ^ IntKind.i64.bits = 18446744073709551616 := rfl
theorem toNat64 (m : Nat) (hm : m < 18446744073709551616) : (BitVec.ofInt IntKind.i64.bits (m : Int)).toNat = m := by
  show (BitVec.ofInt 64 (m : Int)).toNat = m
  rw [BitVec.ofInt_natCast, BitVec.toNat_ofNat, Nat.mod_eq_of_lt hm]
theorem or64 {r : Int} {c : Nat} (h0 : 0 ≤ r) (h1 : r ≤ 1000000000000) (hc : c < 64) :
    IntKind.i64.wrap ((BitVec.ofInt IntKind.i64.bits (IntKind.i64.wrap (r * 2 ^ (min 6 IntKind.i64.bits))) ||| BitVec.ofInt IntKind.i64.bits (IntKind.i64.wrap (c : Int))).toNat : Int) = r * 64 + c := by
  obtain ⟨n, rfl⟩ := Int.eq_ofNat_of_zero_le h0
  have e1 : ((n : Int) * 2 ^ (min 6 IntKind.i64.bits)) = ((n * 64 : Nat) : Int) := by
    have : (min 6 IntKind.i64.bits) = 6 := rfl
    rw [this]; push_cast; omega
  have f1 : IntKind.i64.wrap ((n * 64 : Nat) : Int) = ((n * 64 : Nat) : Int) := wrapI (by omega)
  have f2 : IntKind.i64.wrap (c : Int) = (c : Int) := wrapI (by omega)
  rw [e1, f1, f2, BitVec.toNat_or, toNat64 _ (by omega), toNat64 _ (by omega)]
  have e3 : n * 64 ||| c = n * 64 + c := by
    have := Nat.shiftLeft_add_eq_or_of_lt (b := c) (i := 6) (by omega) n
    rw [Nat.shiftLeft_eq] at this
    exact this.symm
  rw [e3, wrapI (by omega)]
  push_cast; rfl
theorem cont_drop {r : Int} {l : List UInt8} {j : Nat} {c : UInt8} (h : l[j]? = some c) : cont r (l.drop j) = if 128 ≤ c.toNat ∧ c.toNat < 192 then cont (r * 64 + (c.toNat % 64 : Nat)) (l.drop (j + 1)) else none := by
  obtain ⟨h1, h2⟩ := List.getElem?_eq_some_iff.1 h
  rw [List.drop_eq_getElem_cons h1, h2]; rfl
theorem lead_bd (m : Nat) (h : m < 256) : -1 ≤ (lead m).1 ∧ (lead m).1 ≤ 3 ∧ 0 ≤ (lead m).2 ∧ (lead m).2 < 128 := by
  unfold lead
  (repeat' split) <;> (dsimp only; omega)
theorem dec_no {b : UInt8} {bs : List UInt8} {m r0 : Int} (hL : lead b.toNat = (m, r0)) (h : m < 0 ∨ m ≥ (bs.length : Int) + 1) : dec (b :: bs) = (-1, 1) := by
  simp only [dec, hL]; exact if_pos h
theorem dec_yes {b : UInt8} {bs : List UInt8} {m r0 : Int} (hL : lead b.toNat = (m, r0)) (h : ¬ (m < 0 ∨ m ≥ (bs.length : Int) + 1)) :
    dec (b :: bs) = match cont r0 (bs.take m.toNat) with | none => (-1, 1) | some r => if scalar r = true ∧ ¬ r < least m then (r, m + 1) else (-1, 1) := by
  simp only [dec, hL]; exact if_neg h
theorem pow64_le {j : Nat} (h : j ≤ 3) : (64 : Int) ^ j ≤ 262144 := by
  have : j = 0 ∨ j = 1 ∨ j = 2 ∨ j = 3 := by omega
  rcases this with rfl | rfl | rfl | rfl <;> decide
def atS (bs : List UInt8) (i : Int) : Int × Int := if 0 ≤ i ∧ i < bs.length then dec (bs.drop i.toNat) else (-1, 0)
theorem atS_yes {bs : List UInt8} {i : Int} (h : decide (0 ≤ i ∧ i < (bs.length : Int)) = true) : atS bs i = dec (bs.drop i.toNat) := if_pos (of_decide_eq_true h)
theorem atS_no {bs : List UInt8} {i : Int} (h : decide (0 ≤ i ∧ i < (bs.length : Int)) = false) : atS bs i = (-1, 0) := if_neg (of_decide_eq_false h)
def headS (m : Int) : Int × Int := if m = 0 then (0, 128) else if m = 1 then (192, 32) else if m = 2 then (224, 16) else (240, 8)
/-- A number's bytes. -/
def putN (r : Int) : List Int :=
  if scalar r = true then
    if r < 128 then [r] else if r < 2048 then [192 + r / 64, 128 + r % 64] else if r < 65536 then [224 + r / 4096, 128 + r / 64 % 64, 128 + r % 64] else [240 + r / 262144, 128 + r / 4096 % 64, 128 + r / 64 % 64, 128 + r % 64]
  else []
theorem and63w {r : Int} (h0 : 0 ≤ r) (h1 : r ≤ 1000000000000) : IntKind.i64.wrap ((BitVec.ofInt IntKind.i64.bits r &&& BitVec.ofInt IntKind.i64.bits 63).toNat : Int) = r % 64 := by
  obtain ⟨n, rfl⟩ := Int.eq_ofNat_of_zero_le h0
  rw [BitVec.toNat_and, toNat64 _ (by omega), show (63 : Int) = ((63 : Nat) : Int) from rfl, toNat64 _ (by omega)]
  rw [show (63 : Nat) = 2 ^ 6 - 1 from rfl, Nat.and_two_pow_sub_one_eq_mod, wrapI (by omega)]
  push_cast; rfl
theorem or128 : ∀ x : Nat, x < 64 → IntKind.u8.wrap (IntKind.i64.wrap ((BitVec.ofInt IntKind.i64.bits 128 ||| BitVec.ofInt IntKind.i64.bits (x : Int)).toNat : Int)) = 128 + x := by decide +kernel
theorem or0 : ∀ x : Nat, x < 128 → IntKind.u8.wrap (IntKind.i64.wrap ((BitVec.ofInt IntKind.i64.bits (x : Int) ||| BitVec.ofInt IntKind.i64.bits 0).toNat : Int)) = x := by decide +kernel
theorem or192 : ∀ x : Nat, x < 32 → IntKind.u8.wrap (IntKind.i64.wrap ((BitVec.ofInt IntKind.i64.bits (x : Int) ||| BitVec.ofInt IntKind.i64.bits 192).toNat : Int)) = 192 + x := by decide +kernel
theorem or224 : ∀ x : Nat, x < 16 → IntKind.u8.wrap (IntKind.i64.wrap ((BitVec.ofInt IntKind.i64.bits (x : Int) ||| BitVec.ofInt IntKind.i64.bits 224).toNat : Int)) = 224 + x := by decide +kernel
theorem or240 : ∀ x : Nat, x < 8 → IntKind.u8.wrap (IntKind.i64.wrap ((BitVec.ofInt IntKind.i64.bits (x : Int) ||| BitVec.ofInt IntKind.i64.bits 240).toNat : Int)) = 240 + x := by decide +kernel
theorem or128w {r : Int} (h0 : 0 ≤ r) (h1 : r ≤ 1000000000000) : IntKind.u8.wrap (IntKind.i64.wrap ((BitVec.ofInt IntKind.i64.bits 128 ||| BitVec.ofInt IntKind.i64.bits (IntKind.i64.wrap ((BitVec.ofInt IntKind.i64.bits r &&& BitVec.ofInt IntKind.i64.bits 63).toNat : Int))).toNat : Int)) = 128 + r % 64 := by
  rw [and63w h0 h1]
  obtain ⟨n, hn⟩ := Int.eq_ofNat_of_zero_le (Int.emod_nonneg r (show (64 : Int) ≠ 0 by omega))
  rw [hn]; exact or128 n (by omega)
theorem shr6 (r : Int) : r.fdiv (2 ^ (min 6 IntKind.i64.bits)) = r / 64 := by
  rw [show (2 : Int) ^ (min 6 IntKind.i64.bits) = 64 from rfl, Int.fdiv_eq_ediv_of_nonneg _ (by omega)]
theorem head0 : headS (IntKind.i64.wrap (3 - 3)) = (0, 128) := by decide +kernel
theorem head1 : headS (IntKind.i64.wrap (3 - 2)) = (192, 32) := by decide +kernel
theorem head2 : headS (IntKind.i64.wrap (3 - 1)) = (224, 16) := by decide +kernel
theorem head3 : headS (IntKind.i64.wrap (3 - 0)) = (240, 8) := by decide +kernel
theorem w31 : IntKind.i64.wrap (3 - 1) = 2 := by decide +kernel
theorem w21 : IntKind.i64.wrap (2 - 1) = 1 := by decide +kernel
theorem w11 : IntKind.i64.wrap (1 - 1) = 0 := by decide +kernel
theorem or0w {r : Int} (h0 : 0 ≤ r) (h1 : r < 128) : IntKind.u8.wrap (IntKind.i64.wrap ((BitVec.ofInt IntKind.i64.bits r ||| BitVec.ofInt IntKind.i64.bits 0).toNat : Int)) = r := by
  obtain ⟨n, rfl⟩ := Int.eq_ofNat_of_zero_le h0; exact or0 n (by omega)
theorem or192w {r : Int} (h0 : 0 ≤ r) (h1 : r < 32) : IntKind.u8.wrap (IntKind.i64.wrap ((BitVec.ofInt IntKind.i64.bits r ||| BitVec.ofInt IntKind.i64.bits 192).toNat : Int)) = 192 + r := by
  obtain ⟨n, rfl⟩ := Int.eq_ofNat_of_zero_le h0; exact or192 n (by omega)
theorem or224w {r : Int} (h0 : 0 ≤ r) (h1 : r < 16) : IntKind.u8.wrap (IntKind.i64.wrap ((BitVec.ofInt IntKind.i64.bits r ||| BitVec.ofInt IntKind.i64.bits 224).toNat : Int)) = 224 + r := by
  obtain ⟨n, rfl⟩ := Int.eq_ofNat_of_zero_le h0; exact or224 n (by omega)
theorem or240w {r : Int} (h0 : 0 ≤ r) (h1 : r < 8) : IntKind.u8.wrap (IntKind.i64.wrap ((BitVec.ofInt IntKind.i64.bits r ||| BitVec.ofInt IntKind.i64.bits 240).toNat : Int)) = 240 + r := by
  obtain ⟨n, rfl⟩ := Int.eq_ofNat_of_zero_le h0; exact or240 n (by omega)
def classS (r : Int) : Int := if r = 32 ∨ (9 ≤ r ∧ r ≤ 13) then 0 else if r > 127 ∨ r = 95 ∨ (48 ≤ r ∧ r ≤ 57) ∨ (65 ≤ r ∧ r ≤ 90) ∨ (97 ≤ r ∧ r ≤ 122) then 1 else 2
theorem putN_bd {r n : Int} (h : n ∈ putN r) : 0 ≤ n ∧ n < 256 := by
  unfold putN at h
  split at h
  · rename_i hs
    have : 0 ≤ r ∧ r ≤ 1114111 := by unfold scalar at hs; have := of_decide_eq_true hs; omega
    (repeat' split at h) <;> simp only [List.mem_cons, List.not_mem_nil, or_false] at h <;> omega
  · cases h
def putB (r : Int) : List UInt8 := (putN r).map fun n => UInt8.ofNat n.toNat
theorem dec_size {bs : List UInt8} (h : bs ≠ []) : 1 ≤ (dec bs).2 ∧ (dec bs).2 ≤ bs.length := by
  cases bs with
  | nil => exact absurd rfl h
  | cons b bs =>
    have hb := lead_bd b.toNat b.toNat_lt
    unfold dec
    simp only [List.length_cons]
    split
    · dsimp only; omega
    · split
      · dsimp only; omega
      · split <;> dsimp only <;> omega
/-- The boundaries behind a place. -/
def bndF (bs : List UInt8) : Nat → Nat → List Nat
  | 0, _ => []
  | k + 1, at_ => if at_ < bs.length then (at_ + (dec (bs.drop at_)).2.toNat) :: bndF bs k (at_ + (dec (bs.drop at_)).2.toNat) else []
def bndU (bs : List UInt8) : List Nat := bndF bs bs.length 0
theorem step_bd {bs : List UInt8} {i : Nat} (h : i < bs.length) : 1 ≤ (dec (bs.drop i)).2.toNat ∧ i + (dec (bs.drop i)).2.toNat ≤ bs.length := by
  have := dec_size (bs := bs.drop i) (fun e => by have := congrArg List.length e; simp at this; omega)
  rw [List.length_drop] at this; omega
theorem bndF_fuel {bs : List UInt8} : ∀ (k m i : Nat), bs.length - i ≤ k → k ≤ m → bndF bs m i = bndF bs k i
  | 0, 0, _, _, _ => rfl
  | 0, m + 1, i, h, _ => by
    have : ¬ i < bs.length := by omega
    simp only [bndF, if_neg this]
  | k + 1, 0, _, _, hm => by omega
  | k + 1, m + 1, i, h, hm => by
    rw [bndF, bndF]
    split
    · rename_i hi
      have := step_bd hi
      rw [bndF_fuel k m _ (by omega) (by omega)]
    · rfl
/-- The boundaries behind a place, with fuel enough. -/
def bndA (bs : List UInt8) (i : Nat) : List Nat := bndF bs (bs.length - i) i
theorem bndA_no {bs : List UInt8} {i : Nat} (h : ¬ i < bs.length) : bndA bs i = [] := by
  unfold bndA; rw [show bs.length - i = 0 by omega]; rfl
theorem bndA_yes {bs : List UInt8} {i : Nat} (h : i < bs.length) : bndA bs i = (i + (dec (bs.drop i)).2.toNat) :: bndA bs (i + (dec (bs.drop i)).2.toNat) := by
  unfold bndA
  obtain ⟨k, hk⟩ : ∃ k, bs.length - i = k + 1 := ⟨bs.length - i - 1, by omega⟩
  rw [hk, bndF, if_pos h]
  have := step_bd h
  rw [bndF_fuel (bs := bs) (bs.length - (i + (dec (bs.drop i)).2.toNat)) k _ (Nat.le_refl _) (by omega)]
theorem bndA_len {bs : List UInt8} : ∀ (k i : Nat), bs.length - i ≤ k → (bndA bs i).length ≤ k
  | 0, i, h => by rw [bndA_no (by omega)]; exact Nat.le_refl _
  | k + 1, i, h => by
    by_cases hi : i < bs.length
    · have := step_bd hi
      rw [bndA_yes hi, List.length_cons]
      have := bndA_len (bs := bs) k (i + (dec (bs.drop i)).2.toNat) (by omega)
      omega
    · rw [bndA_no hi]; exact Nat.zero_le _
theorem q_64 {r : Int} (h : 0 ≤ r) : r.tdiv (Int.ofNat (63 + 1)) = r / 64 := Int.tdiv_eq_ediv_of_nonneg h
theorem q_4096 {r : Int} (h : 0 ≤ r) : r.tdiv (Int.ofNat (4095 + 1)) = r / 4096 := Int.tdiv_eq_ediv_of_nonneg h
theorem q_262144 {r : Int} (h : 0 ≤ r) : r.tdiv (Int.ofNat (262143 + 1)) = r / 262144 := Int.tdiv_eq_ediv_of_nonneg h
theorem m_64 {r : Int} (h : 0 ≤ r) : r.tmod (Int.ofNat (63 + 1)) = r % 64 := Int.tmod_eq_emod_of_nonneg h
theorem wrapB {x : Int} (h : 0 ≤ x ∧ x < 256) : IntKind.u8.wrap x = x := by
  obtain ⟨n, rfl⟩ := Int.eq_ofNat_of_zero_le h.1
  have : ∀ m : Nat, m < 256 → IntKind.u8.wrap (m : Int) = m := by decide +kernel
  exact this n (by omega)
theorem scalar_of {r : Int} (h : ¬ r < 0 ∧ ¬ r > 1114111 ∧ ¬ (r ≥ 55296 ∧ r ≤ 57343)) : scalar r = true := by
  unfold scalar; exact decide_eq_true (by omega)
theorem scalar_no {r : Int} (h : r < 0 ∨ r > 1114111 ∨ (r ≥ 55296 ∧ r ≤ 57343)) : scalar r = false := by
  unfold scalar; exact decide_eq_false (by omega)
def ex01 : List UInt8 := [195, 164, 176]
theorem ex01_count : ((bndA ex01 0).length : Int) = 2 := by decide +kernel
theorem ex01_r0 : (atS ex01 0).1 = 228 := by decide +kernel
theorem ex01_r2 : (atS ex01 2).1 = -1 := by decide +kernel
theorem ex01_s0 : (atS ex01 0).2 = 2 := by decide +kernel
theorem ex01_put : putB 8364 = [226, 130, 172] := by decide +kernel
theorem ex01_class : classS 97 = 1 := by decide +kernel
/-- What the document tells of a first byte and up to three that follow, of which so many are there. -/
def refL (c x y z : Int) (k : Nat) : Int × Int :=
  if c < 128 then (c, 1)
  else if 192 ≤ c ∧ c < 224 ∧ (1 ≤ k ∧ 128 ≤ x ∧ x ≤ 191) ∧ 128 ≤ (c - 192) * 64 + x - 128 then ((c - 192) * 64 + x - 128, 2)
  else if 224 ≤ c ∧ c < 240 ∧ (1 ≤ k ∧ 128 ≤ x ∧ x ≤ 191) ∧ (2 ≤ k ∧ 128 ≤ y ∧ y ≤ 191) ∧ 2048 ≤ (c - 224) * 4096 + (x - 128) * 64 + y - 128 ∧
      ((c - 224) * 4096 + (x - 128) * 64 + y - 128 < 55296 ∨ (c - 224) * 4096 + (x - 128) * 64 + y - 128 > 57343) then
    ((c - 224) * 4096 + (x - 128) * 64 + y - 128, 3)
  else if 240 ≤ c ∧ c < 248 ∧ (1 ≤ k ∧ 128 ≤ x ∧ x ≤ 191) ∧ (2 ≤ k ∧ 128 ≤ y ∧ y ≤ 191) ∧ (3 ≤ k ∧ 128 ≤ z ∧ z ≤ 191) ∧ 65536 ≤ (c - 240) * 262144 + (x - 128) * 4096 + (y - 128) * 64 + z - 128 ∧
      (c - 240) * 262144 + (x - 128) * 4096 + (y - 128) * 64 + z - 128 ≤ 1114111 then
    ((c - 240) * 262144 + (x - 128) * 4096 + (y - 128) * 64 + z - 128, 4)
  else (-1, 1)
theorem cont1 {r : Int} {x : UInt8} : cont r [x] = if 128 ≤ x.toNat ∧ x.toNat < 192 then some (r * 64 + (x.toNat % 64 : Nat)) else none := rfl
theorem contS {r : Int} {x : UInt8} {l : List UInt8} : cont r (x :: l) = if 128 ≤ x.toNat ∧ x.toNat < 192 then cont (r * 64 + (x.toNat % 64 : Nat)) l else none := rfl
/-- The last test. -/
theorem last_if {m r : Int} {p : Prop} [Decidable p] {a b : Int × Int} (h : p ↔ (0 ≤ r ∧ r ≤ 1114111 ∧ (r < 55296 ∨ 57343 < r)) ∧ ¬ r < least m) : (if scalar r = true ∧ ¬ r < least m then a else b) = if p then a else b := by
  by_cases hp : p
  · rw [if_pos hp, if_pos ⟨by unfold scalar; exact decide_eq_true (h.1 hp).1, (h.1 hp).2⟩]
  · rw [if_neg hp, if_neg (fun h' => hp (h.2 ⟨by have := h'.1; unfold scalar at this; exact of_decide_eq_true this, h'.2⟩))]
theorem l0 : least 0 = 0 := by decide +kernel
theorem l1 : least 1 = 128 := by decide +kernel
theorem l2 : least 2 = 2048 := by decide +kernel
theorem l3 : least 3 = 65536 := by decide +kernel
theorem dec_ref (b : UInt8) (l : List UInt8) : dec (b :: l) = refL b.toNat (l.getD 0 0).toNat (l.getD 1 0).toNat (l.getD 2 0).toNat l.length := by
  have hb := b.toNat_lt
  by_cases h1 : b.toNat < 128
  · have hL : lead b.toNat = (0, (b.toNat : Int)) := by unfold lead; rw [if_pos h1]
    rw [dec_yes hL (by omega)]
    show (if _ then _ else _) = _
    rw [last_if (p := True) (by rw [l0]; constructor <;> intro <;> first | trivial | omega), if_pos trivial]
    unfold refL
    rw [if_pos (by omega)]; rfl
  by_cases h2 : 194 ≤ b.toNat ∧ b.toNat ≤ 223
  · have hL : lead b.toNat = (1, ((b.toNat % 32 : Nat) : Int)) := by unfold lead; rw [if_neg h1, if_pos h2]
    cases l with
    | nil =>
      rw [dec_no hL (by right; simp)]
      unfold refL
      simp only [List.length_nil]
      rw [if_neg (by omega), if_neg (by omega), if_neg (by omega), if_neg (by omega)]
    | cons x l =>
      rw [dec_yes hL (by simp only [List.length_cons]; omega)]
      show (match cont _ [x] with | none => _ | some r => _) = _
      simp only [List.getD_cons_zero, List.length_cons]
      have hx := x.toNat_lt
      rw [cont1]
      by_cases hx1 : 128 ≤ x.toNat ∧ x.toNat < 192
      · rw [if_pos hx1]
        show (if _ then _ else _) = _
        rw [if_pos ⟨by unfold scalar; exact decide_eq_true (by omega), by rw [l1]; omega⟩]
        unfold refL
        rw [if_neg (by omega), if_pos (by omega)]
        exact Prod.ext (by show _ = _; omega) rfl
      · rw [if_neg hx1]
        show (-1, 1) = _
        unfold refL
        rw [if_neg (by omega), if_neg (by omega), if_neg (by omega), if_neg (by omega)]
  by_cases h3 : 224 ≤ b.toNat ∧ b.toNat ≤ 239
  · have hL : lead b.toNat = (2, ((b.toNat % 16 : Nat) : Int)) := by unfold lead; rw [if_neg h1, if_neg h2, if_pos h3]
    match l with
    | [] =>
      rw [dec_no hL (by right; simp only [List.length_nil]; omega)]
      unfold refL
      simp only [List.length_nil]
      rw [if_neg (by omega), if_neg (by omega), if_neg (by omega), if_neg (by omega)]
    | [x] =>
      rw [dec_no hL (by right; simp only [List.length_cons, List.length_nil]; omega)]
      unfold refL
      simp only [List.length_cons, List.length_nil]
      rw [if_neg (by omega), if_neg (by omega), if_neg (by omega), if_neg (by omega)]
    | x :: y :: l =>
      rw [dec_yes hL (by simp only [List.length_cons]; omega)]
      show (match cont _ [x, y] with | none => _ | some r => _) = _
      simp only [List.getD_cons_zero, List.getD_cons_succ, List.length_cons]
      have hx := x.toNat_lt
      have hy := y.toNat_lt
      rw [contS]
      by_cases hx1 : 128 ≤ x.toNat ∧ x.toNat < 192
      · rw [if_pos hx1, cont1]
        by_cases hy1 : 128 ≤ y.toNat ∧ y.toNat < 192
        · rw [if_pos hy1]
          show (if _ then _ else _) = _
          have e : (((b.toNat % 16 : Nat) : Int) * 64 + (x.toNat % 64 : Nat)) * 64 + (y.toNat % 64 : Nat) = ((b.toNat : Int) - 224) * 4096 + ((x.toNat : Int) - 128) * 64 + y.toNat - 128 := by omega
          rw [e, last_if (p := 2048 ≤ ((b.toNat : Int) - 224) * 4096 + ((x.toNat : Int) - 128) * 64 + y.toNat - 128 ∧ (((b.toNat : Int) - 224) * 4096 + ((x.toNat : Int) - 128) * 64 + y.toNat - 128 < 55296 ∨ ((b.toNat : Int) - 224) * 4096 + ((x.toNat : Int) - 128) * 64 + y.toNat - 128 > 57343)) (by rw [l2]; omega)]
          split
          · unfold refL
            rw [if_neg (by omega), if_neg (by omega), if_pos (by omega)]; rfl
          · unfold refL
            rw [if_neg (by omega), if_neg (by omega), if_neg (by omega), if_neg (by omega)]
        · rw [if_neg hy1]
          show (-1, 1) = _
          unfold refL
          rw [if_neg (by omega), if_neg (by omega), if_neg (by omega), if_neg (by omega)]
      · rw [if_neg hx1]
        show (-1, 1) = _
        unfold refL
        rw [if_neg (by omega), if_neg (by omega), if_neg (by omega), if_neg (by omega)]
  by_cases h4 : 240 ≤ b.toNat ∧ b.toNat ≤ 244
  · have hL : lead b.toNat = (3, ((b.toNat % 8 : Nat) : Int)) := by unfold lead; rw [if_neg h1, if_neg h2, if_neg h3, if_pos h4]
    match l with
    | [] =>
      rw [dec_no hL (by right; simp only [List.length_nil]; omega)]
      unfold refL
      simp only [List.length_nil]
      rw [if_neg (by omega), if_neg (by omega), if_neg (by omega), if_neg (by omega)]
    | [x] =>
      rw [dec_no hL (by right; simp only [List.length_cons, List.length_nil]; omega)]
      unfold refL
      simp only [List.length_cons, List.length_nil]
      rw [if_neg (by omega), if_neg (by omega), if_neg (by omega), if_neg (by omega)]
    | [x, y] =>
      rw [dec_no hL (by right; simp only [List.length_cons, List.length_nil]; omega)]
      unfold refL
      simp only [List.length_cons, List.length_nil]
      rw [if_neg (by omega), if_neg (by omega), if_neg (by omega), if_neg (by omega)]
    | x :: y :: z :: l =>
      rw [dec_yes hL (by simp only [List.length_cons]; omega)]
      show (match cont _ [x, y, z] with | none => _ | some r => _) = _
      simp only [List.getD_cons_zero, List.getD_cons_succ, List.length_cons]
      have hx := x.toNat_lt
      have hy := y.toNat_lt
      have hz := z.toNat_lt
      rw [contS]
      by_cases hx1 : 128 ≤ x.toNat ∧ x.toNat < 192
      · rw [if_pos hx1, contS]
        by_cases hy1 : 128 ≤ y.toNat ∧ y.toNat < 192
        · rw [if_pos hy1, cont1]
          by_cases hz1 : 128 ≤ z.toNat ∧ z.toNat < 192
          · rw [if_pos hz1]
            show (if _ then _ else _) = _
            have e : ((((b.toNat % 8 : Nat) : Int) * 64 + (x.toNat % 64 : Nat)) * 64 + (y.toNat % 64 : Nat)) * 64 + (z.toNat % 64 : Nat) = ((b.toNat : Int) - 240) * 262144 + ((x.toNat : Int) - 128) * 4096 + ((y.toNat : Int) - 128) * 64 + z.toNat - 128 := by omega
            rw [e, last_if (p := 65536 ≤ ((b.toNat : Int) - 240) * 262144 + ((x.toNat : Int) - 128) * 4096 + ((y.toNat : Int) - 128) * 64 + z.toNat - 128 ∧ ((b.toNat : Int) - 240) * 262144 + ((x.toNat : Int) - 128) * 4096 + ((y.toNat : Int) - 128) * 64 + z.toNat - 128 ≤ 1114111) (by rw [l3]; omega)]
            split
            · unfold refL
              rw [if_neg (by omega), if_neg (by omega), if_neg (by omega), if_pos (by omega)]; rfl
            · unfold refL
              rw [if_neg (by omega), if_neg (by omega), if_neg (by omega), if_neg (by omega)]
          · rw [if_neg hz1]
            show (-1, 1) = _
            unfold refL
            rw [if_neg (by omega), if_neg (by omega), if_neg (by omega), if_neg (by omega)]
        · rw [if_neg hy1]
          show (-1, 1) = _
          unfold refL
          rw [if_neg (by omega), if_neg (by omega), if_neg (by omega), if_neg (by omega)]
      · rw [if_neg hx1]
        show (-1, 1) = _
        unfold refL
        rw [if_neg (by omega), if_neg (by omega), if_neg (by omega), if_neg (by omega)]
  have hL : lead b.toNat = (-1, 0) := by unfold lead; rw [if_neg h1, if_neg h2, if_neg h3, if_neg h4]
  rw [dec_no hL (by omega)]
  have hx : 0 ≤ ((l.getD 0 0).toNat : Int) ∧ ((l.getD 0 0).toNat : Int) < 256 := by have := (l.getD 0 0).toNat_lt; omega
  unfold refL
  rw [if_neg (by omega), if_neg (by omega), if_neg (by omega), if_neg (by omega)]
/-- The place so many characters behind a place. -/
def nth (bs : List UInt8) : Nat → Nat → Nat
  | i, 0 => i
  | i, k + 1 => if i < bs.length then nth bs (i + (dec (bs.drop i)).2.toNat) k else i
theorem nth_end {bs : List UInt8} {i : Nat} (h : ¬ i < bs.length) : ∀ k, nth bs i k = i
  | 0 => rfl
  | k + 1 => by rw [nth, if_neg h]
theorem nth_get {bs : List UInt8} : ∀ (k i : Nat), i ≤ bs.length → (k < (i :: bndA bs i).length → (i :: bndA bs i)[k]? = some (nth bs i k)) ∧ ((i :: bndA bs i).length ≤ k → nth bs i k = bs.length)
  | 0, i, h => ⟨fun _ => rfl, fun h' => by simp at h'⟩
  | k + 1, i, h => by
    by_cases hi : i < bs.length
    · have hb := step_bd hi
      have ih := nth_get k (i + (dec (bs.drop i)).2.toNat) hb.2
      rw [bndA_yes hi, nth, if_pos hi]
      refine ⟨fun h' => ?_, fun h' => ?_⟩
      · rw [List.getElem?_cons_succ]; exact ih.1 (by simpa using h')
      · exact ih.2 (by simpa using h')
    · rw [bndA_no hi, nth_end hi]
      refine ⟨fun h' => by simp at h', fun _ => by omega⟩
/-- How many bytes the character at a place has. -/
def szB (bs : List UInt8) (i : Nat) : Nat := (dec (bs.drop i)).2.toNat
/-- Is a place a boundary, from a boundary on? -/
def isB (bs : List UInt8) (p i : Nat) : Prop := i = p ∨ i ∈ bndA bs p
theorem isB_no {bs : List UInt8} {p i : Nat} (h : ¬ p < bs.length) : isB bs p i ↔ i = p := by
  unfold isB; rw [bndA_no h]; simp
theorem isB_yes {bs : List UInt8} {p i : Nat} (h : p < bs.length) : isB bs p i ↔ i = p ∨ isB bs (p + szB bs p) i := by
  unfold isB szB; rw [bndA_yes h]; simp
theorem isB_ge {bs : List UInt8} : ∀ (k p i : Nat), bs.length - p ≤ k → isB bs p i → p ≤ i ∧ (i = p ∨ i ≤ bs.length)
  | 0, p, i, hk, h => by rw [isB_no (by omega)] at h; omega
  | k + 1, p, i, hk, h => by
    by_cases hp : p < bs.length
    · have hs := step_bd hp
      rw [isB_yes hp] at h
      rcases h with h | h
      · omega
      · have := isB_ge k (p + szB bs p) i (by unfold szB; omega) h
        unfold szB at this
        omega
    · rw [isB_no hp] at h; omega
theorem refL_two {c x y z : Int} {k : Nat} (h : 2 ≤ (refL c x y z k).2) : 128 ≤ x ∧ x ≤ 191 := by
  unfold refL at h
  (repeat' split at h) <;> first | (dsimp only at h; omega) | omega
theorem refL_three {c x y z : Int} {k : Nat} (h : 3 ≤ (refL c x y z k).2) : 128 ≤ y ∧ y ≤ 191 := by
  unfold refL at h
  (repeat' split at h) <;> first | (dsimp only at h; omega) | omega
theorem refL_four {c x y z : Int} {k : Nat} (h : 4 ≤ (refL c x y z k).2) : 128 ≤ z ∧ z ≤ 191 := by
  unfold refL at h
  (repeat' split at h) <;> first | (dsimp only at h; omega) | omega
theorem refL_le {c x y z : Int} {k : Nat} : (refL c x y z k).2 ≤ 4 := by
  unfold refL
  (repeat' split) <;> (dsimp only; omega)
theorem refL_mid {c x y z : Int} {k : Nat} (h : 128 ≤ c ∧ c ≤ 191) : (refL c x y z k).2 = 1 := by
  unfold refL
  rw [if_neg (by omega), if_neg (by omega), if_neg (by omega), if_neg (by omega)]
theorem drop_cons {bs : List UInt8} {i : Nat} (h : i < bs.length) : bs.drop i = bs[i] :: bs.drop (i + 1) := List.drop_eq_getElem_cons h
theorem szB_le {bs : List UInt8} {i : Nat} : szB bs i ≤ 4 := by
  unfold szB
  by_cases h : i < bs.length
  · rw [drop_cons h, dec_ref]
    have := refL_le (c := (bs[i].toNat : Int)) (x := ((bs.drop (i + 1)).getD 0 0).toNat) (y := ((bs.drop (i + 1)).getD 1 0).toNat) (z := ((bs.drop (i + 1)).getD 2 0).toNat) (k := (bs.drop (i + 1)).length)
    omega
  · rw [List.drop_eq_nil_of_le (by omega)]
    decide +kernel
/-- Inside of a character nothing longer begins. -/
theorem szB_mid {bs : List UInt8} {p t : Nat} (hp : p + t < bs.length) (h0 : 0 < t) (h1 : t < szB bs p) : szB bs (p + t) = 1 := by
  have h4 := szB_le (bs := bs) (i := p)
  have hp' : p < bs.length := by omega
  have hb : 128 ≤ (bs[p + t].toNat : Int) ∧ (bs[p + t].toNat : Int) ≤ 191 := by
    have hg : ∀ k : Nat, p + (k + 1) < bs.length → ((bs.drop (p + 1)).getD k 0) = bs.getD (p + (k + 1)) 0 := fun k _ => by
      simp [List.getD_eq_getElem?_getD, Nat.add_assoc, Nat.add_comm 1 k]
    have hgt : bs[p + t] = bs.getD (p + t) 0 := by rw [List.getD_eq_getElem?_getD, List.getElem?_eq_getElem hp]; rfl
    have ht : t = 1 ∨ t = 2 ∨ t = 3 := by omega
    unfold szB at h1
    rw [drop_cons hp', dec_ref] at h1
    rw [hgt]
    rcases ht with rfl | rfl | rfl
    · rw [← hg 0 (by omega)]; exact refL_two (c := (bs[p].toNat : Int)) (y := ((bs.drop (p + 1)).getD 1 0).toNat) (z := ((bs.drop (p + 1)).getD 2 0).toNat) (k := (bs.drop (p + 1)).length) (by omega)
    · rw [← hg 1 (by omega)]; exact refL_three (c := (bs[p].toNat : Int)) (x := ((bs.drop (p + 1)).getD 0 0).toNat) (z := ((bs.drop (p + 1)).getD 2 0).toNat) (k := (bs.drop (p + 1)).length) (by omega)
    · rw [← hg 2 (by omega)]; exact refL_four (c := (bs[p].toNat : Int)) (x := ((bs.drop (p + 1)).getD 0 0).toNat) (y := ((bs.drop (p + 1)).getD 1 0).toNat) (k := (bs.drop (p + 1)).length) (by omega)
  unfold szB
  rw [drop_cons hp, dec_ref, refL_mid hb]
  rfl
theorem bound_yes {bs : List UInt8} : ∀ (k p i q : Nat), bs.length - p ≤ k → isB bs p i → p ≤ q → q < i → szB bs q ≤ i - q
  | 0, p, i, q, hk, h, h1, h2 => by rw [isB_no (by omega)] at h; omega
  | k + 1, p, i, q, hk, h, h1, h2 => by
    by_cases hp : p < bs.length
    · have hs := step_bd hp
      have hs' : 1 ≤ szB bs p ∧ p + szB bs p ≤ bs.length := hs
      rw [isB_yes hp] at h
      rcases h with h | h
      · omega
      · have hge := isB_ge _ _ _ (Nat.le_refl _) h
        by_cases hq : p + szB bs p ≤ q
        · exact bound_yes k (p + szB bs p) i q (by omega) h hq h2
        · by_cases hqp : q = p
          · subst hqp; omega
          · have := szB_mid (bs := bs) (p := p) (t := q - p) (by omega) (by omega) (by omega)
            rw [show p + (q - p) = q by omega] at this
            omega
    · rw [isB_no hp] at h; omega
theorem bound_no {bs : List UInt8} : ∀ (k p i : Nat), bs.length - p ≤ k → p ≤ i → i ≤ bs.length → ¬ isB bs p i → ∃ q, p ≤ q ∧ q < i ∧ i - q < szB bs q
  | 0, p, i, hk, h1, h2, h => by rw [isB_no (by omega)] at h; omega
  | k + 1, p, i, hk, h1, h2, h => by
    by_cases hp : p < bs.length
    · have hs : 1 ≤ szB bs p ∧ p + szB bs p ≤ bs.length := step_bd hp
      rw [isB_yes hp] at h
      by_cases hi : i < p + szB bs p
      · exact ⟨p, Nat.le_refl _, by omega, by omega⟩
      · obtain ⟨q, q1, q2, q3⟩ := bound_no k (p + szB bs p) i (by omega) (by omega) h2 (fun h' => h (.inr h'))
        exact ⟨q, by omega, q2, q3⟩
    · rw [isB_no hp] at h; omega
/-- What utf.Bound looks at. -/
theorem bound_iff {bs : List UInt8} {i : Nat} (hi : i ≤ bs.length) : isB bs 0 i ↔ ∀ k, 1 ≤ k → k < 4 → k ≤ i → szB bs (i - k) ≤ k := by
  constructor
  · intro h k h1 _ h3
    have := bound_yes _ 0 i (i - k) (Nat.le_refl _) h (Nat.zero_le _) (by omega)
    omega
  · intro h
    refine Classical.byContradiction fun hn => ?_
    obtain ⟨q, _, q2, q3⟩ := bound_no _ 0 i (Nat.le_refl _) (Nat.zero_le _) hi hn
    have h4 := szB_le (bs := bs) (i := q)
    have := h (i - q) (by omega) (by omega) (by omega)
    rw [show i - (i - q) = q by omega] at this
    omega
/-- All boundaries. -/
def allB (bs : List UInt8) : List Nat := 0 :: bndA bs 0
theorem mem_allB {bs : List UInt8} {i : Nat} : i ∈ allB bs ↔ isB bs 0 i := by unfold allB isB; simp
theorem allB_le {bs : List UInt8} {i : Nat} (h : i ∈ allB bs) : i ≤ bs.length := by
  have := isB_ge _ 0 i (Nat.le_refl _) (mem_allB.1 h)
  omega
def hasB (L : List Nat) (a : Int) : Bool := L.any fun x => decide ((x : Int) = a)
theorem hasB_cons {x : Nat} {L : List Nat} {a : Int} : hasB (x :: L) a = (decide ((x : Int) = a) || hasB L a) := rfl
theorem hasB_iff {L : List Nat} {a : Int} : hasB L a = true ↔ 0 ≤ a ∧ a.toNat ∈ L := by
  unfold hasB
  rw [List.any_eq_true]
  constructor
  · rintro ⟨x, hx, h⟩
    have := of_decide_eq_true h
    subst this
    exact ⟨by omega, by simpa using hx⟩
  · rintro ⟨h0, h⟩
    exact ⟨a.toNat, h, decide_eq_true (by omega)⟩
theorem allB_len {bs : List UInt8} : (allB bs).length ≤ bs.length + 1 := by
  have := bndA_len (bs := bs) bs.length 0 (by omega)
  unfold allB
  rw [List.length_cons]; omega
/-- The first one behind a place. -/
def nextB : List Nat → Int → Nat → Nat
  | [], _, d => d
  | x :: L, a, d => if a < x then x else nextB L a d
/-- The last one ahead of a place. -/
def prevB : List Nat → Int → Nat → Nat
  | [], _, p => p
  | x :: L, a, p => prevB L a (if (x : Int) < a then x else p)
theorem drop_yes {L : List Nat} {j : Nat} {x : Nat} (h : L[j]? = some x) : L.drop j = x :: L.drop (j + 1) := by
  obtain ⟨h1, h2⟩ := List.getElem?_eq_some_iff.1 h
  rw [List.drop_eq_getElem_cons h1, h2]
theorem nextB_is {a : Int} {d r : Nat} : ∀ {L : List Nat}, L.Pairwise (· < ·) → r ∈ L → a < r → (∀ x ∈ L, a < (x : Int) → r ≤ x) → nextB L a d = r
  | x :: L, hp, hr, ha, hm => by
    rw [List.pairwise_cons] at hp
    rw [nextB]
    split
    · rename_i h
      have h1 := hm x List.mem_cons_self h
      rcases List.mem_cons.1 hr with rfl | hr
      · rfl
      · have := hp.1 r hr; omega
    · rename_i h
      rcases List.mem_cons.1 hr with rfl | hr
      · exact absurd ha h
      · exact nextB_is hp.2 hr ha (fun y hy => hm y (List.mem_cons_of_mem _ hy))
theorem nextB_none {a : Int} {d : Nat} : ∀ {L : List Nat}, (∀ x ∈ L, ¬ a < (x : Int)) → nextB L a d = d
  | [], _ => rfl
  | x :: L, h => by rw [nextB, if_neg (h x List.mem_cons_self), nextB_none (fun y hy => h y (List.mem_cons_of_mem _ hy))]
theorem prevB_none {a : Int} : ∀ {L : List Nat} {p : Nat}, (∀ x ∈ L, ¬ (x : Int) < a) → prevB L a p = p
  | [], _, _ => rfl
  | x :: L, p, h => by rw [prevB, if_neg (h x List.mem_cons_self), prevB_none (fun y hy => h y (List.mem_cons_of_mem _ hy))]
theorem prevB_is {a : Int} {r : Nat} : ∀ {L : List Nat} {p : Nat}, L.Pairwise (· < ·) → r ∈ L → (r : Int) < a → (∀ x ∈ L, (x : Int) < a → x ≤ r) → prevB L a p = r
  | x :: L, p, hp, hr, ha, hm => by
    rw [List.pairwise_cons] at hp
    rw [prevB]
    rcases List.mem_cons.1 hr with rfl | hr
    · rw [if_pos ha]
      refine prevB_none fun y hy h => ?_
      have := hm y (List.mem_cons_of_mem _ hy) h
      have := hp.1 y hy
      omega
    · exact prevB_is hp.2 hr ha (fun y hy => hm y (List.mem_cons_of_mem _ hy))
theorem bndA_sorted {bs : List UInt8} : ∀ (k p : Nat), bs.length - p ≤ k → (p :: bndA bs p).Pairwise (· < ·)
  | 0, p, h => by rw [bndA_no (by omega)]; simp
  | k + 1, p, h => by
    by_cases hp : p < bs.length
    · have hs := step_bd hp
      rw [bndA_yes hp]
      have ih := bndA_sorted (bs := bs) k (p + (dec (bs.drop p)).2.toNat) (by omega)
      rw [List.pairwise_cons]
      refine ⟨fun x hx => ?_, ih⟩
      have : isB bs (p + (dec (bs.drop p)).2.toNat) x := by
        unfold isB
        rcases List.mem_cons.1 hx with h | h
        · exact .inl h
        · exact .inr h
      have := isB_ge _ _ _ (Nat.le_refl _) this
      omega
    · rw [bndA_no hp]; simp
theorem allB_sorted (bs : List UInt8) : (allB bs).Pairwise (· < ·) := bndA_sorted bs.length 0 (by omega)
theorem zero_allB (bs : List UInt8) : 0 ∈ allB bs := List.mem_cons_self
theorem sz_bd {bs : List UInt8} {p : Nat} (h : p < bs.length) : 1 ≤ szB bs p ∧ p + szB bs p ≤ bs.length := step_bd h
theorem isB_next {bs : List UInt8} : ∀ (k q p : Nat), bs.length - q ≤ k → isB bs q p → p < bs.length → isB bs q (p + szB bs p)
  | 0, q, p, hk, h, hp => by
    have hq : ¬ q < bs.length := by omega
    rw [isB_no hq] at h; omega
  | k + 1, q, p, hk, h, hp => by
    by_cases hq : q < bs.length
    · have hs := sz_bd hq
      rw [isB_yes hq] at h ⊢
      rcases h with rfl | h
      · exact .inr (.inl rfl)
      · exact .inr (isB_next k (q + szB bs q) p (by omega) h hp)
    · rw [isB_no hq] at h; omega
/-- Nothing begins within a character. -/
theorem isB_far {bs : List UInt8} {p x : Nat} (h : isB bs 0 x) (hx : p < x) : p + szB bs p ≤ x := by
  have := bound_yes _ 0 x p (Nat.le_refl _) h (Nat.zero_le _) hx
  omega
theorem next_is {bs : List UInt8} {p : Nat} (h : isB bs 0 p) (hp : p < bs.length) : nextB (allB bs) p bs.length = p + szB bs p := by
  have hs := sz_bd hp
  exact nextB_is (allB_sorted bs) (mem_allB.2 (isB_next _ 0 p (Nat.le_refl _) h hp)) (by omega) (fun x hx h' => isB_far (mem_allB.1 hx) (by omega))
theorem prev_is {bs : List UInt8} {p : Nat} (h : isB bs 0 p) (hp : p < bs.length) : prevB (allB bs) ((p : Int) + (szB bs p : Nat)) 0 = p := by
  have hs := sz_bd hp
  refine prevB_is (allB_sorted bs) (mem_allB.2 h) (by omega) (fun x hx h' => ?_)
  rcases Nat.lt_or_ge p x with h1 | h1
  · have := isB_far (mem_allB.1 hx) h1; omega
  · exact h1
theorem nth_succ {bs : List UInt8} : ∀ (k i : Nat), nth bs i k < bs.length → nth bs i (k + 1) = nth bs i k + szB bs (nth bs i k)
  | 0, i, h => by
    rw [nth] at h
    show (if i < bs.length then _ else _) = _
    rw [if_pos h, nth, nth]; rfl
  | k + 1, i, h => by
    by_cases hi : i < bs.length
    · rw [nth, if_pos hi] at h
      have ih := nth_succ k _ h
      rw [nth, if_pos hi, ih, nth, if_pos hi]
    · rw [nth_end hi] at h; exact absurd h hi
theorem hasB_yes {bs : List UInt8} {p : Nat} (h : isB bs 0 p) : hasB (allB bs) p = true := hasB_iff.2 ⟨by omega, mem_allB.2 (by simpa using h)⟩
theorem hasB_mid {bs : List UInt8} {p : Nat} {k : Int} (h1 : (p : Int) < k) (h2 : k < (p : Int) + (szB bs p : Nat)) : hasB (allB bs) k = false := by
  cases hb : hasB (allB bs) k
  · rfl
  · have := hasB_iff.1 hb
    have h3 := isB_far (p := p) (mem_allB.1 this.2) (by omega)
    omega
/-- What stands within a character is a byte from 128 to 191. -/
theorem byte_mid {bs : List UInt8} {p t : Nat} (hp : p + t < bs.length) (h0 : 0 < t) (h1 : t < szB bs p) : 128 ≤ (bs[p + t].toNat : Int) ∧ (bs[p + t].toNat : Int) ≤ 191 := by
  have h4 := szB_le (bs := bs) (i := p)
  have hp' : p < bs.length := by omega
  have hg : ∀ k : Nat, p + (k + 1) < bs.length → ((bs.drop (p + 1)).getD k 0) = bs.getD (p + (k + 1)) 0 := fun k _ => by
    simp [List.getD_eq_getElem?_getD, Nat.add_assoc, Nat.add_comm 1 k]
  have hgt : bs[p + t] = bs.getD (p + t) 0 := by rw [List.getD_eq_getElem?_getD, List.getElem?_eq_getElem hp]; rfl
  have ht : t = 1 ∨ t = 2 ∨ t = 3 := by omega
  unfold szB at h1
  rw [drop_cons hp', dec_ref] at h1
  rw [hgt]
  rcases ht with rfl | rfl | rfl
  · rw [← hg 0 (by omega)]; exact refL_two (c := (bs[p].toNat : Int)) (y := ((bs.drop (p + 1)).getD 1 0).toNat) (z := ((bs.drop (p + 1)).getD 2 0).toNat) (k := (bs.drop (p + 1)).length) (by omega)
  · rw [← hg 1 (by omega)]; exact refL_three (c := (bs[p].toNat : Int)) (x := ((bs.drop (p + 1)).getD 0 0).toNat) (z := ((bs.drop (p + 1)).getD 2 0).toNat) (k := (bs.drop (p + 1)).length) (by omega)
  · rw [← hg 2 (by omega)]; exact refL_four (c := (bs[p].toNat : Int)) (x := ((bs.drop (p + 1)).getD 0 0).toNat) (y := ((bs.drop (p + 1)).getD 1 0).toNat) (k := (bs.drop (p + 1)).length) (by omega)
/-- A place at which no such byte stands is a boundary. -/
theorem isB_lead {bs : List UInt8} {i : Nat} (hi : i < bs.length) (h : ¬ (128 ≤ (bs[i].toNat : Int) ∧ (bs[i].toNat : Int) ≤ 191)) : isB bs 0 i := by
  refine (bound_iff (by omega)).2 fun k k1 k2 k3 => ?_
  refine Classical.byContradiction fun hk => h ?_
  have := byte_mid (bs := bs) (p := i - k) (t := k) (by omega) (by omega) (by omega)
  simpa only [show i - k + k = i by omega] using this
theorem ofNatB {n : Int} (h : 0 ≤ n ∧ n < 256) : ((UInt8.ofNat n.toNat).toNat : Int) = n := by
  rw [UInt8.toNat_ofNat_of_lt' (by show n.toNat < 256; omega), Int.toNat_of_nonneg h.1]
theorem scalar_iff {r : Int} : scalar r = true ↔ 0 ≤ r ∧ r ≤ 1114111 ∧ (r < 55296 ∨ 57343 < r) := by unfold scalar; exact decide_eq_true_iff
theorem putB_nil {r : Int} (h : scalar r = false) : putB r = [] := by unfold putB putN; rw [if_neg (by rw [h]; simp)]; rfl
theorem dec_put {r : Int} (h : scalar r = true) (l : List UInt8) : dec (putB r ++ l) = (r, ((putB r).length : Int)) ∧ 1 ≤ (putB r).length ∧ (putB r).length ≤ 4 ∧ ∀ (b : UInt8) (t : List UInt8), putB r ++ l = b :: t → ¬ (128 ≤ (b.toNat : Int) ∧ (b.toNat : Int) ≤ 191) := by
  have hs := scalar_iff.1 h
  by_cases h1 : r < 128
  · have e : putB r = [UInt8.ofNat r.toNat] := by unfold putB putN; rw [if_pos h, if_pos h1]; rfl
    have b0 := ofNatB (n := r) (by omega)
    rw [e]
    refine ⟨?_, by simp, by simp, fun b t ht => ?_⟩
    · show dec (_ :: l) = _
      rw [dec_ref, b0]; unfold refL; rw [if_pos h1]; rfl
    · rw [← (List.cons.inj ht).1, b0]; omega
  · by_cases h2 : r < 2048
    · have e : putB r = [UInt8.ofNat (192 + r / 64).toNat, UInt8.ofNat (128 + r % 64).toNat] := by unfold putB putN; rw [if_pos h, if_neg h1, if_pos h2]; rfl
      have b0 := ofNatB (n := 192 + r / 64) (by omega)
      have b1 := ofNatB (n := 128 + r % 64) (by omega)
      rw [e]
      refine ⟨?_, by simp, by simp, fun b t ht => ?_⟩
      · show dec (_ :: _ :: l) = _
        rw [dec_ref]
        simp only [List.getD_cons_zero, List.length_cons, b0, b1]
        unfold refL
        rw [if_neg (by omega), if_pos (by omega)]
        refine Prod.ext ?_ rfl
        dsimp only; omega
      · rw [← (List.cons.inj ht).1, b0]; omega
    · by_cases h3 : r < 65536
      · have e : putB r = [UInt8.ofNat (224 + r / 4096).toNat, UInt8.ofNat (128 + r / 64 % 64).toNat, UInt8.ofNat (128 + r % 64).toNat] := by unfold putB putN; rw [if_pos h, if_neg h1, if_neg h2, if_pos h3]; rfl
        have b0 := ofNatB (n := 224 + r / 4096) (by omega)
        have b1 := ofNatB (n := 128 + r / 64 % 64) (by omega)
        have b2 := ofNatB (n := 128 + r % 64) (by omega)
        rw [e]
        refine ⟨?_, by simp, by simp, fun b t ht => ?_⟩
        · show dec (_ :: _ :: _ :: l) = _
          rw [dec_ref]
          simp only [List.getD_cons_zero, List.getD_cons_succ, List.length_cons, b0, b1, b2]
          unfold refL
          rw [if_neg (by omega), if_neg (by omega), if_pos (by omega)]
          refine Prod.ext ?_ rfl
          dsimp only; omega
        · rw [← (List.cons.inj ht).1, b0]; omega
      · have e : putB r = [UInt8.ofNat (240 + r / 262144).toNat, UInt8.ofNat (128 + r / 4096 % 64).toNat, UInt8.ofNat (128 + r / 64 % 64).toNat, UInt8.ofNat (128 + r % 64).toNat] := by unfold putB putN; rw [if_pos h, if_neg h1, if_neg h2, if_neg h3]; rfl
        have b0 := ofNatB (n := 240 + r / 262144) (by omega)
        have b1 := ofNatB (n := 128 + r / 4096 % 64) (by omega)
        have b2 := ofNatB (n := 128 + r / 64 % 64) (by omega)
        have b3 := ofNatB (n := 128 + r % 64) (by omega)
        rw [e]
        refine ⟨?_, by simp, by simp, fun b t ht => ?_⟩
        · show dec (_ :: _ :: _ :: _ :: l) = _
          rw [dec_ref]
          simp only [List.getD_cons_zero, List.getD_cons_succ, List.length_cons, b0, b1, b2, b3]
          unfold refL
          rw [if_neg (by omega), if_neg (by omega), if_neg (by omega), if_pos (by omega)]
          refine Prod.ext ?_ rfl
          dsimp only; omega
        · rw [← (List.cons.inj ht).1, b0]; omega
theorem between {r : Int} (h : scalar r = true) (a c : List UInt8) : atS (a ++ putB r ++ c) a.length = (r, ((putB r).length : Int)) ∧ hasB (allB (a ++ putB r ++ c)) a.length = true ∧ hasB (allB (a ++ putB r ++ c)) ((a.length : Int) + ((putB r).length : Int)) = true := by
  obtain ⟨h1, h2, h3, h4⟩ := dec_put h c
  have hd : (a ++ putB r ++ c).drop a.length = putB r ++ c := by rw [List.append_assoc, List.drop_left]
  have hl : a.length < (a ++ putB r ++ c).length := by simp; omega
  have hA : atS (a ++ putB r ++ c) a.length = (r, ((putB r).length : Int)) := by
    rw [atS, if_pos (by omega), Int.toNat_natCast, hd, h1]
  have hz : szB (a ++ putB r ++ c) a.length = (putB r).length := by unfold szB; rw [hd, h1]; simp
  have hB : isB (a ++ putB r ++ c) 0 a.length := by
    refine isB_lead hl ?_
    refine h4 _ ((a ++ putB r ++ c).drop (a.length + 1)) ?_
    rw [← hd, ← List.drop_eq_getElem_cons hl]
  refine ⟨hA, hasB_yes hB, ?_⟩
  have := hasB_yes (isB_next _ 0 _ (Nat.le_refl _) hB hl)
  rw [hz] at this
  simpa using this
end Go.Proofs.YtlginjmkmfodmaaDoor.S
