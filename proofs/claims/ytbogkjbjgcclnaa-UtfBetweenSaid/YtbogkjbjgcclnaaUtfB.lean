/- Package utf: decode. -/
import Derived.Test.YtbogkjbjgcclnaaUtfA
namespace Go.Proofs.Ytbogkjbjgcclnaa
open Go Go.Am
/-! ### decode -/
def cont : Int → List UInt8 → Option Int
  | r, [] => some r
  | r, c :: cs => if 128 ≤ c.toNat ∧ c.toNat < 192 then cont (r * 64 + (c.toNat % 64 : Nat)) cs else none
def dec : List UInt8 → Int × Int
  | [] => (-1, 1)
  | b :: bs =>
    if (lead b.toNat).1 < 0 ∨ (lead b.toNat).1 ≥ (bs.length : Int) + 1 then (-1, 1)
    else match cont (lead b.toNat).2 (bs.take (lead b.toNat).1.toNat) with
      | none => (-1, 1)
      | some r => if scalar r = true ∧ ¬ r < least (lead b.toNat).1 then (r, (lead b.toNat).1 + 1) else (-1, 1)
theorem pow64 : (2 : Nat) ^ IntKind.i64.bits = 18446744073709551616 := rfl
theorem toNat64 (m : Nat) (hm : m < 18446744073709551616) : (BitVec.ofInt IntKind.i64.bits (m : Int)).toNat = m := by
  show (BitVec.ofInt 64 (m : Int)).toNat = m
  rw [BitVec.ofInt_natCast, BitVec.toNat_ofNat, Nat.mod_eq_of_lt hm]
theorem or64 {r : Int} {c : Nat} (h0 : 0 ≤ r) (h1 : r ≤ 1000000000000) (hc : c < 64) :
    IntKind.i64.wrap ((BitVec.ofInt IntKind.i64.bits (IntKind.i64.wrap (r * 2 ^ (min 6 IntKind.i64.bits))) ||| BitVec.ofInt IntKind.i64.bits (IntKind.i64.wrap (c : Int))).toNat : Int) = r * 64 + c := by
  obtain ⟨n, rfl⟩ := Int.eq_ofNat_of_zero_le h0
  have e1 : ((n : Int) * 2 ^ (min 6 IntKind.i64.bits)) = ((n * 64 : Nat) : Int) := by
    have : (min 6 IntKind.i64.bits) = 6 := rfl
    rw [this]; push_cast; omega
  have f1 : IntKind.i64.wrap ((n * 64 : Nat) : Int) = ((n * 64 : Nat) : Int) := wrapI (by omega)
  have f2 : IntKind.i64.wrap (c : Int) = (c : Int) := wrapI (by omega)
  rw [e1, f1, f2, BitVec.toNat_or, toNat64 _ (by omega), toNat64 _ (by omega)]
  have e3 : n * 64 ||| c = n * 64 + c := by
    have := Nat.shiftLeft_add_eq_or_of_lt (b := c) (i := 6) (by omega) n
    rw [Nat.shiftLeft_eq] at this
    exact this.symm
  rw [e3, wrapI (by omega)]
  push_cast; rfl
theorem cont_drop {r : Int} {l : List UInt8} {j : Nat} {c : UInt8} (h : l[j]? = some c) : cont r (l.drop j) = if 128 ≤ c.toNat ∧ c.toNat < 192 then cont (r * 64 + (c.toNat % 64 : Nat)) (l.drop (j + 1)) else none := by
  obtain ⟨h1, h2⟩ := List.getElem?_eq_some_iff.1 h
  rw [List.drop_eq_getElem_cons h1, h2]; rfl
theorem lead_bd (m : Nat) (h : m < 256) : -1 ≤ (lead m).1 ∧ (lead m).1 ≤ 3 ∧ 0 ≤ (lead m).2 ∧ (lead m).2 < 128 := by
  unfold lead
  (repeat' split) <;> (dsimp only; omega)
attribute [local irreducible] T TL CallT Decidable.decide
theorem dec_no {b : UInt8} {bs : List UInt8} {m r0 : Int} (hL : lead b.toNat = (m, r0)) (h : m < 0 ∨ m ≥ (bs.length : Int) + 1) : dec (b :: bs) = (-1, 1) := by
  simp only [dec, hL]; exact if_pos h
theorem dec_yes {b : UInt8} {bs : List UInt8} {m r0 : Int} (hL : lead b.toNat = (m, r0)) (h : ¬ (m < 0 ∨ m ≥ (bs.length : Int) + 1)) :
    dec (b :: bs) = match cont r0 (bs.take m.toNat) with | none => (-1, 1) | some r => if scalar r = true ∧ ¬ r < least m then (r, m + 1) else (-1, 1) := by
  simp only [dec, hL]; exact if_neg h
theorem pow64_le {j : Nat} (h : j ≤ 3) : (64 : Int) ^ j ≤ 262144 := by
  have : j = 0 ∨ j = 1 ∨ j = 2 ∨ j = 3 := by omega
  rcases this with rfl | rfl | rfl | rfl <;> decide
theorem pair_eq {p : Int × Int} {a b : Int} (h : p = (a, b)) : pack [Dat.val (Value.int .i64 a), Dat.val (Value.int .i64 b)] = Dat.tup [.val (.int .i64 p.1), .val (.int .i64 p.2)] := by rw [h]; rfl
theorem decode_c (bs : List UInt8) (hne : bs ≠ []) (hl : bs.length ≤ 4611686018427387904) : CallE X 73 [.sl 1 (bs.map byteD)] (.tup [.val (.int .i64 (dec bs).1), .val (.int .i64 (dec bs).2)]) := by
  obtain ⟨b, bs, rfl⟩ := List.exists_cons_of_ne_nil hne
  have hb := lead_bd b.toNat b.toNat_lt
  have hlead := lead_c b
  obtain ⟨⟨m, r0⟩, hL⟩ : ∃ p, lead b.toNat = p := ⟨_, rfl⟩
  rw [hL] at hb hlead
  simp only [List.length_cons] at hl
  dsimp only at hb hlead
  refine CallE.mk (X := X) Try.func73 rfl rfl Try.ntmps73 rfl rfl ?_
  repeat' (first | refine TL.callE (X := X) fn80 hlead rfl rfl rfl rfl ?_ | refine TL.indexAddr (X := X) rfl rfl rfl rfl rfl (by decide) (byteD b) rfl rfl ?_ | refine TL.pure rfl rfl ?_ | refine TL.done ?_ | refine TL.store' rfl rfl rfl rfl rfl rfl rfl rfl ?_ | refine TL.loadPtr rfl rfl rfl rfl rfl ?_ | refine TL.build rfl rfl rfl rfl rfl rfl ?_ | refine TL.pickT rfl rfl rfl ?_ | refine TL.pickF rfl rfl rfl ?_ | refine T.seq ?_ | refine T.region ?_ | refine T.condT rfl ?_ | refine T.condF rfl ?_ | refine TL.on rfl rfl rfl rfl ?_ | refine TL.offT rfl rfl rfl rfl rfl rfl ?_ | refine TL.offF rfl rfl rfl rfl rfl rfl ?_ | refine TL.offU rfl rfl rfl rfl rfl rfl ?_ | (refine T.condD rfl (fun _ => ?_) (fun _ => ?_) <;> try (exfalso; omega)) | (refine T.condE rfl (fun _ => ?_) (fun _ => ?_) <;> try (exfalso; omega)) | (refine T.condNe rfl (fun _ => ?_) (fun _ => ?_) <;> try (exfalso; omega)) | refine T.condN rfl (fun _ => ?_) (fun _ => ?_) | refine T.cond rfl (fun _ => ?_) (fun _ => ?_) | (refine TL.gD rfl rfl rfl rfl (fun _ => ?_) (fun _ => ?_) <;> try (exfalso; omega)) | (refine TL.gE rfl rfl rfl rfl (fun _ => ?_) (fun _ => ?_) <;> try (exfalso; omega)) | (refine TL.gNe rfl rfl rfl rfl (fun _ => ?_) (fun _ => ?_) <;> try (exfalso; omega)) | refine TL.gN rfl rfl rfl rfl (fun _ => ?_) (fun _ => ?_) | refine TL.gB rfl rfl rfl rfl (fun _ => ?_) (fun _ => ?_) | refine T.block ?_ | (refine T.exit ?_; show T X _ _ _) | refine TL.doneB ?_ | refine T.skipDone ?_ | refine T.skipDoneB ?_ | refine T.ret (T.retPost rfl ?_) | refine TL.nil (T.endPost rfl ?_))
  · exact pair_eq (dec_no hL (by omega))
  · rename_i h1 h2
    exact pair_eq (dec_no hL (by simp only [List.length_map, List.length_cons] at h2; omega))
  · rename_i h1 h2
    simp only [List.length_map, List.length_cons] at h2
    have hyes := dec_yes (bs := bs) hL (by omega)
    have hq : (IntKind.i64.wrap (m + 1)).toNat = m.toNat + 1 := by rw [wrapI (by omega)]; omega
    have hq0 : 0 ≤ IntKind.i64.wrap (m + 1) := by rw [wrapI (by omega)]; omega
    have hm3 : m.toNat ≤ 3 := by omega
    have hLlen : (bs.take m.toNat).length = m.toNat := by rw [List.length_take]; omega
    generalize hLL : bs.take m.toNat = L at hyes hLlen
    refine TL.slice (X := X) _ _ rfl rfl rfl rfl (.some rfl (by decide)) (.some rfl hq0) (by rw [hq]; simp) (by rw [hq]; simp; omega) rfl (l' := L.map byteD) (by rw [hq, ← hLL]; simp) ?_
    repeat' (first | refine TL.pure rfl rfl ?_ | refine TL.done ?_ | refine TL.store' rfl rfl rfl rfl rfl rfl rfl rfl ?_ | refine TL.loadPtr rfl rfl rfl rfl rfl ?_ | refine TL.build rfl rfl rfl rfl rfl rfl ?_ | refine TL.pickT rfl rfl rfl ?_ | refine TL.pickF rfl rfl rfl ?_ | refine T.seq ?_ | refine T.region ?_ | refine T.condT rfl ?_ | refine T.condF rfl ?_ | refine TL.on rfl rfl rfl rfl ?_ | refine TL.offT rfl rfl rfl rfl rfl rfl ?_ | refine TL.offF rfl rfl rfl rfl rfl rfl ?_ | refine TL.offU rfl rfl rfl rfl rfl rfl ?_ | (refine T.condD rfl (fun _ => ?_) (fun _ => ?_) <;> try (exfalso; omega)) | (refine T.condE rfl (fun _ => ?_) (fun _ => ?_) <;> try (exfalso; omega)) | (refine T.condNe rfl (fun _ => ?_) (fun _ => ?_) <;> try (exfalso; omega)) | refine T.condN rfl (fun _ => ?_) (fun _ => ?_) | refine T.cond rfl (fun _ => ?_) (fun _ => ?_) | (refine TL.gD rfl rfl rfl rfl (fun _ => ?_) (fun _ => ?_) <;> try (exfalso; omega)) | (refine TL.gE rfl rfl rfl rfl (fun _ => ?_) (fun _ => ?_) <;> try (exfalso; omega)) | (refine TL.gNe rfl rfl rfl rfl (fun _ => ?_) (fun _ => ?_) <;> try (exfalso; omega)) | refine TL.gN rfl rfl rfl rfl (fun _ => ?_) (fun _ => ?_) | refine TL.gB rfl rfl rfl rfl (fun _ => ?_) (fun _ => ?_) | refine T.block ?_ | (refine T.exit ?_; show T X _ _ _) | refine TL.doneB ?_ | refine T.skipDone ?_ | refine T.skipDoneB ?_ | refine T.ret (T.retPost rfl ?_) | refine TL.nil (T.endPost rfl ?_))
    refine T.only [0, 4, 5, 26, 27, 28] rfl ?_
    refine T.loop (fun S => ∃ (j : Nat) (r : Int), S = ⟨[(28, .val (.int .i64 j)), (27, .val (.int .i64 (L.map byteD).length)), (26, .sl 1 (L.map byteD)), (5, .val (.int .i64 r)), (4, .val (.int .i64 m)), (0, .sl 1 ((b :: bs).map byteD))], [], 54⟩ ∧ j ≤ L.length ∧ 0 ≤ r ∧ r < 128 * 64 ^ j ∧ cont r0 L = cont r (L.drop j))
      (fun S => match lk S.sl 28 with | some (.val (.int _ i)) => L.length - i.toNat | _ => 0) ⟨0, r0, rfl, Nat.zero_le _, hb.2.2.1, by simpa using hb.2.2.2, rfl⟩ ?_
    rintro S ⟨j, r, rfl, hj, hr0, hr1, hcont⟩
    have hp := pow64_le (j := j) (by omega)
    repeat' (first | refine TL.pure rfl rfl ?_ | refine TL.done ?_ | refine TL.store' rfl rfl rfl rfl rfl rfl rfl rfl ?_ | refine TL.loadPtr rfl rfl rfl rfl rfl ?_ | refine TL.build rfl rfl rfl rfl rfl rfl ?_ | refine TL.pickT rfl rfl rfl ?_ | refine TL.pickF rfl rfl rfl ?_ | refine T.seq ?_ | refine T.region ?_ | refine T.condT rfl ?_ | refine T.condF rfl ?_ | refine TL.on rfl rfl rfl rfl ?_ | refine TL.offT rfl rfl rfl rfl rfl rfl ?_ | refine TL.offF rfl rfl rfl rfl rfl rfl ?_ | refine TL.offU rfl rfl rfl rfl rfl rfl ?_ | (refine T.condD rfl (fun _ => ?_) (fun _ => ?_) <;> try (exfalso; omega)) | (refine T.condE rfl (fun _ => ?_) (fun _ => ?_) <;> try (exfalso; omega)) | (refine T.condNe rfl (fun _ => ?_) (fun _ => ?_) <;> try (exfalso; omega)) | refine T.condN rfl (fun _ => ?_) (fun _ => ?_) | refine T.cond rfl (fun _ => ?_) (fun _ => ?_) | (refine TL.gD rfl rfl rfl rfl (fun _ => ?_) (fun _ => ?_) <;> try (exfalso; omega)) | (refine TL.gE rfl rfl rfl rfl (fun _ => ?_) (fun _ => ?_) <;> try (exfalso; omega)) | (refine TL.gNe rfl rfl rfl rfl (fun _ => ?_) (fun _ => ?_) <;> try (exfalso; omega)) | refine TL.gN rfl rfl rfl rfl (fun _ => ?_) (fun _ => ?_) | refine TL.gB rfl rfl rfl rfl (fun _ => ?_) (fun _ => ?_) | refine T.block ?_ | (refine T.exit ?_; show T X _ _ _) | refine TL.doneB ?_ | refine T.skipDone ?_ | refine T.skipDoneB ?_ | refine T.ret (T.retPost rfl ?_) | refine TL.nil (T.endPost rfl ?_))
    · rename_i h
      have hj' : j < L.length := by simpa using h
      have hc : L[j]? = some L[j] := List.getElem?_eq_getElem hj'
      have h256 := L[j].toNat_lt
      have hp' := pow64_le (j := j + 1) (by omega)
      generalize L[j] = c at hc h256
      repeat' (first | refine TL.indexAddr (X := X) rfl rfl rfl rfl rfl (by omega) (byteD c) (by simp [hc]) rfl ?_ | refine TL.pure rfl rfl ?_ | refine TL.done ?_ | refine TL.store' rfl rfl rfl rfl rfl rfl rfl rfl ?_ | refine TL.loadPtr rfl rfl rfl rfl rfl ?_ | refine TL.build rfl rfl rfl rfl rfl rfl ?_ | refine TL.pickT rfl rfl rfl ?_ | refine TL.pickF rfl rfl rfl ?_ | refine T.seq ?_ | refine T.region ?_ | refine T.condT rfl ?_ | refine T.condF rfl ?_ | refine TL.on rfl rfl rfl rfl ?_ | refine TL.offT rfl rfl rfl rfl rfl rfl ?_ | refine TL.offF rfl rfl rfl rfl rfl rfl ?_ | refine TL.offU rfl rfl rfl rfl rfl rfl ?_ | (refine T.condD rfl (fun _ => ?_) (fun _ => ?_) <;> try (exfalso; omega)) | (refine T.condE rfl (fun _ => ?_) (fun _ => ?_) <;> try (exfalso; omega)) | (refine T.condNe rfl (fun _ => ?_) (fun _ => ?_) <;> try (exfalso; omega)) | refine T.condN rfl (fun _ => ?_) (fun _ => ?_) | refine T.cond rfl (fun _ => ?_) (fun _ => ?_) | (refine TL.gD rfl rfl rfl rfl (fun _ => ?_) (fun _ => ?_) <;> try (exfalso; omega)) | (refine TL.gE rfl rfl rfl rfl (fun _ => ?_) (fun _ => ?_) <;> try (exfalso; omega)) | (refine TL.gNe rfl rfl rfl rfl (fun _ => ?_) (fun _ => ?_) <;> try (exfalso; omega)) | refine TL.gN rfl rfl rfl rfl (fun _ => ?_) (fun _ => ?_) | refine TL.gB rfl rfl rfl rfl (fun _ => ?_) (fun _ => ?_) | refine T.block ?_ | (refine T.exit ?_; show T X _ _ _) | refine TL.doneB ?_ | refine T.skipDone ?_ | refine T.skipDoneB ?_ | refine T.ret (T.retPost rfl ?_) | refine TL.nil (T.endPost rfl ?_))
      · rename_i h4
        rw [and192 _ h256] at h4
        exact pair_eq (by rw [hyes, hcont, cont_drop hc, if_neg h4])
      · rename_i h4
        rw [and192 _ h256] at h4
        refine TL.only [0, 4, 5, 26, 27, 28] rfl (TL.nil (show _ ∧ _ from ⟨⟨j + 1, r * 64 + (c.toNat % 64 : Nat), ?_, by omega, by omega, by rw [Int.pow_succ]; omega, ?_⟩, ?_⟩))
        · simp only [and63 _ h256]
          rw [or64 hr0 (by omega) (by omega), wrapI (by omega)]
          rfl
        · exact hcont.trans (by rw [cont_drop hc, if_pos h4])
        · show L.length - (IntKind.i64.wrap ((j : Int) + 1)).toNat < L.length - ((j : Int)).toNat
          rw [wrapI (by omega)]; omega
    · rename_i h
      have hj' : j = L.length := by simp only [List.length_map] at h; omega
      subst hj'
      rw [List.drop_length] at hcont
      have hfin : cont r0 L = some r := hcont
      repeat' (first | refine TL.callE (X := X) fn69 (scalar_c _) rfl rfl rfl rfl ?_ | refine TL.callE (X := X) fn81 (least_c _) rfl rfl rfl rfl ?_ | refine TL.pure rfl rfl ?_ | refine TL.done ?_ | refine TL.store' rfl rfl rfl rfl rfl rfl rfl rfl ?_ | refine TL.loadPtr rfl rfl rfl rfl rfl ?_ | refine TL.build rfl rfl rfl rfl rfl rfl ?_ | refine TL.pickT rfl rfl rfl ?_ | refine TL.pickF rfl rfl rfl ?_ | refine T.seq ?_ | refine T.region ?_ | refine T.condT rfl ?_ | refine T.condF rfl ?_ | refine TL.on rfl rfl rfl rfl ?_ | refine TL.offT rfl rfl rfl rfl rfl rfl ?_ | refine TL.offF rfl rfl rfl rfl rfl rfl ?_ | refine TL.offU rfl rfl rfl rfl rfl rfl ?_ | (refine T.condD rfl (fun _ => ?_) (fun _ => ?_) <;> try (exfalso; omega)) | (refine T.condE rfl (fun _ => ?_) (fun _ => ?_) <;> try (exfalso; omega)) | (refine T.condNe rfl (fun _ => ?_) (fun _ => ?_) <;> try (exfalso; omega)) | refine T.condN rfl (fun _ => ?_) (fun _ => ?_) | refine T.cond rfl (fun _ => ?_) (fun _ => ?_) | (refine TL.gD rfl rfl rfl rfl (fun _ => ?_) (fun _ => ?_) <;> try (exfalso; omega)) | (refine TL.gE rfl rfl rfl rfl (fun _ => ?_) (fun _ => ?_) <;> try (exfalso; omega)) | (refine TL.gNe rfl rfl rfl rfl (fun _ => ?_) (fun _ => ?_) <;> try (exfalso; omega)) | refine TL.gN rfl rfl rfl rfl (fun _ => ?_) (fun _ => ?_) | refine TL.gB rfl rfl rfl rfl (fun _ => ?_) (fun _ => ?_) | refine T.block ?_ | (refine T.exit ?_; show T X _ _ _) | refine TL.doneB ?_ | refine T.skipDone ?_ | refine T.skipDoneB ?_ | refine T.ret (T.retPost rfl ?_) | refine TL.nil (T.endPost rfl ?_))
      · rename_i h4
        exact pair_eq (by rw [hyes, hfin]; exact if_neg (fun h => by rw [h4] at h; exact absurd h.1 (by simp)))
      · rename_i h4 h5
        exact pair_eq (by rw [hyes, hfin]; exact if_neg (fun h => h.2 h5))
      · rename_i h4 h5
        exact pair_eq (by rw [hyes, hfin, wrapI (by omega)]; exact if_pos ⟨h4, h5⟩)

/-! ### the character at a place -/
def atS (bs : List UInt8) (i : Int) : Int × Int := if 0 ≤ i ∧ i < bs.length then dec (bs.drop i.toNat) else (-1, 0)
theorem atS_yes {bs : List UInt8} {i : Int} (h : decide (0 ≤ i ∧ i < (bs.length : Int)) = true) : atS bs i = dec (bs.drop i.toNat) := if_pos (of_decide_eq_true h)
theorem atS_no {bs : List UInt8} {i : Int} (h : decide (0 ≤ i ∧ i < (bs.length : Int)) = false) : atS bs i = (-1, 0) := if_neg (of_decide_eq_false h)
theorem Size_c (bs : List UInt8) (i : Int) (hl : bs.length ≤ 4611686018427387904) : CallE X 42 [.sl 1 (bs.map byteD), .val (.int .i64 i)] (.val (.int .i64 (atS bs i).2)) := by
  have hw := within_c (bs.map byteD) i
  rw [List.length_map] at hw
  refine CallE.mk (X := X) Try.func42 rfl rfl Try.ntmps42 rfl rfl ?_
  repeat' (first | refine TL.callE (X := X) fn72 hw rfl rfl rfl rfl ?_ | refine TL.pure rfl rfl ?_ | refine TL.done ?_ | refine TL.store' rfl rfl rfl rfl rfl rfl rfl rfl ?_ | refine TL.loadPtr rfl rfl rfl rfl rfl ?_ | refine TL.build rfl rfl rfl rfl rfl rfl ?_ | refine TL.pickT rfl rfl rfl ?_ | refine TL.pickF rfl rfl rfl ?_ | refine T.seq ?_ | refine T.region ?_ | refine T.condT rfl ?_ | refine T.condF rfl ?_ | refine TL.on rfl rfl rfl rfl ?_ | refine TL.offT rfl rfl rfl rfl rfl rfl ?_ | refine TL.offF rfl rfl rfl rfl rfl rfl ?_ | refine TL.offU rfl rfl rfl rfl rfl rfl ?_ | (refine T.condD rfl (fun _ => ?_) (fun _ => ?_) <;> try (exfalso; omega)) | (refine T.condE rfl (fun _ => ?_) (fun _ => ?_) <;> try (exfalso; omega)) | (refine T.condNe rfl (fun _ => ?_) (fun _ => ?_) <;> try (exfalso; omega)) | refine T.condN rfl (fun _ => ?_) (fun _ => ?_) | refine T.cond rfl (fun _ => ?_) (fun _ => ?_) | (refine TL.gD rfl rfl rfl rfl (fun _ => ?_) (fun _ => ?_) <;> try (exfalso; omega)) | (refine TL.gE rfl rfl rfl rfl (fun _ => ?_) (fun _ => ?_) <;> try (exfalso; omega)) | (refine TL.gNe rfl rfl rfl rfl (fun _ => ?_) (fun _ => ?_) <;> try (exfalso; omega)) | refine TL.gN rfl rfl rfl rfl (fun _ => ?_) (fun _ => ?_) | refine TL.gB rfl rfl rfl rfl (fun _ => ?_) (fun _ => ?_) | refine T.block ?_ | (refine T.exit ?_; show T X _ _ _) | refine TL.doneB ?_ | refine T.skipDone ?_ | refine T.skipDoneB ?_ | refine T.ret (T.retPost rfl ?_) | refine TL.nil (T.endPost rfl ?_))
  · rename_i h
    exact int_eq (by rw [atS_no h])
  · rename_i h
    have h' := of_decide_eq_true h
    refine TL.slice (X := X) _ _ rfl rfl rfl rfl (.some rfl h'.1) .none (by simp; omega) (Nat.le_refl _) rfl (l' := (bs.drop i.toNat).map byteD) (by rw [List.take_of_length_le (by simp), List.map_drop]) ?_
    repeat' (first | refine TL.callE (X := X) fn73 (decode_c (bs.drop i.toNat) (by simp; omega) (by simp; omega)) rfl rfl rfl rfl ?_ | refine TL.pure rfl rfl ?_ | refine TL.done ?_ | refine TL.store' rfl rfl rfl rfl rfl rfl rfl rfl ?_ | refine TL.loadPtr rfl rfl rfl rfl rfl ?_ | refine TL.build rfl rfl rfl rfl rfl rfl ?_ | refine TL.pickT rfl rfl rfl ?_ | refine TL.pickF rfl rfl rfl ?_ | refine T.seq ?_ | refine T.region ?_ | refine T.condT rfl ?_ | refine T.condF rfl ?_ | refine TL.on rfl rfl rfl rfl ?_ | refine TL.offT rfl rfl rfl rfl rfl rfl ?_ | refine TL.offF rfl rfl rfl rfl rfl rfl ?_ | refine TL.offU rfl rfl rfl rfl rfl rfl ?_ | (refine T.condD rfl (fun _ => ?_) (fun _ => ?_) <;> try (exfalso; omega)) | (refine T.condE rfl (fun _ => ?_) (fun _ => ?_) <;> try (exfalso; omega)) | (refine T.condNe rfl (fun _ => ?_) (fun _ => ?_) <;> try (exfalso; omega)) | refine T.condN rfl (fun _ => ?_) (fun _ => ?_) | refine T.cond rfl (fun _ => ?_) (fun _ => ?_) | (refine TL.gD rfl rfl rfl rfl (fun _ => ?_) (fun _ => ?_) <;> try (exfalso; omega)) | (refine TL.gE rfl rfl rfl rfl (fun _ => ?_) (fun _ => ?_) <;> try (exfalso; omega)) | (refine TL.gNe rfl rfl rfl rfl (fun _ => ?_) (fun _ => ?_) <;> try (exfalso; omega)) | refine TL.gN rfl rfl rfl rfl (fun _ => ?_) (fun _ => ?_) | refine TL.gB rfl rfl rfl rfl (fun _ => ?_) (fun _ => ?_) | refine T.block ?_ | (refine T.exit ?_; show T X _ _ _) | refine TL.doneB ?_ | refine T.skipDone ?_ | refine T.skipDoneB ?_ | refine T.ret (T.retPost rfl ?_) | refine TL.nil (T.endPost rfl ?_))
    exact int_eq (by rw [atS_yes h])
theorem Rune_c (bs : List UInt8) (i : Int) (hl : bs.length ≤ 4611686018427387904) : CallE X 41 [.sl 1 (bs.map byteD), .val (.int .i64 i)] (.val (.int .i64 (atS bs i).1)) := by
  have hw := within_c (bs.map byteD) i
  rw [List.length_map] at hw
  refine CallE.mk (X := X) Try.func41 rfl rfl Try.ntmps41 rfl rfl ?_
  repeat' (first | refine TL.callE (X := X) fn72 hw rfl rfl rfl rfl ?_ | refine TL.pure rfl rfl ?_ | refine TL.done ?_ | refine TL.store' rfl rfl rfl rfl rfl rfl rfl rfl ?_ | refine TL.loadPtr rfl rfl rfl rfl rfl ?_ | refine TL.build rfl rfl rfl rfl rfl rfl ?_ | refine TL.pickT rfl rfl rfl ?_ | refine TL.pickF rfl rfl rfl ?_ | refine T.seq ?_ | refine T.region ?_ | refine T.condT rfl ?_ | refine T.condF rfl ?_ | refine TL.on rfl rfl rfl rfl ?_ | refine TL.offT rfl rfl rfl rfl rfl rfl ?_ | refine TL.offF rfl rfl rfl rfl rfl rfl ?_ | refine TL.offU rfl rfl rfl rfl rfl rfl ?_ | (refine T.condD rfl (fun _ => ?_) (fun _ => ?_) <;> try (exfalso; omega)) | (refine T.condE rfl (fun _ => ?_) (fun _ => ?_) <;> try (exfalso; omega)) | (refine T.condNe rfl (fun _ => ?_) (fun _ => ?_) <;> try (exfalso; omega)) | refine T.condN rfl (fun _ => ?_) (fun _ => ?_) | refine T.cond rfl (fun _ => ?_) (fun _ => ?_) | (refine TL.gD rfl rfl rfl rfl (fun _ => ?_) (fun _ => ?_) <;> try (exfalso; omega)) | (refine TL.gE rfl rfl rfl rfl (fun _ => ?_) (fun _ => ?_) <;> try (exfalso; omega)) | (refine TL.gNe rfl rfl rfl rfl (fun _ => ?_) (fun _ => ?_) <;> try (exfalso; omega)) | refine TL.gN rfl rfl rfl rfl (fun _ => ?_) (fun _ => ?_) | refine TL.gB rfl rfl rfl rfl (fun _ => ?_) (fun _ => ?_) | refine T.block ?_ | (refine T.exit ?_; show T X _ _ _) | refine TL.doneB ?_ | refine T.skipDone ?_ | refine T.skipDoneB ?_ | refine T.ret (T.retPost rfl ?_) | refine TL.nil (T.endPost rfl ?_))
  · rename_i h
    exact int_eq (by rw [atS_no h])
  · rename_i h
    have h' := of_decide_eq_true h
    refine TL.slice (X := X) _ _ rfl rfl rfl rfl (.some rfl h'.1) .none (by simp; omega) (Nat.le_refl _) rfl (l' := (bs.drop i.toNat).map byteD) (by rw [List.take_of_length_le (by simp), List.map_drop]) ?_
    repeat' (first | refine TL.callE (X := X) fn73 (decode_c (bs.drop i.toNat) (by simp; omega) (by simp; omega)) rfl rfl rfl rfl ?_ | refine TL.pure rfl rfl ?_ | refine TL.done ?_ | refine TL.store' rfl rfl rfl rfl rfl rfl rfl rfl ?_ | refine TL.loadPtr rfl rfl rfl rfl rfl ?_ | refine TL.build rfl rfl rfl rfl rfl rfl ?_ | refine TL.pickT rfl rfl rfl ?_ | refine TL.pickF rfl rfl rfl ?_ | refine T.seq ?_ | refine T.region ?_ | refine T.condT rfl ?_ | refine T.condF rfl ?_ | refine TL.on rfl rfl rfl rfl ?_ | refine TL.offT rfl rfl rfl rfl rfl rfl ?_ | refine TL.offF rfl rfl rfl rfl rfl rfl ?_ | refine TL.offU rfl rfl rfl rfl rfl rfl ?_ | (refine T.condD rfl (fun _ => ?_) (fun _ => ?_) <;> try (exfalso; omega)) | (refine T.condE rfl (fun _ => ?_) (fun _ => ?_) <;> try (exfalso; omega)) | (refine T.condNe rfl (fun _ => ?_) (fun _ => ?_) <;> try (exfalso; omega)) | refine T.condN rfl (fun _ => ?_) (fun _ => ?_) | refine T.cond rfl (fun _ => ?_) (fun _ => ?_) | (refine TL.gD rfl rfl rfl rfl (fun _ => ?_) (fun _ => ?_) <;> try (exfalso; omega)) | (refine TL.gE rfl rfl rfl rfl (fun _ => ?_) (fun _ => ?_) <;> try (exfalso; omega)) | (refine TL.gNe rfl rfl rfl rfl (fun _ => ?_) (fun _ => ?_) <;> try (exfalso; omega)) | refine TL.gN rfl rfl rfl rfl (fun _ => ?_) (fun _ => ?_) | refine TL.gB rfl rfl rfl rfl (fun _ => ?_) (fun _ => ?_) | refine T.block ?_ | (refine T.exit ?_; show T X _ _ _) | refine TL.doneB ?_ | refine T.skipDone ?_ | refine T.skipDoneB ?_ | refine T.ret (T.retPost rfl ?_) | refine TL.nil (T.endPost rfl ?_))
    exact int_eq (by rw [atS_yes h])
end Go.Proofs.Ytbogkjbjgcclnaa
