/- Package utf and ref01: First; the law UtfCounts. -/
import Derived.Test.YtbogkjbjgcclnaaUtfJ
namespace Go.Proofs.Ytbogkjbjgcclnaa
open Go Go.Am
/-- The place so many characters behind a place. -/
def nth (bs : List UInt8) : Nat → Nat → Nat
  | i, 0 => i
  | i, k + 1 => if i < bs.length then nth bs (i + (dec (bs.drop i)).2.toNat) k else i
theorem nth_end {bs : List UInt8} {i : Nat} (h : ¬ i < bs.length) : ∀ k, nth bs i k = i
  | 0 => rfl
  | k + 1 => by rw [nth, if_neg h]
theorem nth_get {bs : List UInt8} : ∀ (k i : Nat), i ≤ bs.length → (k < (i :: bndA bs i).length → (i :: bndA bs i)[k]? = some (nth bs i k)) ∧ ((i :: bndA bs i).length ≤ k → nth bs i k = bs.length)
  | 0, i, h => ⟨fun _ => rfl, fun h' => by simp at h'⟩
  | k + 1, i, h => by
    by_cases hi : i < bs.length
    · have hb := step_bd hi
      have ih := nth_get k (i + (dec (bs.drop i)).2.toNat) hb.2
      rw [bndA_yes hi, nth, if_pos hi]
      refine ⟨fun h' => ?_, fun h' => ?_⟩
      · rw [List.getElem?_cons_succ]; exact ih.1 (by simpa using h')
      · exact ih.2 (by simpa using h')
    · rw [bndA_no hi, nth_end hi]
      refine ⟨fun h' => by simp at h', fun _ => by omega⟩
attribute [local irreducible] T TL CallT Decidable.decide
theorem First_c (bs : List UInt8) (m : Int) (hm : m ≤ 9223372036854775807) (hl : bs.length ≤ 4611686018427387904) : CallE X 39 [.sl 1 (bs.map byteD), .val (.int .i64 m)] (.val (.int .i64 (nth bs 0 m.toNat))) := by
  refine CallE.mk (X := X) Try.func39 rfl rfl Try.ntmps39 rfl rfl ?_
  repeat' (first | refine TL.pure rfl rfl ?_ | refine TL.done ?_ | refine TL.store' rfl rfl rfl rfl rfl rfl rfl rfl ?_ | refine TL.loadPtr rfl rfl rfl rfl rfl ?_ | refine TL.build rfl rfl rfl rfl rfl rfl ?_ | refine TL.pickT rfl rfl rfl ?_ | refine TL.pickF rfl rfl rfl ?_ | refine T.seq ?_ | refine T.region ?_ | refine T.condT rfl ?_ | refine T.condF rfl ?_ | refine TL.on rfl rfl rfl rfl ?_ | refine TL.offT rfl rfl rfl rfl rfl rfl ?_ | refine TL.offF rfl rfl rfl rfl rfl rfl ?_ | refine TL.offU rfl rfl rfl rfl rfl rfl ?_ | (refine T.condD rfl (fun _ => ?_) (fun _ => ?_) <;> try (exfalso; omega)) | (refine T.condE rfl (fun _ => ?_) (fun _ => ?_) <;> try (exfalso; omega)) | (refine T.condNe rfl (fun _ => ?_) (fun _ => ?_) <;> try (exfalso; omega)) | refine T.condN rfl (fun _ => ?_) (fun _ => ?_) | refine T.cond rfl (fun _ => ?_) (fun _ => ?_) | (refine TL.gD rfl rfl rfl rfl (fun _ => ?_) (fun _ => ?_) <;> try (exfalso; omega)) | (refine TL.gE rfl rfl rfl rfl (fun _ => ?_) (fun _ => ?_) <;> try (exfalso; omega)) | (refine TL.gNe rfl rfl rfl rfl (fun _ => ?_) (fun _ => ?_) <;> try (exfalso; omega)) | refine TL.gN rfl rfl rfl rfl (fun _ => ?_) (fun _ => ?_) | refine TL.gB rfl rfl rfl rfl (fun _ => ?_) (fun _ => ?_) | refine T.block ?_ | (refine T.exit ?_; show T X _ _ _) | refine TL.doneB ?_ | refine T.skipDone ?_ | refine T.skipDoneB ?_ | refine T.ret (T.retPost rfl ?_) | refine TL.nil (T.endPost rfl ?_))
  refine T.only [0, 1, 5] rfl ?_
  refine T.loop (fun S => ∃ (i : Nat) (k : Int), S = ⟨[(5, .val (.int .i64 i)), (1, .val (.int .i64 k)), (0, .sl 1 (bs.map byteD))], [], 22⟩ ∧ i ≤ bs.length ∧ k ≤ 9223372036854775807 ∧ nth bs i k.toNat = nth bs 0 m.toNat)
      (fun S => match lk S.sl 5 with | some (.val (.int _ i)) => bs.length - i.toNat | _ => 0) ⟨0, m, rfl, Nat.zero_le _, hm, rfl⟩ ?_
  rintro S ⟨i, k, rfl, hi, hk, hc⟩
  have hs := Size_c bs i hl
  repeat' (first | refine TL.callE (X := X) fn42 hs rfl rfl rfl rfl ?_ | refine TL.pure rfl rfl ?_ | refine TL.done ?_ | refine TL.store' rfl rfl rfl rfl rfl rfl rfl rfl ?_ | refine TL.loadPtr rfl rfl rfl rfl rfl ?_ | refine TL.build rfl rfl rfl rfl rfl rfl ?_ | refine TL.pickT rfl rfl rfl ?_ | refine TL.pickF rfl rfl rfl ?_ | refine T.seq ?_ | refine T.region ?_ | refine T.condT rfl ?_ | refine T.condF rfl ?_ | refine TL.on rfl rfl rfl rfl ?_ | refine TL.offT rfl rfl rfl rfl rfl rfl ?_ | refine TL.offF rfl rfl rfl rfl rfl rfl ?_ | refine TL.offU rfl rfl rfl rfl rfl rfl ?_ | (refine T.condD rfl (fun _ => ?_) (fun _ => ?_) <;> try (exfalso; omega)) | (refine T.condE rfl (fun _ => ?_) (fun _ => ?_) <;> try (exfalso; omega)) | (refine T.condNe rfl (fun _ => ?_) (fun _ => ?_) <;> try (exfalso; omega)) | refine T.condN rfl (fun _ => ?_) (fun _ => ?_) | refine T.cond rfl (fun _ => ?_) (fun _ => ?_) | (refine TL.gD rfl rfl rfl rfl (fun _ => ?_) (fun _ => ?_) <;> try (exfalso; omega)) | (refine TL.gE rfl rfl rfl rfl (fun _ => ?_) (fun _ => ?_) <;> try (exfalso; omega)) | (refine TL.gNe rfl rfl rfl rfl (fun _ => ?_) (fun _ => ?_) <;> try (exfalso; omega)) | refine TL.gN rfl rfl rfl rfl (fun _ => ?_) (fun _ => ?_) | refine TL.gB rfl rfl rfl rfl (fun _ => ?_) (fun _ => ?_) | refine T.block ?_ | (refine T.exit ?_; show T X _ _ _) | refine TL.doneB ?_ | refine T.skipDone ?_ | refine T.skipDoneB ?_ | refine T.ret (T.retPost rfl ?_) | refine TL.nil (T.endPost rfl ?_))
  · rename_i h0 h
    have h' : i < bs.length := by simpa using h
    have hb := step_bd h'
    have e1 : IntKind.i64.wrap ((i : Int) + (atS bs i).2) = ((i + (dec (bs.drop i)).2.toNat : Nat) : Int) := by
      rw [atS, if_pos (by omega), Int.toNat_natCast, wrapI (by omega)]; omega
    rw [e1, wrapI (n := k - 1) (by omega)]
    rw [show k.toNat = (k - 1).toNat + 1 by omega, nth, if_pos h'] at hc
    refine TL.only [0, 1, 5] rfl (TL.nil (show _ ∧ _ from ⟨⟨_, _, rfl, hb.2, by omega, hc⟩, ?_⟩))
    show bs.length - Int.toNat _ < bs.length - Int.toNat _
    omega
  · rename_i h0 h
    have h' : ¬ i < bs.length := by simpa using h
    rw [nth_end h'] at hc
    exact int_eq (by rw [hc])
  · rename_i h0
    rw [show k.toNat = 0 by omega, nth] at hc
    exact int_eq (by rw [hc])
theorem refFirst_c (s : ByteArray) (m : Int) (hl : s.size ≤ 1000000000000) : CallE X 40 [.val (.string s), .val (.int .i64 m)] (.val (.int .i64 (nth s.data.toList 0 m.toNat))) := by
  have hB := Bounds_c s hl
  have hsz : s.size = s.data.toList.length := rfl
  have hg := nth_get m.toNat 0 (bs := s.data.toList) (Nat.zero_le _)
  generalize hL : (0 :: bndA s.data.toList 0) = L at hB hg
  refine CallE.mk (X := X) Try.func40 rfl rfl Try.ntmps40 rfl rfl ?_
  repeat' (first | refine TL.callE (X := X) fn71 hB rfl rfl rfl rfl ?_ | refine TL.pure rfl rfl ?_ | refine TL.done ?_ | refine TL.store' rfl rfl rfl rfl rfl rfl rfl rfl ?_ | refine TL.loadPtr rfl rfl rfl rfl rfl ?_ | refine TL.build rfl rfl rfl rfl rfl rfl ?_ | refine TL.pickT rfl rfl rfl ?_ | refine TL.pickF rfl rfl rfl ?_ | refine T.seq ?_ | refine T.region ?_ | refine T.condT rfl ?_ | refine T.condF rfl ?_ | refine TL.on rfl rfl rfl rfl ?_ | refine TL.offT rfl rfl rfl rfl rfl rfl ?_ | refine TL.offF rfl rfl rfl rfl rfl rfl ?_ | refine TL.offU rfl rfl rfl rfl rfl rfl ?_ | (refine T.condD rfl (fun _ => ?_) (fun _ => ?_) <;> try (exfalso; omega)) | (refine T.condE rfl (fun _ => ?_) (fun _ => ?_) <;> try (exfalso; omega)) | (refine T.condNe rfl (fun _ => ?_) (fun _ => ?_) <;> try (exfalso; omega)) | refine T.condN rfl (fun _ => ?_) (fun _ => ?_) | refine T.cond rfl (fun _ => ?_) (fun _ => ?_) | (refine TL.gD rfl rfl rfl rfl (fun _ => ?_) (fun _ => ?_) <;> try (exfalso; omega)) | (refine TL.gE rfl rfl rfl rfl (fun _ => ?_) (fun _ => ?_) <;> try (exfalso; omega)) | (refine TL.gNe rfl rfl rfl rfl (fun _ => ?_) (fun _ => ?_) <;> try (exfalso; omega)) | refine TL.gN rfl rfl rfl rfl (fun _ => ?_) (fun _ => ?_) | refine TL.gB rfl rfl rfl rfl (fun _ => ?_) (fun _ => ?_) | refine T.block ?_ | (refine T.exit ?_; show T X _ _ _) | refine TL.doneB ?_ | refine T.skipDone ?_ | refine T.skipDoneB ?_ | refine T.ret (T.retPost rfl ?_) | refine TL.nil (T.endPost rfl ?_))
  · exact int_eq (by rw [show m.toNat = 0 by omega]; rfl)
  · rename_i h1 h2
    simp only [List.length_map] at h2
    exact int_eq (by rw [hg.2 (by omega), hsz])
  · rename_i h1 h2
    simp only [List.length_map] at h2
    have hg1 := hg.1 (by omega)
    refine TL.indexAddr (X := X) rfl rfl rfl rfl rfl (by omega) (nD (nth s.data.toList 0 m.toNat)) (by rw [List.getElem?_map, hg1]; rfl) rfl ?_
    repeat' (first | refine TL.pure rfl rfl ?_ | refine TL.done ?_ | refine TL.store' rfl rfl rfl rfl rfl rfl rfl rfl ?_ | refine TL.loadPtr rfl rfl rfl rfl rfl ?_ | refine TL.build rfl rfl rfl rfl rfl rfl ?_ | refine TL.pickT rfl rfl rfl ?_ | refine TL.pickF rfl rfl rfl ?_ | refine T.seq ?_ | refine T.region ?_ | refine T.condT rfl ?_ | refine T.condF rfl ?_ | refine TL.on rfl rfl rfl rfl ?_ | refine TL.offT rfl rfl rfl rfl rfl rfl ?_ | refine TL.offF rfl rfl rfl rfl rfl rfl ?_ | refine TL.offU rfl rfl rfl rfl rfl rfl ?_ | (refine T.condD rfl (fun _ => ?_) (fun _ => ?_) <;> try (exfalso; omega)) | (refine T.condE rfl (fun _ => ?_) (fun _ => ?_) <;> try (exfalso; omega)) | (refine T.condNe rfl (fun _ => ?_) (fun _ => ?_) <;> try (exfalso; omega)) | refine T.condN rfl (fun _ => ?_) (fun _ => ?_) | refine T.cond rfl (fun _ => ?_) (fun _ => ?_) | (refine TL.gD rfl rfl rfl rfl (fun _ => ?_) (fun _ => ?_) <;> try (exfalso; omega)) | (refine TL.gE rfl rfl rfl rfl (fun _ => ?_) (fun _ => ?_) <;> try (exfalso; omega)) | (refine TL.gNe rfl rfl rfl rfl (fun _ => ?_) (fun _ => ?_) <;> try (exfalso; omega)) | refine TL.gN rfl rfl rfl rfl (fun _ => ?_) (fun _ => ?_) | refine TL.gB rfl rfl rfl rfl (fun _ => ?_) (fun _ => ?_) | refine T.block ?_ | (refine T.exit ?_; show T X _ _ _) | refine TL.doneB ?_ | refine T.skipDone ?_ | refine T.skipDoneB ?_ | refine T.ret (T.retPost rfl ?_) | refine TL.nil (T.endPost rfl ?_))
    rfl
theorem cut_c (s : ByteArray) (m : Int) (h0 : 0 ≤ m) : CallE X 36 [.val (.string s), .val (.int .i64 m)] (.val (.string (if (s.size : Int) > m then s.extract 0 m.toNat else s))) := by
  refine CallE.mk (X := X) Try.func36 rfl rfl Try.ntmps36 rfl rfl ?_
  repeat' (first | refine TL.sliceStr (X := X) 0 m.toNat rfl rfl rfl .none (.some rfl h0) (Nat.zero_le _) (by omega) rfl ?_ | refine TL.pure rfl rfl ?_ | refine TL.done ?_ | refine TL.store' rfl rfl rfl rfl rfl rfl rfl rfl ?_ | refine TL.loadPtr rfl rfl rfl rfl rfl ?_ | refine TL.build rfl rfl rfl rfl rfl rfl ?_ | refine TL.pickT rfl rfl rfl ?_ | refine TL.pickF rfl rfl rfl ?_ | refine T.seq ?_ | refine T.region ?_ | refine T.condT rfl ?_ | refine T.condF rfl ?_ | refine TL.on rfl rfl rfl rfl ?_ | refine TL.offT rfl rfl rfl rfl rfl rfl ?_ | refine TL.offF rfl rfl rfl rfl rfl rfl ?_ | refine TL.offU rfl rfl rfl rfl rfl rfl ?_ | (refine T.condD rfl (fun _ => ?_) (fun _ => ?_) <;> try (exfalso; omega)) | (refine T.condE rfl (fun _ => ?_) (fun _ => ?_) <;> try (exfalso; omega)) | (refine T.condNe rfl (fun _ => ?_) (fun _ => ?_) <;> try (exfalso; omega)) | refine T.condN rfl (fun _ => ?_) (fun _ => ?_) | refine T.cond rfl (fun _ => ?_) (fun _ => ?_) | (refine TL.gD rfl rfl rfl rfl (fun _ => ?_) (fun _ => ?_) <;> try (exfalso; omega)) | (refine TL.gE rfl rfl rfl rfl (fun _ => ?_) (fun _ => ?_) <;> try (exfalso; omega)) | (refine TL.gNe rfl rfl rfl rfl (fun _ => ?_) (fun _ => ?_) <;> try (exfalso; omega)) | refine TL.gN rfl rfl rfl rfl (fun _ => ?_) (fun _ => ?_) | refine TL.gB rfl rfl rfl rfl (fun _ => ?_) (fun _ => ?_) | refine T.block ?_ | (refine T.exit ?_; show T X _ _ _) | refine TL.doneB ?_ | refine T.skipDone ?_ | refine T.skipDoneB ?_ | refine T.ret (T.retPost rfl ?_) | refine TL.nil (T.endPost rfl ?_))
  · rename_i h
    rw [if_pos h]; rfl
  · rename_i h
    rw [if_neg h]; rfl
end Go.Proofs.Ytbogkjbjgcclnaa
