/- The law UtfParts. -/
import Derived.Test.YtbogkjbjgcclnaaUtfR
namespace Go.Proofs.Ytbogkjbjgcclnaa
open Go Go.Am
attribute [local irreducible] T TL CallT Decidable.decide
theorem UtfParts_c (s : ByteArray) (_hs : s.size ≤ 140737488351232) : CallE X 13 [.val (.string s)] (.val (.bool true)) := by
  have hcut : CallE X 36 [.val (.string s), .val (.int .i64 200)] (.val (.string (cutS s 200))) := cut_c s 200 (by decide)
  have hsz := cutS_size s 200
  generalize cutS s 200 = c at hcut hsz
  have hb : c.size = c.data.toList.length := rfl
  generalize hbs : c.data.toList = bs at hb
  have hlen : ((bs.map byteD).length : Int) = bs.length := by rw [List.length_map]
  refine CallE.mk (X := X) Try.func13 rfl rfl Try.ntmps13 rfl rfl ?_
  repeat' (first | refine TL.toBytes (X := X) rfl rfl rfl rfl rfl rfl rfl rfl ?_ | refine TL.callE (X := X) fn36 hcut rfl rfl rfl rfl ?_ | refine TL.pure rfl rfl ?_ | refine TL.done ?_ | refine TL.store' rfl rfl rfl rfl rfl rfl rfl rfl ?_ | refine TL.loadPtr rfl rfl rfl rfl rfl ?_ | refine TL.build rfl rfl rfl rfl rfl rfl ?_ | refine TL.pickT rfl rfl rfl ?_ | refine TL.pickF rfl rfl rfl ?_ | refine T.seq ?_ | refine T.region ?_ | refine T.condT rfl ?_ | refine T.condF rfl ?_ | refine TL.on rfl rfl rfl rfl ?_ | refine TL.offT rfl rfl rfl rfl rfl rfl ?_ | refine TL.offF rfl rfl rfl rfl rfl rfl ?_ | refine TL.offU rfl rfl rfl rfl rfl rfl ?_ | (refine T.condD rfl (fun _ => ?_) (fun _ => ?_) <;> try (exfalso; omega)) | (refine T.condE rfl (fun _ => ?_) (fun _ => ?_) <;> try (exfalso; omega)) | (refine T.condNe rfl (fun _ => ?_) (fun _ => ?_) <;> try (exfalso; omega)) | refine T.condN rfl (fun _ => ?_) (fun _ => ?_) | refine T.cond rfl (fun _ => ?_) (fun _ => ?_) | (refine TL.gD rfl rfl rfl rfl (fun _ => ?_) (fun _ => ?_) <;> try (exfalso; omega)) | (refine TL.gE rfl rfl rfl rfl (fun _ => ?_) (fun _ => ?_) <;> try (exfalso; omega)) | (refine TL.gNe rfl rfl rfl rfl (fun _ => ?_) (fun _ => ?_) <;> try (exfalso; omega)) | refine TL.gN rfl rfl rfl rfl (fun _ => ?_) (fun _ => ?_) | refine TL.gB rfl rfl rfl rfl (fun _ => ?_) (fun _ => ?_) | refine T.block ?_ | (refine T.exit ?_; show T X _ _ _) | refine TL.doneB ?_ | refine T.skipDone ?_ | refine T.skipDoneB ?_ | refine T.ret (T.retPost rfl ?_) | refine TL.nil (T.endPost rfl ?_))
  rw [hbs]
  refine T.only [3, 4, 5] rfl ?_
  refine T.loop (fun S => ∃ p m : Nat, S = ⟨[(5, .val (.int .i64 p)), (4, .val (.int .i64 m)), (3, .sl 1 (bs.map byteD))], [], 76⟩ ∧ isB bs 0 p ∧ p ≤ bs.length ∧ nth bs 0 m = p ∧ m ≤ p ∧ (bndA bs 0).length = m + (bndA bs p).length)
      (fun S => match lk S.sl 5 with | some (.val (.int _ i)) => bs.length - i.toNat | _ => 0) ⟨0, 0, rfl, .inl rfl, Nat.zero_le _, rfl, Nat.le_refl _, by omega⟩ ?_
  rintro S ⟨p, m, rfl, hp, hp', hm, hm', hc⟩
  repeat' (first | refine TL.pure rfl rfl ?_ | refine TL.done ?_ | refine TL.store' rfl rfl rfl rfl rfl rfl rfl rfl ?_ | refine TL.loadPtr rfl rfl rfl rfl rfl ?_ | refine TL.build rfl rfl rfl rfl rfl rfl ?_ | refine TL.pickT rfl rfl rfl ?_ | refine TL.pickF rfl rfl rfl ?_ | refine T.seq ?_ | refine T.region ?_ | refine T.condT rfl ?_ | refine T.condF rfl ?_ | refine TL.on rfl rfl rfl rfl ?_ | refine TL.offT rfl rfl rfl rfl rfl rfl ?_ | refine TL.offF rfl rfl rfl rfl rfl rfl ?_ | refine TL.offU rfl rfl rfl rfl rfl rfl ?_ | (refine T.condD rfl (fun _ => ?_) (fun _ => ?_) <;> try (exfalso; omega)) | (refine T.condE rfl (fun _ => ?_) (fun _ => ?_) <;> try (exfalso; omega)) | (refine T.condNe rfl (fun _ => ?_) (fun _ => ?_) <;> try (exfalso; omega)) | refine T.condN rfl (fun _ => ?_) (fun _ => ?_) | refine T.cond rfl (fun _ => ?_) (fun _ => ?_) | (refine TL.gD rfl rfl rfl rfl (fun _ => ?_) (fun _ => ?_) <;> try (exfalso; omega)) | (refine TL.gE rfl rfl rfl rfl (fun _ => ?_) (fun _ => ?_) <;> try (exfalso; omega)) | (refine TL.gNe rfl rfl rfl rfl (fun _ => ?_) (fun _ => ?_) <;> try (exfalso; omega)) | refine TL.gN rfl rfl rfl rfl (fun _ => ?_) (fun _ => ?_) | refine TL.gB rfl rfl rfl rfl (fun _ => ?_) (fun _ => ?_) | refine T.block ?_ | (refine T.exit ?_; show T X _ _ _) | refine TL.doneB ?_ | refine T.skipDone ?_ | refine T.skipDoneB ?_ | refine T.ret (T.retPost rfl ?_) | refine TL.nil (T.endPost rfl ?_))
  · rename_i h
    have hlt : p < bs.length := by omega
    have hs := sz_bd hlt
    have c1 := Size_c bs p (by omega)
    rw [show (atS bs p).2 = (szB bs p : Nat) by
      rw [atS, if_pos (by omega), Int.toNat_natCast]
      have := step_bd hlt
      unfold szB; omega] at c1
    have c2 := Bound_c bs p (by omega)
    rw [hasB_yes hp] at c2
    have c3 := Next_c bs p (by omega)
    rw [next_is hp hlt, Int.natCast_add] at c3
    have c4 := Prev_c bs ((p : Int) + (szB bs p : Nat)) (by omega)
    rw [prev_is hp hlt] at c4
    have c5 : ∀ k : Int, (p : Int) < k → k < (p : Int) + (szB bs p : Nat) → CallE X 43 [.sl 1 (bs.map byteD), .val (.int .i64 k)] (.val (.bool false)) := fun k k1 k2 => by
      have := Bound_c bs k (by omega)
      rwa [hasB_mid k1 k2] at this
    have hm1 : nth bs 0 (m + 1) = p + szB bs p := by rw [nth_succ m 0 (by omega), hm]
    have hcn : (bndA bs p).length = 1 + (bndA bs (p + szB bs p)).length := by rw [bndA_yes hlt]; simp only [List.length_cons]; unfold szB; omega
    have hBn := isB_next _ 0 p (Nat.le_refl _) hp hlt
    generalize szB bs p = z at *
    repeat' (first | refine TL.pure' (d' := .val (.bool false)) rfl (neF rfl) rfl ?_ | refine TL.pure' rfl (int_eq (wrapI (by omega))) rfl ?_ | refine TL.callE (X := X) fn42 c1 rfl rfl rfl rfl ?_ | refine TL.callE (X := X) fn43 c2 rfl rfl rfl rfl ?_ | refine TL.callE (X := X) fn46 c3 rfl rfl rfl rfl ?_ | refine TL.callE (X := X) fn48 c4 rfl rfl rfl rfl ?_ | refine TL.pure rfl rfl ?_ | refine TL.done ?_ | refine TL.store' rfl rfl rfl rfl rfl rfl rfl rfl ?_ | refine TL.loadPtr rfl rfl rfl rfl rfl ?_ | refine TL.build rfl rfl rfl rfl rfl rfl ?_ | refine TL.pickT rfl rfl rfl ?_ | refine TL.pickF rfl rfl rfl ?_ | refine T.seq ?_ | refine T.region ?_ | refine T.condT rfl ?_ | refine T.condF rfl ?_ | refine TL.on rfl rfl rfl rfl ?_ | refine TL.offT rfl rfl rfl rfl rfl rfl ?_ | refine TL.offF rfl rfl rfl rfl rfl rfl ?_ | refine TL.offU rfl rfl rfl rfl rfl rfl ?_ | (refine T.condD rfl (fun _ => ?_) (fun _ => ?_) <;> try (exfalso; omega)) | (refine T.condE rfl (fun _ => ?_) (fun _ => ?_) <;> try (exfalso; omega)) | (refine T.condNe rfl (fun _ => ?_) (fun _ => ?_) <;> try (exfalso; omega)) | refine T.condN rfl (fun _ => ?_) (fun _ => ?_) | refine T.cond rfl (fun _ => ?_) (fun _ => ?_) | (refine TL.gD rfl rfl rfl rfl (fun _ => ?_) (fun _ => ?_) <;> try (exfalso; omega)) | (refine TL.gE rfl rfl rfl rfl (fun _ => ?_) (fun _ => ?_) <;> try (exfalso; omega)) | (refine TL.gNe rfl rfl rfl rfl (fun _ => ?_) (fun _ => ?_) <;> try (exfalso; omega)) | refine TL.gN rfl rfl rfl rfl (fun _ => ?_) (fun _ => ?_) | refine TL.gB rfl rfl rfl rfl (fun _ => ?_) (fun _ => ?_) | refine T.block ?_ | (refine T.exit ?_; show T X _ _ _) | refine TL.doneB ?_ | refine T.skipDone ?_ | refine T.skipDoneB ?_ | refine T.ret (T.retPost rfl ?_) | refine TL.nil (T.endPost rfl ?_))
    refine T.only [3, 4, 5, 6, 7] rfl ?_
    refine T.loop (fun S => ∃ k : Int, S = ⟨[(7, .val (.int .i64 k)), (6, .val (.int .i64 z)), (5, .val (.int .i64 p)), (4, .val (.int .i64 m)), (3, .sl 1 (bs.map byteD))], [], 76⟩ ∧ (p : Int) < k ∧ k ≤ (p : Int) + z)
      (fun S => match lk S.sl 7 with | some (.val (.int _ i)) => p + z - i.toNat | _ => 0) ⟨(p : Int) + 1, rfl, by omega, by omega⟩ ?_
    rintro S ⟨k, rfl, hk1, hk2⟩
    repeat' (first | refine TL.pure' rfl (int_eq (wrapI (by omega))) rfl ?_ | refine TL.callE (X := X) fn43 (c5 k hk1 (by omega)) rfl rfl rfl rfl ?_ | refine TL.pure rfl rfl ?_ | refine TL.done ?_ | refine TL.store' rfl rfl rfl rfl rfl rfl rfl rfl ?_ | refine TL.loadPtr rfl rfl rfl rfl rfl ?_ | refine TL.build rfl rfl rfl rfl rfl rfl ?_ | refine TL.pickT rfl rfl rfl ?_ | refine TL.pickF rfl rfl rfl ?_ | refine T.seq ?_ | refine T.region ?_ | refine T.condT rfl ?_ | refine T.condF rfl ?_ | refine TL.on rfl rfl rfl rfl ?_ | refine TL.offT rfl rfl rfl rfl rfl rfl ?_ | refine TL.offF rfl rfl rfl rfl rfl rfl ?_ | refine TL.offU rfl rfl rfl rfl rfl rfl ?_ | (refine T.condD rfl (fun _ => ?_) (fun _ => ?_) <;> try (exfalso; omega)) | (refine T.condE rfl (fun _ => ?_) (fun _ => ?_) <;> try (exfalso; omega)) | (refine T.condNe rfl (fun _ => ?_) (fun _ => ?_) <;> try (exfalso; omega)) | refine T.condN rfl (fun _ => ?_) (fun _ => ?_) | refine T.cond rfl (fun _ => ?_) (fun _ => ?_) | (refine TL.gD rfl rfl rfl rfl (fun _ => ?_) (fun _ => ?_) <;> try (exfalso; omega)) | (refine TL.gE rfl rfl rfl rfl (fun _ => ?_) (fun _ => ?_) <;> try (exfalso; omega)) | (refine TL.gNe rfl rfl rfl rfl (fun _ => ?_) (fun _ => ?_) <;> try (exfalso; omega)) | refine TL.gN rfl rfl rfl rfl (fun _ => ?_) (fun _ => ?_) | refine TL.gB rfl rfl rfl rfl (fun _ => ?_) (fun _ => ?_) | refine T.block ?_ | (refine T.exit ?_; show T X _ _ _) | refine TL.doneB ?_ | refine T.skipDone ?_ | refine T.skipDoneB ?_ | refine T.ret (T.retPost rfl ?_) | refine TL.nil (T.endPost rfl ?_))
    · refine TL.only [3, 4, 5, 6, 7] rfl (TL.nil (show _ ∧ _ from ⟨⟨k + 1, rfl, by omega, by omega⟩, ?_⟩))
      show p + z - Int.toNat _ < p + z - Int.toNat _
      omega
    · refine TL.only [3, 4, 5] rfl (TL.nil (show _ ∧ _ from ⟨⟨p + z, m + 1, rfl, hBn, by omega, hm1, by omega, by omega⟩, ?_⟩))
      show bs.length - Int.toNat _ < bs.length - Int.toNat _
      omega
  · rename_i h
    have hpl : p = bs.length := by omega
    subst hpl
    rw [bndA_no (bs := bs) (i := bs.length) (by omega)] at hc
    have c1 := Count_c bs (by omega)
    rw [hc] at c1
    have c2 := First_c bs m (by omega) (by omega)
    rw [Int.toNat_natCast, hm] at c2
    simp only [List.length_nil, Nat.add_zero] at c1
    repeat' (first | refine TL.pure' (d' := .val (.bool true)) rfl (ofTrue (by first | rfl | omega)) rfl ?_ | refine TL.callE (X := X) fn37 c1 rfl rfl rfl rfl ?_ | refine TL.callE (X := X) fn39 c2 rfl rfl rfl rfl ?_ | refine TL.callE (X := X) fn35 awake01_c rfl rfl rfl rfl ?_ | refine TL.pure rfl rfl ?_ | refine TL.done ?_ | refine TL.store' rfl rfl rfl rfl rfl rfl rfl rfl ?_ | refine TL.loadPtr rfl rfl rfl rfl rfl ?_ | refine TL.build rfl rfl rfl rfl rfl rfl ?_ | refine TL.pickT rfl rfl rfl ?_ | refine TL.pickF rfl rfl rfl ?_ | refine T.seq ?_ | refine T.region ?_ | refine T.condT rfl ?_ | refine T.condF rfl ?_ | refine TL.on rfl rfl rfl rfl ?_ | refine TL.offT rfl rfl rfl rfl rfl rfl ?_ | refine TL.offF rfl rfl rfl rfl rfl rfl ?_ | refine TL.offU rfl rfl rfl rfl rfl rfl ?_ | (refine T.condD rfl (fun _ => ?_) (fun _ => ?_) <;> try (exfalso; omega)) | (refine T.condE rfl (fun _ => ?_) (fun _ => ?_) <;> try (exfalso; omega)) | (refine T.condNe rfl (fun _ => ?_) (fun _ => ?_) <;> try (exfalso; omega)) | refine T.condN rfl (fun _ => ?_) (fun _ => ?_) | refine T.cond rfl (fun _ => ?_) (fun _ => ?_) | (refine TL.gD rfl rfl rfl rfl (fun _ => ?_) (fun _ => ?_) <;> try (exfalso; omega)) | (refine TL.gE rfl rfl rfl rfl (fun _ => ?_) (fun _ => ?_) <;> try (exfalso; omega)) | (refine TL.gNe rfl rfl rfl rfl (fun _ => ?_) (fun _ => ?_) <;> try (exfalso; omega)) | refine TL.gN rfl rfl rfl rfl (fun _ => ?_) (fun _ => ?_) | refine TL.gB rfl rfl rfl rfl (fun _ => ?_) (fun _ => ?_) | refine T.block ?_ | (refine T.exit ?_; show T X _ _ _) | refine TL.doneB ?_ | refine T.skipDone ?_ | refine T.skipDoneB ?_ | refine T.ret (T.retPost rfl ?_) | refine TL.nil (T.endPost rfl ?_))
    rfl
end Go.Proofs.Ytbogkjbjgcclnaa
