/- Package utf and ref01: Bound. -/
import Derived.Test.YtbogkjbjgcclnaaUtfM
namespace Go.Proofs.Ytbogkjbjgcclnaa
open Go Go.Am
/-- All boundaries. -/
def allB (bs : List UInt8) : List Nat := 0 :: bndA bs 0
theorem mem_allB {bs : List UInt8} {i : Nat} : i ∈ allB bs ↔ isB bs 0 i := by unfold allB isB; simp
theorem allB_le {bs : List UInt8} {i : Nat} (h : i ∈ allB bs) : i ≤ bs.length := by
  have := isB_ge _ 0 i (Nat.le_refl _) (mem_allB.1 h)
  omega
def hasB (L : List Nat) (a : Int) : Bool := L.any fun x => decide ((x : Int) = a)
theorem hasB_cons {x : Nat} {L : List Nat} {a : Int} : hasB (x :: L) a = (decide ((x : Int) = a) || hasB L a) := rfl
theorem hasB_iff {L : List Nat} {a : Int} : hasB L a = true ↔ 0 ≤ a ∧ a.toNat ∈ L := by
  unfold hasB
  rw [List.any_eq_true]
  constructor
  · rintro ⟨x, hx, h⟩
    have := of_decide_eq_true h
    subst this
    exact ⟨by omega, by simpa using hx⟩
  · rintro ⟨h0, h⟩
    exact ⟨a.toNat, h, decide_eq_true (by omega)⟩
attribute [local irreducible] T TL CallT Decidable.decide
theorem Bound_c (bs : List UInt8) (a : Int) (hl : bs.length ≤ 4611686018427387904) : CallE X 43 [.sl 1 (bs.map byteD), .val (.int .i64 a)] (.val (.bool (hasB (allB bs) a))) := by
  have hlen : ((bs.map byteD).length : Int) = bs.length := by rw [List.length_map]
  have hout : ¬ (0 ≤ a ∧ a ≤ bs.length) → hasB (allB bs) a = false := fun h => by
    cases hb : hasB (allB bs) a
    · rfl
    · have := hasB_iff.1 hb
      have h2 := allB_le this.2
      omega
  refine CallE.mk (X := X) Try.func43 rfl rfl Try.ntmps43 rfl rfl ?_
  repeat' (first | refine TL.pure rfl rfl ?_ | refine TL.done ?_ | refine TL.store' rfl rfl rfl rfl rfl rfl rfl rfl ?_ | refine TL.loadPtr rfl rfl rfl rfl rfl ?_ | refine TL.build rfl rfl rfl rfl rfl rfl ?_ | refine TL.pickT rfl rfl rfl ?_ | refine TL.pickF rfl rfl rfl ?_ | refine T.seq ?_ | refine T.region ?_ | refine T.condT rfl ?_ | refine T.condF rfl ?_ | refine TL.on rfl rfl rfl rfl ?_ | refine TL.offT rfl rfl rfl rfl rfl rfl ?_ | refine TL.offF rfl rfl rfl rfl rfl rfl ?_ | refine TL.offU rfl rfl rfl rfl rfl rfl ?_ | (refine T.condD rfl (fun _ => ?_) (fun _ => ?_) <;> try (exfalso; omega)) | (refine T.condE rfl (fun _ => ?_) (fun _ => ?_) <;> try (exfalso; omega)) | (refine T.condNe rfl (fun _ => ?_) (fun _ => ?_) <;> try (exfalso; omega)) | refine T.condN rfl (fun _ => ?_) (fun _ => ?_) | refine T.cond rfl (fun _ => ?_) (fun _ => ?_) | (refine TL.gD rfl rfl rfl rfl (fun _ => ?_) (fun _ => ?_) <;> try (exfalso; omega)) | (refine TL.gE rfl rfl rfl rfl (fun _ => ?_) (fun _ => ?_) <;> try (exfalso; omega)) | (refine TL.gNe rfl rfl rfl rfl (fun _ => ?_) (fun _ => ?_) <;> try (exfalso; omega)) | refine TL.gN rfl rfl rfl rfl (fun _ => ?_) (fun _ => ?_) | refine TL.gB rfl rfl rfl rfl (fun _ => ?_) (fun _ => ?_) | refine T.block ?_ | (refine T.exit ?_; show T X _ _ _) | refine TL.doneB ?_ | refine T.skipDone ?_ | refine T.skipDoneB ?_ | refine T.ret (T.retPost rfl ?_) | refine TL.nil (T.endPost rfl ?_))
  · exact bool_eq (hout (by omega)).symm
  · exact bool_eq (hout (by omega)).symm
  · rename_i h1 h2
    have h3 : 0 ≤ a ∧ a ≤ bs.length := by omega
    have hin : hasB (allB bs) a = true ↔ ∀ k, 1 ≤ k → k < 4 → k ≤ a.toNat → szB bs (a.toNat - k) ≤ k := by
      rw [hasB_iff, mem_allB, bound_iff (by omega)]
      exact ⟨fun h => h.2, fun h => ⟨h3.1, h⟩⟩
    refine T.only [0, 1, 5] rfl ?_
    refine T.loop (fun S => ∃ k : Nat, S = ⟨[(5, .val (.int .i64 k)), (1, .val (.int .i64 a)), (0, .sl 1 (bs.map byteD))], [], 30⟩ ∧ 1 ≤ k ∧ k ≤ 4 ∧ ∀ j, 1 ≤ j → j < k → j ≤ a.toNat → szB bs (a.toNat - j) ≤ j)
      (fun S => match lk S.sl 5 with | some (.val (.int _ i)) => 4 - i.toNat | _ => 0) ⟨1, rfl, Nat.le_refl _, by omega, fun j _ _ _ => by omega⟩ ?_
    rintro S ⟨k, rfl, hk1, hk4, hk⟩
    have hs := Size_c bs (a - k) hl
    have hsz : 1 ≤ k → k ≤ a.toNat → ((atS bs (a - k)).2 = szB bs (a.toNat - k)) := fun _ _ => by
      have hlt : a.toNat - k < bs.length := by omega
      have := (step_bd hlt).1
      rw [atS, if_pos (by omega), show (a - k).toNat = a.toNat - k by omega]
      unfold szB
      omega
    repeat' (first | refine TL.pure' rfl (int_eq (wrapI (by omega))) rfl ?_ | refine TL.callE (X := X) fn42 hs rfl rfl rfl rfl ?_ | refine TL.pure rfl rfl ?_ | refine TL.done ?_ | refine TL.store' rfl rfl rfl rfl rfl rfl rfl rfl ?_ | refine TL.loadPtr rfl rfl rfl rfl rfl ?_ | refine TL.build rfl rfl rfl rfl rfl rfl ?_ | refine TL.pickT rfl rfl rfl ?_ | refine TL.pickF rfl rfl rfl ?_ | refine T.seq ?_ | refine T.region ?_ | refine T.condT rfl ?_ | refine T.condF rfl ?_ | refine TL.on rfl rfl rfl rfl ?_ | refine TL.offT rfl rfl rfl rfl rfl rfl ?_ | refine TL.offF rfl rfl rfl rfl rfl rfl ?_ | refine TL.offU rfl rfl rfl rfl rfl rfl ?_ | (refine T.condD rfl (fun _ => ?_) (fun _ => ?_) <;> try (exfalso; omega)) | (refine T.condE rfl (fun _ => ?_) (fun _ => ?_) <;> try (exfalso; omega)) | (refine T.condNe rfl (fun _ => ?_) (fun _ => ?_) <;> try (exfalso; omega)) | refine T.condN rfl (fun _ => ?_) (fun _ => ?_) | refine T.cond rfl (fun _ => ?_) (fun _ => ?_) | (refine TL.gD rfl rfl rfl rfl (fun _ => ?_) (fun _ => ?_) <;> try (exfalso; omega)) | (refine TL.gE rfl rfl rfl rfl (fun _ => ?_) (fun _ => ?_) <;> try (exfalso; omega)) | (refine TL.gNe rfl rfl rfl rfl (fun _ => ?_) (fun _ => ?_) <;> try (exfalso; omega)) | refine TL.gN rfl rfl rfl rfl (fun _ => ?_) (fun _ => ?_) | refine TL.gB rfl rfl rfl rfl (fun _ => ?_) (fun _ => ?_) | refine T.block ?_ | (refine T.exit ?_; show T X _ _ _) | refine TL.doneB ?_ | refine T.skipDone ?_ | refine T.skipDoneB ?_ | refine T.ret (T.retPost rfl ?_) | refine TL.nil (T.endPost rfl ?_))
    · rename_i g1 g2 g3
      refine bool_eq ?_
      cases hb : hasB (allB bs) a
      · rfl
      · have := hin.1 hb k hk1 (by omega) (by omega)
        have := hsz hk1 (by omega)
        omega
    · rename_i g1 g2 g3
      have hz := hsz hk1 (by omega)
      refine TL.only [0, 1, 5] rfl (TL.nil (show _ ∧ _ from ⟨⟨k + 1, rfl, by omega, by omega, fun j j1 j2 j3 => ?_⟩, ?_⟩))
      · by_cases hj : j = k
        · subst hj; omega
        · exact hk j j1 (by omega) j3
      · show 4 - Int.toNat _ < 4 - Int.toNat _
        omega
    · rename_i g1 g2
      refine bool_eq (hin.2 fun j j1 j2 j3 => hk j j1 (by omega) j3).symm
    · rename_i g1
      refine bool_eq (hin.2 fun j j1 j2 j3 => hk j j1 (by omega) j3).symm
end Go.Proofs.Ytbogkjbjgcclnaa
