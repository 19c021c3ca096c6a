/- Package utf: Next, Prev. -/
import Derived.Test.YtbogkjbjgcclnaaUtfO
namespace Go.Proofs.Ytbogkjbjgcclnaa
open Go Go.Am
theorem nextB_is {a : Int} {d r : Nat} : ∀ {L : List Nat}, L.Pairwise (· < ·) → r ∈ L → a < r → (∀ x ∈ L, a < (x : Int) → r ≤ x) → nextB L a d = r
  | x :: L, hp, hr, ha, hm => by
    rw [List.pairwise_cons] at hp
    rw [nextB]
    split
    · rename_i h
      have h1 := hm x List.mem_cons_self h
      rcases List.mem_cons.1 hr with rfl | hr
      · rfl
      · have := hp.1 r hr; omega
    · rename_i h
      rcases List.mem_cons.1 hr with rfl | hr
      · exact absurd ha h
      · exact nextB_is hp.2 hr ha (fun y hy => hm y (List.mem_cons_of_mem _ hy))
theorem nextB_none {a : Int} {d : Nat} : ∀ {L : List Nat}, (∀ x ∈ L, ¬ a < (x : Int)) → nextB L a d = d
  | [], _ => rfl
  | x :: L, h => by rw [nextB, if_neg (h x List.mem_cons_self), nextB_none (fun y hy => h y (List.mem_cons_of_mem _ hy))]
theorem prevB_none {a : Int} : ∀ {L : List Nat} {p : Nat}, (∀ x ∈ L, ¬ (x : Int) < a) → prevB L a p = p
  | [], _, _ => rfl
  | x :: L, p, h => by rw [prevB, if_neg (h x List.mem_cons_self), prevB_none (fun y hy => h y (List.mem_cons_of_mem _ hy))]
theorem prevB_is {a : Int} {r : Nat} : ∀ {L : List Nat} {p : Nat}, L.Pairwise (· < ·) → r ∈ L → (r : Int) < a → (∀ x ∈ L, (x : Int) < a → x ≤ r) → prevB L a p = r
  | x :: L, p, hp, hr, ha, hm => by
    rw [List.pairwise_cons] at hp
    rw [prevB]
    rcases List.mem_cons.1 hr with rfl | hr
    · rw [if_pos ha]
      refine prevB_none fun y hy h => ?_
      have := hm y (List.mem_cons_of_mem _ hy) h
      have := hp.1 y hy
      omega
    · exact prevB_is hp.2 hr ha (fun y hy => hm y (List.mem_cons_of_mem _ hy))
theorem bndA_sorted {bs : List UInt8} : ∀ (k p : Nat), bs.length - p ≤ k → (p :: bndA bs p).Pairwise (· < ·)
  | 0, p, h => by rw [bndA_no (by omega)]; simp
  | k + 1, p, h => by
    by_cases hp : p < bs.length
    · have hs := step_bd hp
      rw [bndA_yes hp]
      have ih := bndA_sorted (bs := bs) k (p + (dec (bs.drop p)).2.toNat) (by omega)
      rw [List.pairwise_cons]
      refine ⟨fun x hx => ?_, ih⟩
      have : isB bs (p + (dec (bs.drop p)).2.toNat) x := by
        unfold isB
        rcases List.mem_cons.1 hx with h | h
        · exact .inl h
        · exact .inr h
      have := isB_ge _ _ _ (Nat.le_refl _) this
      omega
    · rw [bndA_no hp]; simp
theorem allB_sorted (bs : List UInt8) : (allB bs).Pairwise (· < ·) := bndA_sorted bs.length 0 (by omega)
theorem zero_allB (bs : List UInt8) : 0 ∈ allB bs := List.mem_cons_self
attribute [local irreducible] T TL CallT Decidable.decide
theorem Next_c (bs : List UInt8) (a : Int) (hl : bs.length ≤ 1000000000000) : CallE X 46 [.sl 1 (bs.map byteD), .val (.int .i64 a)] (.val (.int .i64 (nextB (allB bs) a bs.length))) := by
  have hlen : ((bs.map byteD).length : Int) = bs.length := by rw [List.length_map]
  refine CallE.mk (X := X) Try.func46 rfl rfl Try.ntmps46 rfl rfl ?_
  repeat' (first | refine TL.pure rfl rfl ?_ | refine TL.done ?_ | refine TL.store' rfl rfl rfl rfl rfl rfl rfl rfl ?_ | refine TL.loadPtr rfl rfl rfl rfl rfl ?_ | refine TL.build rfl rfl rfl rfl rfl rfl ?_ | refine TL.pickT rfl rfl rfl ?_ | refine TL.pickF rfl rfl rfl ?_ | refine T.seq ?_ | refine T.region ?_ | refine T.condT rfl ?_ | refine T.condF rfl ?_ | refine TL.on rfl rfl rfl rfl ?_ | refine TL.offT rfl rfl rfl rfl rfl rfl ?_ | refine TL.offF rfl rfl rfl rfl rfl rfl ?_ | refine TL.offU rfl rfl rfl rfl rfl rfl ?_ | (refine T.condD rfl (fun _ => ?_) (fun _ => ?_) <;> try (exfalso; omega)) | (refine T.condE rfl (fun _ => ?_) (fun _ => ?_) <;> try (exfalso; omega)) | (refine T.condNe rfl (fun _ => ?_) (fun _ => ?_) <;> try (exfalso; omega)) | refine T.condN rfl (fun _ => ?_) (fun _ => ?_) | refine T.cond rfl (fun _ => ?_) (fun _ => ?_) | (refine TL.gD rfl rfl rfl rfl (fun _ => ?_) (fun _ => ?_) <;> try (exfalso; omega)) | (refine TL.gE rfl rfl rfl rfl (fun _ => ?_) (fun _ => ?_) <;> try (exfalso; omega)) | (refine TL.gNe rfl rfl rfl rfl (fun _ => ?_) (fun _ => ?_) <;> try (exfalso; omega)) | refine TL.gN rfl rfl rfl rfl (fun _ => ?_) (fun _ => ?_) | refine TL.gB rfl rfl rfl rfl (fun _ => ?_) (fun _ => ?_) | refine T.block ?_ | (refine T.exit ?_; show T X _ _ _) | refine TL.doneB ?_ | refine T.skipDone ?_ | refine T.skipDoneB ?_ | refine T.ret (T.retPost rfl ?_) | refine TL.nil (T.endPost rfl ?_))
  · exact int_eq (by rw [nextB_is (allB_sorted bs) (zero_allB bs) (by omega) (fun x _ _ => Nat.zero_le _)]; rfl)
  · rename_i h0
    refine T.only [0, 1] rfl ?_
    refine T.loop (fun S => ∃ c : Int, S = ⟨[(1, .val (.int .i64 c)), (0, .sl 1 (bs.map byteD))], [], 19⟩ ∧ 0 ≤ c ∧ a ≤ c ∧ ∀ x ∈ allB bs, a < (x : Int) → c < x)
      (fun S => match lk S.sl 1 with | some (.val (.int _ i)) => bs.length - i.toNat | _ => 0) ⟨a, rfl, by omega, Int.le_refl _, fun _ _ h => h⟩ ?_
    rintro S ⟨c, rfl, hc0, hc1, hc⟩
    have hB := Bound_c bs (c + 1) (by omega)
    repeat' (first | refine TL.pure' rfl (int_eq (wrapI (by omega))) rfl ?_ | refine TL.callE (X := X) fn43 hB rfl rfl rfl rfl ?_ | refine TL.pure rfl rfl ?_ | refine TL.done ?_ | refine TL.store' rfl rfl rfl rfl rfl rfl rfl rfl ?_ | refine TL.loadPtr rfl rfl rfl rfl rfl ?_ | refine TL.build rfl rfl rfl rfl rfl rfl ?_ | refine TL.pickT rfl rfl rfl ?_ | refine TL.pickF rfl rfl rfl ?_ | refine T.seq ?_ | refine T.region ?_ | refine T.condT rfl ?_ | refine T.condF rfl ?_ | refine TL.on rfl rfl rfl rfl ?_ | refine TL.offT rfl rfl rfl rfl rfl rfl ?_ | refine TL.offF rfl rfl rfl rfl rfl rfl ?_ | refine TL.offU rfl rfl rfl rfl rfl rfl ?_ | (refine T.condD rfl (fun _ => ?_) (fun _ => ?_) <;> try (exfalso; omega)) | (refine T.condE rfl (fun _ => ?_) (fun _ => ?_) <;> try (exfalso; omega)) | (refine T.condNe rfl (fun _ => ?_) (fun _ => ?_) <;> try (exfalso; omega)) | refine T.condN rfl (fun _ => ?_) (fun _ => ?_) | refine T.cond rfl (fun _ => ?_) (fun _ => ?_) | (refine TL.gD rfl rfl rfl rfl (fun _ => ?_) (fun _ => ?_) <;> try (exfalso; omega)) | (refine TL.gE rfl rfl rfl rfl (fun _ => ?_) (fun _ => ?_) <;> try (exfalso; omega)) | (refine TL.gNe rfl rfl rfl rfl (fun _ => ?_) (fun _ => ?_) <;> try (exfalso; omega)) | refine TL.gN rfl rfl rfl rfl (fun _ => ?_) (fun _ => ?_) | refine TL.gB rfl rfl rfl rfl (fun _ => ?_) (fun _ => ?_) | refine T.block ?_ | (refine T.exit ?_; show T X _ _ _) | refine TL.doneB ?_ | refine T.skipDone ?_ | refine T.skipDoneB ?_ | refine T.ret (T.retPost rfl ?_) | refine TL.nil (T.endPost rfl ?_))
    · rename_i g1 g2
      have hm := hasB_iff.1 g2
      refine int_eq ?_
      rw [nextB_is (r := (c + 1).toNat) (allB_sorted bs) hm.2 (by omega) (fun x hx h => by have := hc x hx h; omega)]
      omega
    · rename_i g1 g2
      refine T.only [0, 1] rfl (T.skip (show _ ∧ _ from ⟨⟨c + 1, rfl, by omega, by omega, fun x hx h => ?_⟩, ?_⟩))
      · have h1 := hc x hx h
        have h2 : (x : Int) ≠ c + 1 := fun e => by
          have : hasB (allB bs) (c + 1) = true := hasB_iff.2 ⟨by omega, by rw [← e]; simpa using hx⟩
          rw [g2] at this; cases this
        omega
      · show bs.length - Int.toNat _ < bs.length - Int.toNat _
        omega
    · rename_i g1
      refine int_eq ?_
      rw [nextB_none (fun x hx h => by have := hc x hx h; have := allB_le hx; omega), hlen]
theorem Prev_c (bs : List UInt8) (a : Int) (hl : bs.length ≤ 1000000000000) : CallE X 48 [.sl 1 (bs.map byteD), .val (.int .i64 a)] (.val (.int .i64 (prevB (allB bs) a 0))) := by
  have hlen : ((bs.map byteD).length : Int) = bs.length := by rw [List.length_map]
  refine CallE.mk (X := X) Try.func48 rfl rfl Try.ntmps48 rfl rfl ?_
  repeat' (first | refine TL.pure' rfl (int_eq (wrapI (by omega))) rfl ?_ | refine TL.pure rfl rfl ?_ | refine TL.done ?_ | refine TL.store' rfl rfl rfl rfl rfl rfl rfl rfl ?_ | refine TL.loadPtr rfl rfl rfl rfl rfl ?_ | refine TL.build rfl rfl rfl rfl rfl rfl ?_ | refine TL.pickT rfl rfl rfl ?_ | refine TL.pickF rfl rfl rfl ?_ | refine T.seq ?_ | refine T.region ?_ | refine T.condT rfl ?_ | refine T.condF rfl ?_ | refine TL.on rfl rfl rfl rfl ?_ | refine TL.offT rfl rfl rfl rfl rfl rfl ?_ | refine TL.offF rfl rfl rfl rfl rfl rfl ?_ | refine TL.offU rfl rfl rfl rfl rfl rfl ?_ | (refine T.condD rfl (fun _ => ?_) (fun _ => ?_) <;> try (exfalso; omega)) | (refine T.condE rfl (fun _ => ?_) (fun _ => ?_) <;> try (exfalso; omega)) | (refine T.condNe rfl (fun _ => ?_) (fun _ => ?_) <;> try (exfalso; omega)) | refine T.condN rfl (fun _ => ?_) (fun _ => ?_) | refine T.cond rfl (fun _ => ?_) (fun _ => ?_) | (refine TL.gD rfl rfl rfl rfl (fun _ => ?_) (fun _ => ?_) <;> try (exfalso; omega)) | (refine TL.gE rfl rfl rfl rfl (fun _ => ?_) (fun _ => ?_) <;> try (exfalso; omega)) | (refine TL.gNe rfl rfl rfl rfl (fun _ => ?_) (fun _ => ?_) <;> try (exfalso; omega)) | refine TL.gN rfl rfl rfl rfl (fun _ => ?_) (fun _ => ?_) | refine TL.gB rfl rfl rfl rfl (fun _ => ?_) (fun _ => ?_) | refine T.block ?_ | (refine T.exit ?_; show T X _ _ _) | refine TL.doneB ?_ | refine T.skipDone ?_ | refine T.skipDoneB ?_ | refine T.ret (T.retPost rfl ?_) | refine TL.nil (T.endPost rfl ?_))
  refine T.only [0, 1] rfl ?_
  refine T.loop (fun S => ∃ c : Int, S = ⟨[(1, .val (.int .i64 c)), (0, .sl 1 (bs.map byteD))], [], 18⟩ ∧ c ≤ a ∧ c ≤ bs.length + 1 ∧ ∀ x ∈ allB bs, (x : Int) < a → (x : Int) < c)
      (fun S => match lk S.sl 1 with | some (.val (.int _ i)) => i.toNat | _ => 0) ⟨if ((bs.map byteD).length : Int) + 1 < a then ((bs.map byteD).length : Int) + 1 else a, rfl, ?_⟩ ?_
  · rw [hlen]
    refine ⟨by split <;> omega, by split <;> omega, fun x hx h => ?_⟩
    have := allB_le hx
    split <;> omega
  rintro S ⟨c, rfl, hc0, hc1, hc⟩
  have hB := Bound_c bs (c - 1) (by omega)
  repeat' (first | refine TL.pure' rfl (int_eq (wrapI (by omega))) rfl ?_ | refine TL.callE (X := X) fn43 hB rfl rfl rfl rfl ?_ | refine TL.pure rfl rfl ?_ | refine TL.done ?_ | refine TL.store' rfl rfl rfl rfl rfl rfl rfl rfl ?_ | refine TL.loadPtr rfl rfl rfl rfl rfl ?_ | refine TL.build rfl rfl rfl rfl rfl rfl ?_ | refine TL.pickT rfl rfl rfl ?_ | refine TL.pickF rfl rfl rfl ?_ | refine T.seq ?_ | refine T.region ?_ | refine T.condT rfl ?_ | refine T.condF rfl ?_ | refine TL.on rfl rfl rfl rfl ?_ | refine TL.offT rfl rfl rfl rfl rfl rfl ?_ | refine TL.offF rfl rfl rfl rfl rfl rfl ?_ | refine TL.offU rfl rfl rfl rfl rfl rfl ?_ | (refine T.condD rfl (fun _ => ?_) (fun _ => ?_) <;> try (exfalso; omega)) | (refine T.condE rfl (fun _ => ?_) (fun _ => ?_) <;> try (exfalso; omega)) | (refine T.condNe rfl (fun _ => ?_) (fun _ => ?_) <;> try (exfalso; omega)) | refine T.condN rfl (fun _ => ?_) (fun _ => ?_) | refine T.cond rfl (fun _ => ?_) (fun _ => ?_) | (refine TL.gD rfl rfl rfl rfl (fun _ => ?_) (fun _ => ?_) <;> try (exfalso; omega)) | (refine TL.gE rfl rfl rfl rfl (fun _ => ?_) (fun _ => ?_) <;> try (exfalso; omega)) | (refine TL.gNe rfl rfl rfl rfl (fun _ => ?_) (fun _ => ?_) <;> try (exfalso; omega)) | refine TL.gN rfl rfl rfl rfl (fun _ => ?_) (fun _ => ?_) | refine TL.gB rfl rfl rfl rfl (fun _ => ?_) (fun _ => ?_) | refine T.block ?_ | (refine T.exit ?_; show T X _ _ _) | refine TL.doneB ?_ | refine T.skipDone ?_ | refine T.skipDoneB ?_ | refine T.ret (T.retPost rfl ?_) | refine TL.nil (T.endPost rfl ?_))
  · rename_i g1 g2
    have hm := hasB_iff.1 g2
    refine int_eq ?_
    rw [prevB_is (r := (c - 1).toNat) (allB_sorted bs) hm.2 (by omega) (fun x hx h => by have := hc x hx h; omega)]
    omega
  · rename_i g1 g2
    refine T.only [0, 1] rfl (T.skip (show _ ∧ _ from ⟨⟨c - 1, rfl, by omega, by omega, fun x hx h => ?_⟩, ?_⟩))
    · have h1 := hc x hx h
      have h2 : (x : Int) ≠ c - 1 := fun e => by
        have : hasB (allB bs) (c - 1) = true := hasB_iff.2 ⟨by omega, by rw [← e]; simpa using hx⟩
        rw [g2] at this; cases this
      omega
    · show Int.toNat _ < Int.toNat _
      omega
  · rename_i g1
    refine int_eq ?_
    rw [prevB_none (fun x hx h => by have := hc x hx h; omega)]; rfl
end Go.Proofs.Ytbogkjbjgcclnaa
