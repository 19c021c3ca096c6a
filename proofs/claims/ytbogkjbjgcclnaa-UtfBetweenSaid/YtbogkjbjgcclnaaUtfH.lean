/- Package ref01: more, At. -/
import Derived.Test.YtbogkjbjgcclnaaUtfF
import Derived.Test.YtbogkjbjgcclnaaAmE
namespace Go.Proofs.Ytbogkjbjgcclnaa
open Go Go.Am
/-- The byte at a place of a string. -/
def gS (s : ByteArray) (j : Int) : Int := ((s.data.toList.getD j.toNat 0).toNat : Nat)
theorem gS_bd (s : ByteArray) (j : Int) : 0 ≤ gS s j ∧ gS s j < 256 := by
  unfold gS
  have := (s.data.toList.getD j.toNat 0).toNat_lt
  omega
theorem gS_get {s : ByteArray} {j : Int} (h0 : 0 ≤ j) (h : j < (s.size : Int)) : s.data.toList[j.toNat]? = some (s.data.toList.getD j.toNat 0) := by
  have : j.toNat < s.data.toList.length := by
    show j.toNat < s.data.size
    have : s.size = s.data.size := rfl
    omega
  rw [List.getD_eq_getElem?_getD, List.getElem?_eq_getElem this]; rfl
abbrev moS (s : ByteArray) (j : Int) : Prop := j < s.size ∧ 128 ≤ gS s j ∧ gS s j ≤ 191
theorem moYes {s : ByteArray} {j : Int} {b : Bool} (h : b = true ↔ moS s j) : Dat.val (.bool b) = .val (.bool (decide (moS s j))) := by
  congr 2
  cases b
  · exact (decide_eq_false (fun h' => Bool.noConfusion (h.2 h'))).symm
  · exact (decide_eq_true (h.1 rfl)).symm
def refAt (s : ByteArray) (i : Int) : Int × Int :=
  if i < 0 ∨ i ≥ s.size then (-1, 0)
  else if gS s i < 128 then (gS s i, 1)
  else if 192 ≤ gS s i ∧ gS s i < 224 ∧ moS s (i + 1) ∧ 128 ≤ (gS s i - 192) * 64 + gS s (i + 1) - 128 then ((gS s i - 192) * 64 + gS s (i + 1) - 128, 2)
  else if 224 ≤ gS s i ∧ gS s i < 240 ∧ moS s (i + 1) ∧ moS s (i + 2) ∧ 2048 ≤ (gS s i - 224) * 4096 + (gS s (i + 1) - 128) * 64 + gS s (i + 2) - 128 ∧
      ((gS s i - 224) * 4096 + (gS s (i + 1) - 128) * 64 + gS s (i + 2) - 128 < 55296 ∨ (gS s i - 224) * 4096 + (gS s (i + 1) - 128) * 64 + gS s (i + 2) - 128 > 57343) then
    ((gS s i - 224) * 4096 + (gS s (i + 1) - 128) * 64 + gS s (i + 2) - 128, 3)
  else if 240 ≤ gS s i ∧ gS s i < 248 ∧ moS s (i + 1) ∧ moS s (i + 2) ∧ moS s (i + 3) ∧ 65536 ≤ (gS s i - 240) * 262144 + (gS s (i + 1) - 128) * 4096 + (gS s (i + 2) - 128) * 64 + gS s (i + 3) - 128 ∧
      (gS s i - 240) * 262144 + (gS s (i + 1) - 128) * 4096 + (gS s (i + 2) - 128) * 64 + gS s (i + 3) - 128 ≤ 1114111 then
    ((gS s i - 240) * 262144 + (gS s (i + 1) - 128) * 4096 + (gS s (i + 2) - 128) * 64 + gS s (i + 3) - 128, 4)
  else (-1, 1)
section
variable {ops : Array Oper} {rest : List Oper} {ty : TypeId} {pos : String} {after : Array Edge} {t : Nat} {sl : List (Nat × Dat)} {bx : List Box} {n : Nat} {Q : Exit → St → Prop}
theorem idxS {xt : TypeId} {x ix : Operand} {i : TI} {s : ByteArray} {k : IntKind} {j : Int} (hx : ev sl x = some (.val (.string s))) (hj : ev sl ix = some (.val (.int k j))) (hi : lkT X.tab xt = some i) (hd : i.desc = .string)
    (h0 : 0 ≤ j ∧ j < (s.size : Int)) (ht : Nat.blt t n = true) (hk : TL X ops rest ⟨(t, .val (.int .u8 (gS s j))) :: sl, bx, n⟩ Q) :
    TL X ops ({ dst := some t, op := .index xt x ix, type := ty, pos := pos, after := after, guard := none } :: rest) ⟨sl, bx, n⟩ Q :=
  TL.indexStr hx hj hi hd h0.1 _ (gS_get h0.1 h0.2) ht hk
end
theorem drawsX : X.P.follows .mixedOrders = true := rfl
attribute [local irreducible] T TL CallT Decidable.decide
theorem more_c (s : ByteArray) (j : Int) (h0 : 0 ≤ j) : CallE X 74 [.val (.string s), .val (.int .i64 j)] (.val (.bool (decide (moS s j)))) := by
  refine CallE.mk (X := X) Try.func74 rfl rfl Try.ntmps74 rfl rfl ?_
  repeat' (first | refine idxS rfl rfl rfl rfl ⟨h0, by omega⟩ rfl ?_ | refine TL.pure rfl rfl ?_ | refine TL.done ?_ | refine TL.store' rfl rfl rfl rfl rfl rfl rfl rfl ?_ | refine TL.loadPtr rfl rfl rfl rfl rfl ?_ | refine TL.build rfl rfl rfl rfl rfl rfl ?_ | refine TL.pickT rfl rfl rfl ?_ | refine TL.pickF rfl rfl rfl ?_ | refine T.seq ?_ | refine T.region ?_ | refine T.condT rfl ?_ | refine T.condF rfl ?_ | refine TL.on rfl rfl rfl rfl ?_ | refine TL.offT rfl rfl rfl rfl rfl rfl ?_ | refine TL.offF rfl rfl rfl rfl rfl rfl ?_ | refine TL.offU rfl rfl rfl rfl rfl rfl ?_ | (refine T.condD rfl (fun _ => ?_) (fun _ => ?_) <;> try (exfalso; omega)) | (refine T.condE rfl (fun _ => ?_) (fun _ => ?_) <;> try (exfalso; omega)) | (refine T.condNe rfl (fun _ => ?_) (fun _ => ?_) <;> try (exfalso; omega)) | refine T.condN rfl (fun _ => ?_) (fun _ => ?_) | refine T.cond rfl (fun _ => ?_) (fun _ => ?_) | (refine TL.gD rfl rfl rfl rfl (fun _ => ?_) (fun _ => ?_) <;> try (exfalso; omega)) | (refine TL.gE rfl rfl rfl rfl (fun _ => ?_) (fun _ => ?_) <;> try (exfalso; omega)) | (refine TL.gNe rfl rfl rfl rfl (fun _ => ?_) (fun _ => ?_) <;> try (exfalso; omega)) | refine TL.gN rfl rfl rfl rfl (fun _ => ?_) (fun _ => ?_) | refine TL.gB rfl rfl rfl rfl (fun _ => ?_) (fun _ => ?_) | refine T.block ?_ | (refine T.exit ?_; show T X _ _ _) | refine TL.doneB ?_ | refine T.skipDone ?_ | refine T.skipDoneB ?_ | refine T.ret (T.retPost rfl ?_) | refine TL.nil (T.endPost rfl ?_))
  · exact moYes ⟨fun h => ⟨by omega, by omega, of_decide_eq_true h⟩, fun h => decide_eq_true h.2.2⟩
  · exact moYes ⟨fun h => (by cases h), fun h => (by unfold moS at h; omega)⟩
  · exact moYes ⟨fun h => (by cases h), fun h => (by unfold moS at h; omega)⟩
set_option maxHeartbeats 4000000 in
theorem refAt_c (s : ByteArray) (i : Int) (hl : s.size ≤ 4611686018427387904) : CallE X 44 [.val (.string s), .val (.int .i64 i)] (.tup [.val (.int .i64 (refAt s i).1), .val (.int .i64 (refAt s i).2)]) := by
  have b0 := gS_bd s i
  have b1 := gS_bd s (i + 1)
  have b2 := gS_bd s (i + 2)
  have b3 := gS_bd s (i + 3)
  refine CallE.mk (X := X) Try.func44 rfl rfl Try.ntmps44 rfl rfl ?_
  repeat' (first | refine TL.pure' rfl (int_eq (wrapI (by omega))) rfl ?_ | refine idxS rfl rfl rfl rfl ⟨by omega, by omega⟩ rfl ?_ | refine TL.callE (X := X) fn74 (more_c _ _ (by omega)) rfl rfl rfl rfl ?_ | refine TL.pure rfl rfl ?_ | refine TL.done ?_ | refine TL.store' rfl rfl rfl rfl rfl rfl rfl rfl ?_ | refine TL.loadPtr rfl rfl rfl rfl rfl ?_ | refine TL.build rfl rfl rfl rfl rfl rfl ?_ | refine TL.pickT rfl rfl rfl ?_ | refine TL.pickF rfl rfl rfl ?_ | refine T.seq ?_ | refine T.region ?_ | refine T.condT rfl ?_ | refine T.condF rfl ?_ | refine TL.on rfl rfl rfl rfl ?_ | refine TL.offT rfl rfl rfl rfl rfl rfl ?_ | refine TL.offF rfl rfl rfl rfl rfl rfl ?_ | refine TL.offU rfl rfl rfl rfl rfl rfl ?_ | (refine T.condD rfl (fun _ => ?_) (fun _ => ?_) <;> try (exfalso; omega)) | (refine T.condE rfl (fun _ => ?_) (fun _ => ?_) <;> try (exfalso; omega)) | (refine T.condNe rfl (fun _ => ?_) (fun _ => ?_) <;> try (exfalso; omega)) | refine T.condN rfl (fun _ => ?_) (fun _ => ?_) | refine T.cond rfl (fun _ => ?_) (fun _ => ?_) | (refine TL.gD rfl rfl rfl rfl (fun _ => ?_) (fun _ => ?_) <;> try (exfalso; omega)) | (refine TL.gE rfl rfl rfl rfl (fun _ => ?_) (fun _ => ?_) <;> try (exfalso; omega)) | (refine TL.gNe rfl rfl rfl rfl (fun _ => ?_) (fun _ => ?_) <;> try (exfalso; omega)) | refine TL.gN rfl rfl rfl rfl (fun _ => ?_) (fun _ => ?_) | refine TL.gB rfl rfl rfl rfl (fun _ => ?_) (fun _ => ?_) | refine T.block ?_ | (refine T.exit ?_; show T X _ _ _) | refine TL.doneB ?_ | refine T.skipDone ?_ | refine T.skipDoneB ?_ | refine T.ret (T.retPost rfl ?_) | refine TL.nil (T.endPost rfl ?_))
  all_goals first | exact pair_eq (by unfold refAt; repeat (first | rw [if_pos (by omega)] | rw [if_neg (by omega)])) | skip
  · refine T.only [0, 1, 6] rfl ?_
    apply T.drawnN [_, _, _, _, _, _, _, _, _, _, _, _, _, _, _, _, _, _, _] drawsX (by decide +kernel) rfl ?ops (Lk.cons (k := 8) rfl (Lk.cons (k := 6) rfl (Lk.cons (k := 1) rfl (Lk.cons (k := 0) rfl Lk.nil)))) ?fin
    case ops =>
      repeat' first | exact True.intro | refine OpsN.cons rfl rfl ?_ ?_
      all_goals repeat' (first | exact TL.nil ⟨rfl, rfl, rfl, rfl⟩ | refine TL.pure' rfl (int_eq (wrapI (by omega))) rfl ?_ | refine idxS rfl rfl rfl rfl ⟨by omega, by omega⟩ rfl ?_ | refine TL.pure rfl rfl ?_ | refine TL.done ?_ | refine TL.store' rfl rfl rfl rfl rfl rfl rfl rfl ?_ | refine TL.loadPtr rfl rfl rfl rfl rfl ?_ | refine TL.build rfl rfl rfl rfl rfl rfl ?_ | refine TL.pickT rfl rfl rfl ?_ | refine TL.pickF rfl rfl rfl ?_ | refine T.seq ?_ | refine T.region ?_ | refine T.condT rfl ?_ | refine T.condF rfl ?_ | refine TL.on rfl rfl rfl rfl ?_ | refine TL.offT rfl rfl rfl rfl rfl rfl ?_ | refine TL.offF rfl rfl rfl rfl rfl rfl ?_ | refine TL.offU rfl rfl rfl rfl rfl rfl ?_ | (refine T.condD rfl (fun _ => ?_) (fun _ => ?_) <;> try (exfalso; omega)) | (refine T.condE rfl (fun _ => ?_) (fun _ => ?_) <;> try (exfalso; omega)) | (refine T.condNe rfl (fun _ => ?_) (fun _ => ?_) <;> try (exfalso; omega)) | refine T.condN rfl (fun _ => ?_) (fun _ => ?_) | refine T.cond rfl (fun _ => ?_) (fun _ => ?_) | (refine TL.gD rfl rfl rfl rfl (fun _ => ?_) (fun _ => ?_) <;> try (exfalso; omega)) | (refine TL.gE rfl rfl rfl rfl (fun _ => ?_) (fun _ => ?_) <;> try (exfalso; omega)) | (refine TL.gNe rfl rfl rfl rfl (fun _ => ?_) (fun _ => ?_) <;> try (exfalso; omega)) | refine TL.gN rfl rfl rfl rfl (fun _ => ?_) (fun _ => ?_) | refine TL.gB rfl rfl rfl rfl (fun _ => ?_) (fun _ => ?_) | refine T.block ?_ | (refine T.exit ?_; show T X _ _ _) | refine TL.doneB ?_ | refine T.skipDone ?_ | refine T.skipDoneB ?_ | refine T.ret (T.retPost rfl ?_) | refine TL.nil (T.endPost rfl ?_))
    case fin =>
      repeat' (first | refine TL.pure rfl rfl ?_ | refine TL.done ?_ | refine TL.store' rfl rfl rfl rfl rfl rfl rfl rfl ?_ | refine TL.loadPtr rfl rfl rfl rfl rfl ?_ | refine TL.build rfl rfl rfl rfl rfl rfl ?_ | refine TL.pickT rfl rfl rfl ?_ | refine TL.pickF rfl rfl rfl ?_ | refine T.seq ?_ | refine T.region ?_ | refine T.condT rfl ?_ | refine T.condF rfl ?_ | refine TL.on rfl rfl rfl rfl ?_ | refine TL.offT rfl rfl rfl rfl rfl rfl ?_ | refine TL.offF rfl rfl rfl rfl rfl rfl ?_ | refine TL.offU rfl rfl rfl rfl rfl rfl ?_ | (refine T.condD rfl (fun _ => ?_) (fun _ => ?_) <;> try (exfalso; omega)) | (refine T.condE rfl (fun _ => ?_) (fun _ => ?_) <;> try (exfalso; omega)) | (refine T.condNe rfl (fun _ => ?_) (fun _ => ?_) <;> try (exfalso; omega)) | refine T.condN rfl (fun _ => ?_) (fun _ => ?_) | refine T.cond rfl (fun _ => ?_) (fun _ => ?_) | (refine TL.gD rfl rfl rfl rfl (fun _ => ?_) (fun _ => ?_) <;> try (exfalso; omega)) | (refine TL.gE rfl rfl rfl rfl (fun _ => ?_) (fun _ => ?_) <;> try (exfalso; omega)) | (refine TL.gNe rfl rfl rfl rfl (fun _ => ?_) (fun _ => ?_) <;> try (exfalso; omega)) | refine TL.gN rfl rfl rfl rfl (fun _ => ?_) (fun _ => ?_) | refine TL.gB rfl rfl rfl rfl (fun _ => ?_) (fun _ => ?_) | refine T.block ?_ | (refine T.exit ?_; show T X _ _ _) | refine TL.doneB ?_ | refine T.skipDone ?_ | refine T.skipDoneB ?_ | refine T.ret (T.retPost rfl ?_) | refine TL.nil (T.endPost rfl ?_))
      all_goals first | exact pair_eq (by unfold refAt; repeat (first | rw [if_pos (by omega)] | rw [if_neg (by omega)]))
  · refine T.only [0, 1, 6] rfl ?_
    apply T.drawnN [_, _, _, _, _, _, _, _, _, _, _, _, _, _, _, _, _, _, _, _, _, _, _, _, _, _, _] drawsX (by decide +kernel) rfl ?ops (Lk.cons (k := 9) rfl (Lk.cons (k := 6) rfl (Lk.cons (k := 1) rfl (Lk.cons (k := 0) rfl Lk.nil)))) ?fin
    case ops =>
      repeat' first | exact True.intro | refine OpsN.cons rfl rfl ?_ ?_
      all_goals repeat' (first | exact TL.nil ⟨rfl, rfl, rfl, rfl⟩ | refine TL.pure' rfl (int_eq (wrapI (by omega))) rfl ?_ | refine idxS rfl rfl rfl rfl ⟨by omega, by omega⟩ rfl ?_ | refine TL.pure rfl rfl ?_ | refine TL.done ?_ | refine TL.store' rfl rfl rfl rfl rfl rfl rfl rfl ?_ | refine TL.loadPtr rfl rfl rfl rfl rfl ?_ | refine TL.build rfl rfl rfl rfl rfl rfl ?_ | refine TL.pickT rfl rfl rfl ?_ | refine TL.pickF rfl rfl rfl ?_ | refine T.seq ?_ | refine T.region ?_ | refine T.condT rfl ?_ | refine T.condF rfl ?_ | refine TL.on rfl rfl rfl rfl ?_ | refine TL.offT rfl rfl rfl rfl rfl rfl ?_ | refine TL.offF rfl rfl rfl rfl rfl rfl ?_ | refine TL.offU rfl rfl rfl rfl rfl rfl ?_ | (refine T.condD rfl (fun _ => ?_) (fun _ => ?_) <;> try (exfalso; omega)) | (refine T.condE rfl (fun _ => ?_) (fun _ => ?_) <;> try (exfalso; omega)) | (refine T.condNe rfl (fun _ => ?_) (fun _ => ?_) <;> try (exfalso; omega)) | refine T.condN rfl (fun _ => ?_) (fun _ => ?_) | refine T.cond rfl (fun _ => ?_) (fun _ => ?_) | (refine TL.gD rfl rfl rfl rfl (fun _ => ?_) (fun _ => ?_) <;> try (exfalso; omega)) | (refine TL.gE rfl rfl rfl rfl (fun _ => ?_) (fun _ => ?_) <;> try (exfalso; omega)) | (refine TL.gNe rfl rfl rfl rfl (fun _ => ?_) (fun _ => ?_) <;> try (exfalso; omega)) | refine TL.gN rfl rfl rfl rfl (fun _ => ?_) (fun _ => ?_) | refine TL.gB rfl rfl rfl rfl (fun _ => ?_) (fun _ => ?_) | refine T.block ?_ | (refine T.exit ?_; show T X _ _ _) | refine TL.doneB ?_ | refine T.skipDone ?_ | refine T.skipDoneB ?_ | refine T.ret (T.retPost rfl ?_) | refine TL.nil (T.endPost rfl ?_))
    case fin =>
      repeat' (first | refine TL.pure rfl rfl ?_ | refine TL.done ?_ | refine TL.store' rfl rfl rfl rfl rfl rfl rfl rfl ?_ | refine TL.loadPtr rfl rfl rfl rfl rfl ?_ | refine TL.build rfl rfl rfl rfl rfl rfl ?_ | refine TL.pickT rfl rfl rfl ?_ | refine TL.pickF rfl rfl rfl ?_ | refine T.seq ?_ | refine T.region ?_ | refine T.condT rfl ?_ | refine T.condF rfl ?_ | refine TL.on rfl rfl rfl rfl ?_ | refine TL.offT rfl rfl rfl rfl rfl rfl ?_ | refine TL.offF rfl rfl rfl rfl rfl rfl ?_ | refine TL.offU rfl rfl rfl rfl rfl rfl ?_ | (refine T.condD rfl (fun _ => ?_) (fun _ => ?_) <;> try (exfalso; omega)) | (refine T.condE rfl (fun _ => ?_) (fun _ => ?_) <;> try (exfalso; omega)) | (refine T.condNe rfl (fun _ => ?_) (fun _ => ?_) <;> try (exfalso; omega)) | refine T.condN rfl (fun _ => ?_) (fun _ => ?_) | refine T.cond rfl (fun _ => ?_) (fun _ => ?_) | (refine TL.gD rfl rfl rfl rfl (fun _ => ?_) (fun _ => ?_) <;> try (exfalso; omega)) | (refine TL.gE rfl rfl rfl rfl (fun _ => ?_) (fun _ => ?_) <;> try (exfalso; omega)) | (refine TL.gNe rfl rfl rfl rfl (fun _ => ?_) (fun _ => ?_) <;> try (exfalso; omega)) | refine TL.gN rfl rfl rfl rfl (fun _ => ?_) (fun _ => ?_) | refine TL.gB rfl rfl rfl rfl (fun _ => ?_) (fun _ => ?_) | refine T.block ?_ | (refine T.exit ?_; show T X _ _ _) | refine TL.doneB ?_ | refine T.skipDone ?_ | refine T.skipDoneB ?_ | refine T.ret (T.retPost rfl ?_) | refine TL.nil (T.endPost rfl ?_))
      all_goals first | exact pair_eq (by unfold refAt; repeat (first | rw [if_pos (by omega)] | rw [if_neg (by omega)]))
end Go.Proofs.Ytbogkjbjgcclnaa
