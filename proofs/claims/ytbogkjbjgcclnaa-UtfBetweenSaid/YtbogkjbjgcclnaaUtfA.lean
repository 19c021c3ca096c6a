/- Package utf: each function's contract. -/
import Derived.Test.YtbogkjbjgcclnaaAmTab
namespace Go.Proofs.Ytbogkjbjgcclnaa
open Go Go.Am

/-! ### plain functions -/
/-- What a first byte says: how many follow, and what it brings. -/
def lead (c : Nat) : Int × Int :=
  if c < 128 then (0, c) else if 194 ≤ c ∧ c ≤ 223 then (1, (c % 32 : Nat)) else if 224 ≤ c ∧ c ≤ 239 then (2, (c % 16 : Nat)) else if 240 ≤ c ∧ c ≤ 244 then (3, (c % 8 : Nat)) else (-1, 0)
def least (m : Int) : Int := if m = 1 then 128 else if m = 2 then 2048 else if m = 3 then 65536 else 0
def scalar (r : Int) : Bool := decide (0 ≤ r ∧ r ≤ 1114111 ∧ (r < 55296 ∨ 57343 < r))

theorem and31 : ∀ b : Nat, b < 256 → IntKind.u8.wrap ((BitVec.ofInt IntKind.u8.bits (b : Int) &&& BitVec.ofInt IntKind.u8.bits 31).toNat : Int) = ((b % 32 : Nat) : Int) := by decide +kernel
theorem and15 : ∀ b : Nat, b < 256 → IntKind.u8.wrap ((BitVec.ofInt IntKind.u8.bits (b : Int) &&& BitVec.ofInt IntKind.u8.bits 15).toNat : Int) = ((b % 16 : Nat) : Int) := by decide +kernel
theorem and7 : ∀ b : Nat, b < 256 → IntKind.u8.wrap ((BitVec.ofInt IntKind.u8.bits (b : Int) &&& BitVec.ofInt IntKind.u8.bits 7).toNat : Int) = ((b % 8 : Nat) : Int) := by decide +kernel
theorem and63 : ∀ b : Nat, b < 256 → IntKind.u8.wrap ((BitVec.ofInt IntKind.u8.bits (b : Int) &&& BitVec.ofInt IntKind.u8.bits 63).toNat : Int) = ((b % 64 : Nat) : Int) := by decide +kernel
theorem and192 : ∀ b : Nat, b < 256 → (IntKind.u8.wrap ((BitVec.ofInt IntKind.u8.bits (b : Int) &&& BitVec.ofInt IntKind.u8.bits 192).toNat : Int) = 128 ↔ (128 ≤ b ∧ b < 192)) := by decide +kernel
theorem int_eq {k : IntKind} {a b : Int} (h : a = b) : Dat.val (.int k a) = Dat.val (.int k b) := by rw [h]
theorem tup2_eq {a b c d : Int} (h : a = b) (h' : c = d) : Dat.tup [.val (.int .i64 a), .val (.int .i64 c)] = Dat.tup [.val (.int .i64 b), .val (.int .i64 d)] := by rw [h, h']
theorem bool_eq {a b : Bool} (h : a = b) : Dat.val (.bool a) = Dat.val (.bool b) := by rw [h]

/-! ### contracts -/
attribute [local irreducible] T TL CallT Decidable.decide

set_option maxHeartbeats 1000000 in
theorem lead_c (c : UInt8) : CallE X 80 [.val (.int .u8 c.toNat)] (.tup [.val (.int .i64 (lead c.toNat).1), .val (.int .i64 (lead c.toNat).2)]) := by
  have hc := c.toNat_lt
  generalize c.toNat = m at hc ⊢
  refine CallE.mk (X := X) Try.func80 rfl rfl Try.ntmps80 rfl rfl ?_
  repeat' (first | refine TL.pure rfl rfl ?_ | refine TL.done ?_ | refine TL.store' rfl rfl rfl rfl rfl rfl rfl rfl ?_ | refine TL.loadPtr rfl rfl rfl rfl rfl ?_ | refine TL.build rfl rfl rfl rfl rfl rfl ?_ | refine TL.pickT rfl rfl rfl ?_ | refine TL.pickF rfl rfl rfl ?_ | refine T.seq ?_ | refine T.region ?_ | refine T.condT rfl ?_ | refine T.condF rfl ?_ | refine TL.on rfl rfl rfl rfl ?_ | refine TL.offT rfl rfl rfl rfl rfl rfl ?_ | refine TL.offF rfl rfl rfl rfl rfl rfl ?_ | refine TL.offU rfl rfl rfl rfl rfl rfl ?_ | (refine T.condD rfl (fun _ => ?_) (fun _ => ?_) <;> try (exfalso; omega)) | (refine T.condE rfl (fun _ => ?_) (fun _ => ?_) <;> try (exfalso; omega)) | (refine T.condNe rfl (fun _ => ?_) (fun _ => ?_) <;> try (exfalso; omega)) | refine T.condN rfl (fun _ => ?_) (fun _ => ?_) | refine T.cond rfl (fun _ => ?_) (fun _ => ?_) | (refine TL.gD rfl rfl rfl rfl (fun _ => ?_) (fun _ => ?_) <;> try (exfalso; omega)) | (refine TL.gE rfl rfl rfl rfl (fun _ => ?_) (fun _ => ?_) <;> try (exfalso; omega)) | (refine TL.gNe rfl rfl rfl rfl (fun _ => ?_) (fun _ => ?_) <;> try (exfalso; omega)) | refine TL.gN rfl rfl rfl rfl (fun _ => ?_) (fun _ => ?_) | refine TL.gB rfl rfl rfl rfl (fun _ => ?_) (fun _ => ?_) | refine T.block ?_ | (refine T.exit ?_; show T X _ _ _) | refine TL.doneB ?_ | refine T.skipDone ?_ | refine T.skipDoneB ?_ | refine T.ret (T.retPost rfl ?_) | refine TL.nil (T.endPost rfl ?_))
  all_goals refine tup2_eq ?_ ?_
  all_goals try simp only [and31 m hc, and15 m hc, and7 m hc]
  all_goals unfold lead
  all_goals (repeat' split) <;> first | omega | (dsimp only; omega) | (dsimp only; rw [wrapI] <;> omega)
theorem least_c (m : Int) : CallE X 81 [.val (.int .i64 m)] (.val (.int .i64 (least m))) := by
  refine CallE.mk (X := X) Try.func81 rfl rfl Try.ntmps81 rfl rfl ?_
  repeat' (first | refine TL.pure rfl rfl ?_ | refine TL.done ?_ | refine TL.store' rfl rfl rfl rfl rfl rfl rfl rfl ?_ | refine TL.loadPtr rfl rfl rfl rfl rfl ?_ | refine TL.build rfl rfl rfl rfl rfl rfl ?_ | refine TL.pickT rfl rfl rfl ?_ | refine TL.pickF rfl rfl rfl ?_ | refine T.seq ?_ | refine T.region ?_ | refine T.condT rfl ?_ | refine T.condF rfl ?_ | refine TL.on rfl rfl rfl rfl ?_ | refine TL.offT rfl rfl rfl rfl rfl rfl ?_ | refine TL.offF rfl rfl rfl rfl rfl rfl ?_ | refine TL.offU rfl rfl rfl rfl rfl rfl ?_ | (refine T.condD rfl (fun _ => ?_) (fun _ => ?_) <;> try (exfalso; omega)) | (refine T.condE rfl (fun _ => ?_) (fun _ => ?_) <;> try (exfalso; omega)) | (refine T.condNe rfl (fun _ => ?_) (fun _ => ?_) <;> try (exfalso; omega)) | refine T.condN rfl (fun _ => ?_) (fun _ => ?_) | refine T.cond rfl (fun _ => ?_) (fun _ => ?_) | (refine TL.gD rfl rfl rfl rfl (fun _ => ?_) (fun _ => ?_) <;> try (exfalso; omega)) | (refine TL.gE rfl rfl rfl rfl (fun _ => ?_) (fun _ => ?_) <;> try (exfalso; omega)) | (refine TL.gNe rfl rfl rfl rfl (fun _ => ?_) (fun _ => ?_) <;> try (exfalso; omega)) | refine TL.gN rfl rfl rfl rfl (fun _ => ?_) (fun _ => ?_) | refine TL.gB rfl rfl rfl rfl (fun _ => ?_) (fun _ => ?_) | refine T.block ?_ | (refine T.exit ?_; show T X _ _ _) | refine TL.doneB ?_ | refine T.skipDone ?_ | refine T.skipDoneB ?_ | refine T.ret (T.retPost rfl ?_) | refine TL.nil (T.endPost rfl ?_))
  all_goals refine int_eq ?_
  all_goals unfold least
  all_goals (repeat' split) <;> omega
theorem scalar_c (r : Int) : CallE X 69 [.val (.int .i64 r)] (.val (.bool (scalar r))) := by
  refine CallE.mk (X := X) Try.func69 rfl rfl Try.ntmps69 rfl rfl ?_
  repeat' (first | refine TL.pure rfl rfl ?_ | refine TL.done ?_ | refine TL.store' rfl rfl rfl rfl rfl rfl rfl rfl ?_ | refine TL.loadPtr rfl rfl rfl rfl rfl ?_ | refine TL.build rfl rfl rfl rfl rfl rfl ?_ | refine TL.pickT rfl rfl rfl ?_ | refine TL.pickF rfl rfl rfl ?_ | refine T.seq ?_ | refine T.region ?_ | refine T.condT rfl ?_ | refine T.condF rfl ?_ | refine TL.on rfl rfl rfl rfl ?_ | refine TL.offT rfl rfl rfl rfl rfl rfl ?_ | refine TL.offF rfl rfl rfl rfl rfl rfl ?_ | refine TL.offU rfl rfl rfl rfl rfl rfl ?_ | (refine T.condD rfl (fun _ => ?_) (fun _ => ?_) <;> try (exfalso; omega)) | (refine T.condE rfl (fun _ => ?_) (fun _ => ?_) <;> try (exfalso; omega)) | (refine T.condNe rfl (fun _ => ?_) (fun _ => ?_) <;> try (exfalso; omega)) | refine T.condN rfl (fun _ => ?_) (fun _ => ?_) | refine T.cond rfl (fun _ => ?_) (fun _ => ?_) | (refine TL.gD rfl rfl rfl rfl (fun _ => ?_) (fun _ => ?_) <;> try (exfalso; omega)) | (refine TL.gE rfl rfl rfl rfl (fun _ => ?_) (fun _ => ?_) <;> try (exfalso; omega)) | (refine TL.gNe rfl rfl rfl rfl (fun _ => ?_) (fun _ => ?_) <;> try (exfalso; omega)) | refine TL.gN rfl rfl rfl rfl (fun _ => ?_) (fun _ => ?_) | refine TL.gB rfl rfl rfl rfl (fun _ => ?_) (fun _ => ?_) | refine T.block ?_ | (refine T.exit ?_; show T X _ _ _) | refine TL.doneB ?_ | refine T.skipDone ?_ | refine T.skipDoneB ?_ | refine T.ret (T.retPost rfl ?_) | refine TL.nil (T.endPost rfl ?_))
  all_goals refine bool_eq ?_
  all_goals unfold scalar
  all_goals (rw [Bool.eq_iff_iff]; simp; omega)
theorem within_c (l : List Dat) (j : Int) : CallE X 72 [.sl 1 l, .val (.int .i64 j)] (.val (.bool (decide (0 ≤ j ∧ j < l.length)))) := by
  refine CallE.mk (X := X) Try.func72 rfl rfl Try.ntmps72 rfl rfl ?_
  repeat' (first | refine TL.pure rfl rfl ?_ | refine TL.done ?_ | refine TL.store' rfl rfl rfl rfl rfl rfl rfl rfl ?_ | refine TL.loadPtr rfl rfl rfl rfl rfl ?_ | refine TL.build rfl rfl rfl rfl rfl rfl ?_ | refine TL.pickT rfl rfl rfl ?_ | refine TL.pickF rfl rfl rfl ?_ | refine T.seq ?_ | refine T.region ?_ | refine T.condT rfl ?_ | refine T.condF rfl ?_ | refine TL.on rfl rfl rfl rfl ?_ | refine TL.offT rfl rfl rfl rfl rfl rfl ?_ | refine TL.offF rfl rfl rfl rfl rfl rfl ?_ | refine TL.offU rfl rfl rfl rfl rfl rfl ?_ | (refine T.condD rfl (fun _ => ?_) (fun _ => ?_) <;> try (exfalso; omega)) | (refine T.condE rfl (fun _ => ?_) (fun _ => ?_) <;> try (exfalso; omega)) | (refine T.condNe rfl (fun _ => ?_) (fun _ => ?_) <;> try (exfalso; omega)) | refine T.condN rfl (fun _ => ?_) (fun _ => ?_) | refine T.cond rfl (fun _ => ?_) (fun _ => ?_) | (refine TL.gD rfl rfl rfl rfl (fun _ => ?_) (fun _ => ?_) <;> try (exfalso; omega)) | (refine TL.gE rfl rfl rfl rfl (fun _ => ?_) (fun _ => ?_) <;> try (exfalso; omega)) | (refine TL.gNe rfl rfl rfl rfl (fun _ => ?_) (fun _ => ?_) <;> try (exfalso; omega)) | refine TL.gN rfl rfl rfl rfl (fun _ => ?_) (fun _ => ?_) | refine TL.gB rfl rfl rfl rfl (fun _ => ?_) (fun _ => ?_) | refine T.block ?_ | (refine T.exit ?_; show T X _ _ _) | refine TL.doneB ?_ | refine T.skipDone ?_ | refine T.skipDoneB ?_ | refine T.ret (T.retPost rfl ?_) | refine TL.nil (T.endPost rfl ?_))
  all_goals refine bool_eq ?_
  all_goals (rw [Bool.eq_iff_iff]; simp; omega)

end Go.Proofs.Ytbogkjbjgcclnaa
