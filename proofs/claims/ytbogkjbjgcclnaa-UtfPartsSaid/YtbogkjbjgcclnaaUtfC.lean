/- Package utf: Put, Class. -/
import Derived.Test.YtbogkjbjgcclnaaUtfB
namespace Go.Proofs.Ytbogkjbjgcclnaa
open Go Go.Am

def headS (m : Int) : Int × Int := if m = 0 then (0, 128) else if m = 1 then (192, 32) else if m = 2 then (224, 16) else (240, 8)
def u8 (n : Int) : Dat := .val (.int .u8 n)
/-- A number's bytes. -/
def putN (r : Int) : List Int :=
  if scalar r = true then
    if r < 128 then [r] else if r < 2048 then [192 + r / 64, 128 + r % 64] else if r < 65536 then [224 + r / 4096, 128 + r / 64 % 64, 128 + r % 64] else [240 + r / 262144, 128 + r / 4096 % 64, 128 + r / 64 % 64, 128 + r % 64]
  else []
theorem and63w {r : Int} (h0 : 0 ≤ r) (h1 : r ≤ 1000000000000) : IntKind.i64.wrap ((BitVec.ofInt IntKind.i64.bits r &&& BitVec.ofInt IntKind.i64.bits 63).toNat : Int) = r % 64 := by
  obtain ⟨n, rfl⟩ := Int.eq_ofNat_of_zero_le h0
  rw [BitVec.toNat_and, toNat64 _ (by omega), show (63 : Int) = ((63 : Nat) : Int) from rfl, toNat64 _ (by omega)]
  rw [show (63 : Nat) = 2 ^ 6 - 1 from rfl, Nat.and_two_pow_sub_one_eq_mod, wrapI (by omega)]
  push_cast; rfl
theorem or128 : ∀ x : Nat, x < 64 → IntKind.u8.wrap (IntKind.i64.wrap ((BitVec.ofInt IntKind.i64.bits 128 ||| BitVec.ofInt IntKind.i64.bits (x : Int)).toNat : Int)) = 128 + x := by decide +kernel
theorem or0 : ∀ x : Nat, x < 128 → IntKind.u8.wrap (IntKind.i64.wrap ((BitVec.ofInt IntKind.i64.bits (x : Int) ||| BitVec.ofInt IntKind.i64.bits 0).toNat : Int)) = x := by decide +kernel
theorem or192 : ∀ x : Nat, x < 32 → IntKind.u8.wrap (IntKind.i64.wrap ((BitVec.ofInt IntKind.i64.bits (x : Int) ||| BitVec.ofInt IntKind.i64.bits 192).toNat : Int)) = 192 + x := by decide +kernel
theorem or224 : ∀ x : Nat, x < 16 → IntKind.u8.wrap (IntKind.i64.wrap ((BitVec.ofInt IntKind.i64.bits (x : Int) ||| BitVec.ofInt IntKind.i64.bits 224).toNat : Int)) = 224 + x := by decide +kernel
theorem or240 : ∀ x : Nat, x < 8 → IntKind.u8.wrap (IntKind.i64.wrap ((BitVec.ofInt IntKind.i64.bits (x : Int) ||| BitVec.ofInt IntKind.i64.bits 240).toNat : Int)) = 240 + x := by decide +kernel
theorem or128w {r : Int} (h0 : 0 ≤ r) (h1 : r ≤ 1000000000000) : IntKind.u8.wrap (IntKind.i64.wrap ((BitVec.ofInt IntKind.i64.bits 128 ||| BitVec.ofInt IntKind.i64.bits (IntKind.i64.wrap ((BitVec.ofInt IntKind.i64.bits r &&& BitVec.ofInt IntKind.i64.bits 63).toNat : Int))).toNat : Int)) = 128 + r % 64 := by
  rw [and63w h0 h1]
  obtain ⟨n, hn⟩ := Int.eq_ofNat_of_zero_le (Int.emod_nonneg r (show (64 : Int) ≠ 0 by omega))
  rw [hn]; exact or128 n (by omega)
theorem shr6 (r : Int) : r.fdiv (2 ^ (min 6 IntKind.i64.bits)) = r / 64 := by
  rw [show (2 : Int) ^ (min 6 IntKind.i64.bits) = 64 from rfl, Int.fdiv_eq_ediv_of_nonneg _ (by omega)]
theorem head0 : headS (IntKind.i64.wrap (3 - 3)) = (0, 128) := by decide +kernel
theorem head1 : headS (IntKind.i64.wrap (3 - 2)) = (192, 32) := by decide +kernel
theorem head2 : headS (IntKind.i64.wrap (3 - 1)) = (224, 16) := by decide +kernel
theorem head3 : headS (IntKind.i64.wrap (3 - 0)) = (240, 8) := by decide +kernel
theorem w31 : IntKind.i64.wrap (3 - 1) = 2 := by decide +kernel
theorem w21 : IntKind.i64.wrap (2 - 1) = 1 := by decide +kernel
theorem w11 : IntKind.i64.wrap (1 - 1) = 0 := by decide +kernel
theorem or0w {r : Int} (h0 : 0 ≤ r) (h1 : r < 128) : IntKind.u8.wrap (IntKind.i64.wrap ((BitVec.ofInt IntKind.i64.bits r ||| BitVec.ofInt IntKind.i64.bits 0).toNat : Int)) = r := by
  obtain ⟨n, rfl⟩ := Int.eq_ofNat_of_zero_le h0; exact or0 n (by omega)
theorem or192w {r : Int} (h0 : 0 ≤ r) (h1 : r < 32) : IntKind.u8.wrap (IntKind.i64.wrap ((BitVec.ofInt IntKind.i64.bits r ||| BitVec.ofInt IntKind.i64.bits 192).toNat : Int)) = 192 + r := by
  obtain ⟨n, rfl⟩ := Int.eq_ofNat_of_zero_le h0; exact or192 n (by omega)
theorem or224w {r : Int} (h0 : 0 ≤ r) (h1 : r < 16) : IntKind.u8.wrap (IntKind.i64.wrap ((BitVec.ofInt IntKind.i64.bits r ||| BitVec.ofInt IntKind.i64.bits 224).toNat : Int)) = 224 + r := by
  obtain ⟨n, rfl⟩ := Int.eq_ofNat_of_zero_le h0; exact or224 n (by omega)
theorem or240w {r : Int} (h0 : 0 ≤ r) (h1 : r < 8) : IntKind.u8.wrap (IntKind.i64.wrap ((BitVec.ofInt IntKind.i64.bits r ||| BitVec.ofInt IntKind.i64.bits 240).toNat : Int)) = 240 + r := by
  obtain ⟨n, rfl⟩ := Int.eq_ofNat_of_zero_le h0; exact or240 n (by omega)
attribute [local irreducible] T TL CallT Decidable.decide
theorem head_c (m : Int) : CallE X 70 [.val (.int .i64 m)] (.agg [.val (.int .i64 (headS m).1), .val (.int .i64 (headS m).2)]) := by
  refine CallE.mk (X := X) Try.func70 rfl rfl Try.ntmps70 rfl rfl ?_
  repeat' (first | refine TL.alloc' rfl rfl rfl rfl ?_ | refine TL.pure rfl rfl ?_ | refine TL.done ?_ | refine TL.store' rfl rfl rfl rfl rfl rfl rfl rfl ?_ | refine TL.loadPtr rfl rfl rfl rfl rfl ?_ | refine TL.build rfl rfl rfl rfl rfl rfl ?_ | refine TL.pickT rfl rfl rfl ?_ | refine TL.pickF rfl rfl rfl ?_ | refine T.seq ?_ | refine T.region ?_ | refine T.condT rfl ?_ | refine T.condF rfl ?_ | refine TL.on rfl rfl rfl rfl ?_ | refine TL.offT rfl rfl rfl rfl rfl rfl ?_ | refine TL.offF rfl rfl rfl rfl rfl rfl ?_ | refine TL.offU rfl rfl rfl rfl rfl rfl ?_ | (refine T.condD rfl (fun _ => ?_) (fun _ => ?_) <;> try (exfalso; omega)) | (refine T.condE rfl (fun _ => ?_) (fun _ => ?_) <;> try (exfalso; omega)) | (refine T.condNe rfl (fun _ => ?_) (fun _ => ?_) <;> try (exfalso; omega)) | refine T.condN rfl (fun _ => ?_) (fun _ => ?_) | refine T.cond rfl (fun _ => ?_) (fun _ => ?_) | (refine TL.gD rfl rfl rfl rfl (fun _ => ?_) (fun _ => ?_) <;> try (exfalso; omega)) | (refine TL.gE rfl rfl rfl rfl (fun _ => ?_) (fun _ => ?_) <;> try (exfalso; omega)) | (refine TL.gNe rfl rfl rfl rfl (fun _ => ?_) (fun _ => ?_) <;> try (exfalso; omega)) | refine TL.gN rfl rfl rfl rfl (fun _ => ?_) (fun _ => ?_) | refine TL.gB rfl rfl rfl rfl (fun _ => ?_) (fun _ => ?_) | refine T.block ?_ | (refine T.exit ?_; show T X _ _ _) | refine TL.doneB ?_ | refine T.skipDone ?_ | refine T.skipDoneB ?_ | refine T.ret (T.retPost rfl ?_) | refine TL.nil (T.endPost rfl ?_))
  all_goals show Dat.agg [.val (.int .i64 _), .val (.int .i64 _)] = _
  · rename_i h; rw [headS, if_pos h]
  · rename_i h1 h2; rw [headS, if_neg h1, if_pos h2]
  · rename_i h1 h2 h3; rw [headS, if_neg h1, if_neg h2, if_pos h3]
  · rename_i h1 h2 h3; rw [headS, if_neg h1, if_neg h2, if_neg h3]
def putSt (k r : Int) (cs : List Dat) : St := ⟨[(4, .val (.int .i64 k)), (3, .ptr 0 0), (2, .val (.slice none 0 0)), (0, .val (.int .i64 r))], [.var cs 96], 35⟩
def putI (r : Int) (S : St) : Prop :=
  (S = putSt 3 r [u8 0, u8 0, u8 0, u8 0]) ∨ (128 ≤ r ∧ S = putSt 2 (r / 64) [u8 0, u8 0, u8 0, u8 (128 + r % 64)]) ∨
  (2048 ≤ r ∧ S = putSt 1 (r / 64 / 64) [u8 0, u8 0, u8 (128 + r / 64 % 64), u8 (128 + r % 64)]) ∨
  (65536 ≤ r ∧ S = putSt 0 (r / 64 / 64 / 64) [u8 0, u8 (128 + r / 64 / 64 % 64), u8 (128 + r / 64 % 64), u8 (128 + r % 64)])
theorem Put_c (r : Int) : CallE X 31 [.val (.int .i64 r)] (.sl 1 ((putN r).map u8)) := by
  refine CallE.mk (X := X) Try.func31 rfl rfl Try.ntmps31 rfl rfl ?_
  repeat' (first | (refine T.ghost (Gst.nilSl 1 (t := 2) rfl) (T.ret (T.retPost rfl ?_))) | refine TL.alloc' rfl rfl rfl rfl ?_ | refine TL.callE (X := X) fn69 (scalar_c _) rfl rfl rfl rfl ?_ | refine TL.pure rfl rfl ?_ | refine TL.done ?_ | refine TL.store' rfl rfl rfl rfl rfl rfl rfl rfl ?_ | refine TL.loadPtr rfl rfl rfl rfl rfl ?_ | refine TL.build rfl rfl rfl rfl rfl rfl ?_ | refine TL.pickT rfl rfl rfl ?_ | refine TL.pickF rfl rfl rfl ?_ | refine T.seq ?_ | refine T.region ?_ | refine T.condT rfl ?_ | refine T.condF rfl ?_ | refine TL.on rfl rfl rfl rfl ?_ | refine TL.offT rfl rfl rfl rfl rfl rfl ?_ | refine TL.offF rfl rfl rfl rfl rfl rfl ?_ | refine TL.offU rfl rfl rfl rfl rfl rfl ?_ | (refine T.condD rfl (fun _ => ?_) (fun _ => ?_) <;> try (exfalso; omega)) | (refine T.condE rfl (fun _ => ?_) (fun _ => ?_) <;> try (exfalso; omega)) | (refine T.condNe rfl (fun _ => ?_) (fun _ => ?_) <;> try (exfalso; omega)) | refine T.condN rfl (fun _ => ?_) (fun _ => ?_) | refine T.cond rfl (fun _ => ?_) (fun _ => ?_) | (refine TL.gD rfl rfl rfl rfl (fun _ => ?_) (fun _ => ?_) <;> try (exfalso; omega)) | (refine TL.gE rfl rfl rfl rfl (fun _ => ?_) (fun _ => ?_) <;> try (exfalso; omega)) | (refine TL.gNe rfl rfl rfl rfl (fun _ => ?_) (fun _ => ?_) <;> try (exfalso; omega)) | refine TL.gN rfl rfl rfl rfl (fun _ => ?_) (fun _ => ?_) | refine TL.gB rfl rfl rfl rfl (fun _ => ?_) (fun _ => ?_) | refine T.block ?_ | (refine T.exit ?_; show T X _ _ _) | refine TL.doneB ?_ | refine T.skipDone ?_ | refine T.skipDoneB ?_ | refine T.ret (T.retPost rfl ?_) | refine TL.nil (T.endPost rfl ?_))
  · rename_i h
    show Dat.sl 1 [] = _
    rw [putN, if_neg (by simp [h])]; rfl
  · rename_i h
    have hs : 0 ≤ r ∧ r ≤ 1114111 := by unfold scalar at h; have := of_decide_eq_true h; omega
    refine T.only [0, 2, 3, 4] rfl ?_
    refine T.loop (putI r) (fun S => match lk S.sl 4 with | some (.val (.int _ i)) => i.toNat | _ => 0) (.inl rfl) ?_
    intro S hS
    have c0 := head_c (IntKind.i64.wrap (3 - 3))
    have c1 := head_c (IntKind.i64.wrap (3 - 2))
    have c2 := head_c (IntKind.i64.wrap (3 - 1))
    have c3 := head_c (IntKind.i64.wrap (3 - 0))
    rw [head0] at c0; rw [head1] at c1; rw [head2] at c2; rw [head3] at c3
    dsimp only at c0 c1 c2 c3
    rcases hS with rfl | ⟨hb, rfl⟩ | ⟨hb, rfl⟩ | ⟨hb, rfl⟩
    · repeat' (first | refine TL.callE (X := X) fn70 c0 rfl rfl rfl rfl ?_ | refine TL.indexArr (X := X) rfl rfl rfl rfl rfl (by decide) rfl ?_ | refine TL.pure rfl rfl ?_ | refine TL.done ?_ | refine TL.store' rfl rfl rfl rfl rfl rfl rfl rfl ?_ | refine TL.loadPtr rfl rfl rfl rfl rfl ?_ | refine TL.build rfl rfl rfl rfl rfl rfl ?_ | refine TL.pickT rfl rfl rfl ?_ | refine TL.pickF rfl rfl rfl ?_ | refine T.seq ?_ | refine T.region ?_ | refine T.condT rfl ?_ | refine T.condF rfl ?_ | refine TL.on rfl rfl rfl rfl ?_ | refine TL.offT rfl rfl rfl rfl rfl rfl ?_ | refine TL.offF rfl rfl rfl rfl rfl rfl ?_ | refine TL.offU rfl rfl rfl rfl rfl rfl ?_ | (refine T.condD rfl (fun _ => ?_) (fun _ => ?_) <;> try (exfalso; omega)) | (refine T.condE rfl (fun _ => ?_) (fun _ => ?_) <;> try (exfalso; omega)) | (refine T.condNe rfl (fun _ => ?_) (fun _ => ?_) <;> try (exfalso; omega)) | refine T.condN rfl (fun _ => ?_) (fun _ => ?_) | refine T.cond rfl (fun _ => ?_) (fun _ => ?_) | (refine TL.gD rfl rfl rfl rfl (fun _ => ?_) (fun _ => ?_) <;> try (exfalso; omega)) | (refine TL.gE rfl rfl rfl rfl (fun _ => ?_) (fun _ => ?_) <;> try (exfalso; omega)) | (refine TL.gNe rfl rfl rfl rfl (fun _ => ?_) (fun _ => ?_) <;> try (exfalso; omega)) | refine TL.gN rfl rfl rfl rfl (fun _ => ?_) (fun _ => ?_) | refine TL.gB rfl rfl rfl rfl (fun _ => ?_) (fun _ => ?_) | refine T.block ?_ | (refine T.exit ?_; show T X _ _ _) | refine TL.doneB ?_ | refine T.skipDone ?_ | refine T.skipDoneB ?_ | refine T.ret (T.retPost rfl ?_) | refine TL.nil (T.endPost rfl ?_))
      · rename_i h5
        refine TL.only [0, 2, 3, 4] rfl (TL.nil (show _ ∧ _ from ⟨.inr (.inl ⟨h5, ?_⟩), ?_⟩))
        · rw [or128w (r := r) (by omega) (by omega), shr6, w31]; rfl
        · show (IntKind.i64.wrap _).toNat < Int.toNat _
          rw [w31]; decide
      · rename_i h5
        refine TL.ghost (Gst.freeze (k := 0) [2, 3, 33] rfl rfl rfl rfl rfl rfl) ?_
        rw [or0w (r := r) (by omega) (by omega)]
        refine TL.sliceArr (X := X) rfl rfl rfl rfl rfl rfl rfl rfl (by omega) (Nat.le_refl 4) rfl rfl ?_
        repeat' (first | refine TL.pure rfl rfl ?_ | refine TL.done ?_ | refine TL.store' rfl rfl rfl rfl rfl rfl rfl rfl ?_ | refine TL.loadPtr rfl rfl rfl rfl rfl ?_ | refine TL.build rfl rfl rfl rfl rfl rfl ?_ | refine TL.pickT rfl rfl rfl ?_ | refine TL.pickF rfl rfl rfl ?_ | refine T.seq ?_ | refine T.region ?_ | refine T.condT rfl ?_ | refine T.condF rfl ?_ | refine TL.on rfl rfl rfl rfl ?_ | refine TL.offT rfl rfl rfl rfl rfl rfl ?_ | refine TL.offF rfl rfl rfl rfl rfl rfl ?_ | refine TL.offU rfl rfl rfl rfl rfl rfl ?_ | (refine T.condD rfl (fun _ => ?_) (fun _ => ?_) <;> try (exfalso; omega)) | (refine T.condE rfl (fun _ => ?_) (fun _ => ?_) <;> try (exfalso; omega)) | (refine T.condNe rfl (fun _ => ?_) (fun _ => ?_) <;> try (exfalso; omega)) | refine T.condN rfl (fun _ => ?_) (fun _ => ?_) | refine T.cond rfl (fun _ => ?_) (fun _ => ?_) | (refine TL.gD rfl rfl rfl rfl (fun _ => ?_) (fun _ => ?_) <;> try (exfalso; omega)) | (refine TL.gE rfl rfl rfl rfl (fun _ => ?_) (fun _ => ?_) <;> try (exfalso; omega)) | (refine TL.gNe rfl rfl rfl rfl (fun _ => ?_) (fun _ => ?_) <;> try (exfalso; omega)) | refine TL.gN rfl rfl rfl rfl (fun _ => ?_) (fun _ => ?_) | refine TL.gB rfl rfl rfl rfl (fun _ => ?_) (fun _ => ?_) | refine T.block ?_ | (refine T.exit ?_; show T X _ _ _) | refine TL.doneB ?_ | refine T.skipDone ?_ | refine T.skipDoneB ?_ | refine T.ret (T.retPost rfl ?_) | refine TL.nil (T.endPost rfl ?_))
        show Dat.sl 1 _ = _
        rw [putN, if_pos h, if_pos (by omega)]
        rfl
    · repeat' (first | refine TL.callE (X := X) fn70 c1 rfl rfl rfl rfl ?_ | refine TL.indexArr (X := X) rfl rfl rfl rfl rfl (by decide) rfl ?_ | refine TL.pure rfl rfl ?_ | refine TL.done ?_ | refine TL.store' rfl rfl rfl rfl rfl rfl rfl rfl ?_ | refine TL.loadPtr rfl rfl rfl rfl rfl ?_ | refine TL.build rfl rfl rfl rfl rfl rfl ?_ | refine TL.pickT rfl rfl rfl ?_ | refine TL.pickF rfl rfl rfl ?_ | refine T.seq ?_ | refine T.region ?_ | refine T.condT rfl ?_ | refine T.condF rfl ?_ | refine TL.on rfl rfl rfl rfl ?_ | refine TL.offT rfl rfl rfl rfl rfl rfl ?_ | refine TL.offF rfl rfl rfl rfl rfl rfl ?_ | refine TL.offU rfl rfl rfl rfl rfl rfl ?_ | (refine T.condD rfl (fun _ => ?_) (fun _ => ?_) <;> try (exfalso; omega)) | (refine T.condE rfl (fun _ => ?_) (fun _ => ?_) <;> try (exfalso; omega)) | (refine T.condNe rfl (fun _ => ?_) (fun _ => ?_) <;> try (exfalso; omega)) | refine T.condN rfl (fun _ => ?_) (fun _ => ?_) | refine T.cond rfl (fun _ => ?_) (fun _ => ?_) | (refine TL.gD rfl rfl rfl rfl (fun _ => ?_) (fun _ => ?_) <;> try (exfalso; omega)) | (refine TL.gE rfl rfl rfl rfl (fun _ => ?_) (fun _ => ?_) <;> try (exfalso; omega)) | (refine TL.gNe rfl rfl rfl rfl (fun _ => ?_) (fun _ => ?_) <;> try (exfalso; omega)) | refine TL.gN rfl rfl rfl rfl (fun _ => ?_) (fun _ => ?_) | refine TL.gB rfl rfl rfl rfl (fun _ => ?_) (fun _ => ?_) | refine T.block ?_ | (refine T.exit ?_; show T X _ _ _) | refine TL.doneB ?_ | refine T.skipDone ?_ | refine T.skipDoneB ?_ | refine T.ret (T.retPost rfl ?_) | refine TL.nil (T.endPost rfl ?_))
      · rename_i h5
        refine TL.only [0, 2, 3, 4] rfl (TL.nil (show _ ∧ _ from ⟨.inr (.inr (.inl ⟨by omega, ?_⟩)), ?_⟩))
        · rw [or128w (r := r / 64) (by omega) (by omega), shr6, w21]; rfl
        · show (IntKind.i64.wrap _).toNat < Int.toNat _
          rw [w21]; decide
      · rename_i h5
        refine TL.ghost (Gst.freeze (k := 0) [2, 3, 33] rfl rfl rfl rfl rfl rfl) ?_
        rw [or192w (r := r / 64) (by omega) (by omega)]
        refine TL.sliceArr (X := X) rfl rfl rfl rfl rfl rfl rfl rfl (by omega) (Nat.le_refl 4) rfl rfl ?_
        repeat' (first | refine TL.pure rfl rfl ?_ | refine TL.done ?_ | refine TL.store' rfl rfl rfl rfl rfl rfl rfl rfl ?_ | refine TL.loadPtr rfl rfl rfl rfl rfl ?_ | refine TL.build rfl rfl rfl rfl rfl rfl ?_ | refine TL.pickT rfl rfl rfl ?_ | refine TL.pickF rfl rfl rfl ?_ | refine T.seq ?_ | refine T.region ?_ | refine T.condT rfl ?_ | refine T.condF rfl ?_ | refine TL.on rfl rfl rfl rfl ?_ | refine TL.offT rfl rfl rfl rfl rfl rfl ?_ | refine TL.offF rfl rfl rfl rfl rfl rfl ?_ | refine TL.offU rfl rfl rfl rfl rfl rfl ?_ | (refine T.condD rfl (fun _ => ?_) (fun _ => ?_) <;> try (exfalso; omega)) | (refine T.condE rfl (fun _ => ?_) (fun _ => ?_) <;> try (exfalso; omega)) | (refine T.condNe rfl (fun _ => ?_) (fun _ => ?_) <;> try (exfalso; omega)) | refine T.condN rfl (fun _ => ?_) (fun _ => ?_) | refine T.cond rfl (fun _ => ?_) (fun _ => ?_) | (refine TL.gD rfl rfl rfl rfl (fun _ => ?_) (fun _ => ?_) <;> try (exfalso; omega)) | (refine TL.gE rfl rfl rfl rfl (fun _ => ?_) (fun _ => ?_) <;> try (exfalso; omega)) | (refine TL.gNe rfl rfl rfl rfl (fun _ => ?_) (fun _ => ?_) <;> try (exfalso; omega)) | refine TL.gN rfl rfl rfl rfl (fun _ => ?_) (fun _ => ?_) | refine TL.gB rfl rfl rfl rfl (fun _ => ?_) (fun _ => ?_) | refine T.block ?_ | (refine T.exit ?_; show T X _ _ _) | refine TL.doneB ?_ | refine T.skipDone ?_ | refine T.skipDoneB ?_ | refine T.ret (T.retPost rfl ?_) | refine TL.nil (T.endPost rfl ?_))
        show Dat.sl 1 _ = _
        rw [putN, if_pos h, if_neg (by omega), if_pos (by omega)]
        rfl
    · repeat' (first | refine TL.callE (X := X) fn70 c2 rfl rfl rfl rfl ?_ | refine TL.indexArr (X := X) rfl rfl rfl rfl rfl (by decide) rfl ?_ | refine TL.pure rfl rfl ?_ | refine TL.done ?_ | refine TL.store' rfl rfl rfl rfl rfl rfl rfl rfl ?_ | refine TL.loadPtr rfl rfl rfl rfl rfl ?_ | refine TL.build rfl rfl rfl rfl rfl rfl ?_ | refine TL.pickT rfl rfl rfl ?_ | refine TL.pickF rfl rfl rfl ?_ | refine T.seq ?_ | refine T.region ?_ | refine T.condT rfl ?_ | refine T.condF rfl ?_ | refine TL.on rfl rfl rfl rfl ?_ | refine TL.offT rfl rfl rfl rfl rfl rfl ?_ | refine TL.offF rfl rfl rfl rfl rfl rfl ?_ | refine TL.offU rfl rfl rfl rfl rfl rfl ?_ | (refine T.condD rfl (fun _ => ?_) (fun _ => ?_) <;> try (exfalso; omega)) | (refine T.condE rfl (fun _ => ?_) (fun _ => ?_) <;> try (exfalso; omega)) | (refine T.condNe rfl (fun _ => ?_) (fun _ => ?_) <;> try (exfalso; omega)) | refine T.condN rfl (fun _ => ?_) (fun _ => ?_) | refine T.cond rfl (fun _ => ?_) (fun _ => ?_) | (refine TL.gD rfl rfl rfl rfl (fun _ => ?_) (fun _ => ?_) <;> try (exfalso; omega)) | (refine TL.gE rfl rfl rfl rfl (fun _ => ?_) (fun _ => ?_) <;> try (exfalso; omega)) | (refine TL.gNe rfl rfl rfl rfl (fun _ => ?_) (fun _ => ?_) <;> try (exfalso; omega)) | refine TL.gN rfl rfl rfl rfl (fun _ => ?_) (fun _ => ?_) | refine TL.gB rfl rfl rfl rfl (fun _ => ?_) (fun _ => ?_) | refine T.block ?_ | (refine T.exit ?_; show T X _ _ _) | refine TL.doneB ?_ | refine T.skipDone ?_ | refine T.skipDoneB ?_ | refine T.ret (T.retPost rfl ?_) | refine TL.nil (T.endPost rfl ?_))
      · rename_i h5
        refine TL.only [0, 2, 3, 4] rfl (TL.nil (show _ ∧ _ from ⟨.inr (.inr (.inr ⟨by omega, ?_⟩)), ?_⟩))
        · rw [or128w (r := r / 64 / 64) (by omega) (by omega), shr6, w11]; rfl
        · show (IntKind.i64.wrap _).toNat < Int.toNat _
          rw [w11]; decide
      · rename_i h5
        refine TL.ghost (Gst.freeze (k := 0) [2, 3, 33] rfl rfl rfl rfl rfl rfl) ?_
        rw [or224w (r := r / 64 / 64) (by omega) (by omega)]
        refine TL.sliceArr (X := X) rfl rfl rfl rfl rfl rfl rfl rfl (by omega) (Nat.le_refl 4) rfl rfl ?_
        repeat' (first | refine TL.pure rfl rfl ?_ | refine TL.done ?_ | refine TL.store' rfl rfl rfl rfl rfl rfl rfl rfl ?_ | refine TL.loadPtr rfl rfl rfl rfl rfl ?_ | refine TL.build rfl rfl rfl rfl rfl rfl ?_ | refine TL.pickT rfl rfl rfl ?_ | refine TL.pickF rfl rfl rfl ?_ | refine T.seq ?_ | refine T.region ?_ | refine T.condT rfl ?_ | refine T.condF rfl ?_ | refine TL.on rfl rfl rfl rfl ?_ | refine TL.offT rfl rfl rfl rfl rfl rfl ?_ | refine TL.offF rfl rfl rfl rfl rfl rfl ?_ | refine TL.offU rfl rfl rfl rfl rfl rfl ?_ | (refine T.condD rfl (fun _ => ?_) (fun _ => ?_) <;> try (exfalso; omega)) | (refine T.condE rfl (fun _ => ?_) (fun _ => ?_) <;> try (exfalso; omega)) | (refine T.condNe rfl (fun _ => ?_) (fun _ => ?_) <;> try (exfalso; omega)) | refine T.condN rfl (fun _ => ?_) (fun _ => ?_) | refine T.cond rfl (fun _ => ?_) (fun _ => ?_) | (refine TL.gD rfl rfl rfl rfl (fun _ => ?_) (fun _ => ?_) <;> try (exfalso; omega)) | (refine TL.gE rfl rfl rfl rfl (fun _ => ?_) (fun _ => ?_) <;> try (exfalso; omega)) | (refine TL.gNe rfl rfl rfl rfl (fun _ => ?_) (fun _ => ?_) <;> try (exfalso; omega)) | refine TL.gN rfl rfl rfl rfl (fun _ => ?_) (fun _ => ?_) | refine TL.gB rfl rfl rfl rfl (fun _ => ?_) (fun _ => ?_) | refine T.block ?_ | (refine T.exit ?_; show T X _ _ _) | refine TL.doneB ?_ | refine T.skipDone ?_ | refine T.skipDoneB ?_ | refine T.ret (T.retPost rfl ?_) | refine TL.nil (T.endPost rfl ?_))
        show Dat.sl 1 _ = _
        rw [putN, if_pos h, if_neg (by omega), if_neg (by omega), if_pos (by omega)]
        simp only [List.map_cons, List.map_nil, show r / 4096 = r / 64 / 64 by omega]; rfl
    · repeat' (first | refine TL.callE (X := X) fn70 c3 rfl rfl rfl rfl ?_ | refine TL.indexArr (X := X) rfl rfl rfl rfl rfl (by decide) rfl ?_ | refine TL.pure rfl rfl ?_ | refine TL.done ?_ | refine TL.store' rfl rfl rfl rfl rfl rfl rfl rfl ?_ | refine TL.loadPtr rfl rfl rfl rfl rfl ?_ | refine TL.build rfl rfl rfl rfl rfl rfl ?_ | refine TL.pickT rfl rfl rfl ?_ | refine TL.pickF rfl rfl rfl ?_ | refine T.seq ?_ | refine T.region ?_ | refine T.condT rfl ?_ | refine T.condF rfl ?_ | refine TL.on rfl rfl rfl rfl ?_ | refine TL.offT rfl rfl rfl rfl rfl rfl ?_ | refine TL.offF rfl rfl rfl rfl rfl rfl ?_ | refine TL.offU rfl rfl rfl rfl rfl rfl ?_ | (refine T.condD rfl (fun _ => ?_) (fun _ => ?_) <;> try (exfalso; omega)) | (refine T.condE rfl (fun _ => ?_) (fun _ => ?_) <;> try (exfalso; omega)) | (refine T.condNe rfl (fun _ => ?_) (fun _ => ?_) <;> try (exfalso; omega)) | refine T.condN rfl (fun _ => ?_) (fun _ => ?_) | refine T.cond rfl (fun _ => ?_) (fun _ => ?_) | (refine TL.gD rfl rfl rfl rfl (fun _ => ?_) (fun _ => ?_) <;> try (exfalso; omega)) | (refine TL.gE rfl rfl rfl rfl (fun _ => ?_) (fun _ => ?_) <;> try (exfalso; omega)) | (refine TL.gNe rfl rfl rfl rfl (fun _ => ?_) (fun _ => ?_) <;> try (exfalso; omega)) | refine TL.gN rfl rfl rfl rfl (fun _ => ?_) (fun _ => ?_) | refine TL.gB rfl rfl rfl rfl (fun _ => ?_) (fun _ => ?_) | refine T.block ?_ | (refine T.exit ?_; show T X _ _ _) | refine TL.doneB ?_ | refine T.skipDone ?_ | refine T.skipDoneB ?_ | refine T.ret (T.retPost rfl ?_) | refine TL.nil (T.endPost rfl ?_))
      refine TL.ghost (Gst.freeze (k := 0) [2, 3, 33] rfl rfl rfl rfl rfl rfl) ?_
      rw [or240w (r := r / 64 / 64 / 64) (by omega) (by omega)]
      refine TL.sliceArr (X := X) rfl rfl rfl rfl rfl rfl rfl rfl (by omega) (Nat.le_refl 4) rfl rfl ?_
      repeat' (first | refine TL.pure rfl rfl ?_ | refine TL.done ?_ | refine TL.store' rfl rfl rfl rfl rfl rfl rfl rfl ?_ | refine TL.loadPtr rfl rfl rfl rfl rfl ?_ | refine TL.build rfl rfl rfl rfl rfl rfl ?_ | refine TL.pickT rfl rfl rfl ?_ | refine TL.pickF rfl rfl rfl ?_ | refine T.seq ?_ | refine T.region ?_ | refine T.condT rfl ?_ | refine T.condF rfl ?_ | refine TL.on rfl rfl rfl rfl ?_ | refine TL.offT rfl rfl rfl rfl rfl rfl ?_ | refine TL.offF rfl rfl rfl rfl rfl rfl ?_ | refine TL.offU rfl rfl rfl rfl rfl rfl ?_ | (refine T.condD rfl (fun _ => ?_) (fun _ => ?_) <;> try (exfalso; omega)) | (refine T.condE rfl (fun _ => ?_) (fun _ => ?_) <;> try (exfalso; omega)) | (refine T.condNe rfl (fun _ => ?_) (fun _ => ?_) <;> try (exfalso; omega)) | refine T.condN rfl (fun _ => ?_) (fun _ => ?_) | refine T.cond rfl (fun _ => ?_) (fun _ => ?_) | (refine TL.gD rfl rfl rfl rfl (fun _ => ?_) (fun _ => ?_) <;> try (exfalso; omega)) | (refine TL.gE rfl rfl rfl rfl (fun _ => ?_) (fun _ => ?_) <;> try (exfalso; omega)) | (refine TL.gNe rfl rfl rfl rfl (fun _ => ?_) (fun _ => ?_) <;> try (exfalso; omega)) | refine TL.gN rfl rfl rfl rfl (fun _ => ?_) (fun _ => ?_) | refine TL.gB rfl rfl rfl rfl (fun _ => ?_) (fun _ => ?_) | refine T.block ?_ | (refine T.exit ?_; show T X _ _ _) | refine TL.doneB ?_ | refine T.skipDone ?_ | refine T.skipDoneB ?_ | refine T.ret (T.retPost rfl ?_) | refine TL.nil (T.endPost rfl ?_))
      show Dat.sl 1 _ = _
      rw [putN, if_pos h, if_neg (by omega), if_neg (by omega), if_neg (by omega)]
      simp only [List.map_cons, List.map_nil, show r / 262144 = r / 64 / 64 / 64 by omega, show r / 4096 = r / 64 / 64 by omega]; rfl
end Go.Proofs.Ytbogkjbjgcclnaa
