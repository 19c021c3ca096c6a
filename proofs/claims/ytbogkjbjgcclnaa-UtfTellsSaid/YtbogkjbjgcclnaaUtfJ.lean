/- Package ref01: Bounds, Count. -/
import Derived.Test.YtbogkjbjgcclnaaUtfI
namespace Go.Proofs.Ytbogkjbjgcclnaa
open Go Go.Am
def nD (m : Nat) : Dat := .val (.int .i64 m)
theorem nD_snoc (l : List Nat) (m : Nat) : l.map nD ++ [nD m] = (l ++ [m]).map nD := by simp
attribute [local irreducible] T TL CallT Decidable.decide
theorem Bounds_c (s : ByteArray) (hl : s.size ≤ 1000000000000) : CallE X 71 [.val (.string s)] (.sl 1 ((0 :: bndA s.data.toList 0).map nD)) := by
  have hsz : s.size = s.data.toList.length := rfl
  have hL := bndA_len (bs := s.data.toList) s.size 0 (by omega)
  refine CallE.mk (X := X) Try.func71 rfl rfl Try.ntmps71 rfl rfl ?_
  repeat' (first | refine TL.litRow (X := X) (sz := 1) rfl rfl rfl rfl rfl rfl rfl rfl rfl ?_ | refine TL.pure rfl rfl ?_ | refine TL.done ?_ | refine TL.store' rfl rfl rfl rfl rfl rfl rfl rfl ?_ | refine TL.loadPtr rfl rfl rfl rfl rfl ?_ | refine TL.build rfl rfl rfl rfl rfl rfl ?_ | refine TL.pickT rfl rfl rfl ?_ | refine TL.pickF rfl rfl rfl ?_ | refine T.seq ?_ | refine T.region ?_ | refine T.condT rfl ?_ | refine T.condF rfl ?_ | refine TL.on rfl rfl rfl rfl ?_ | refine TL.offT rfl rfl rfl rfl rfl rfl ?_ | refine TL.offF rfl rfl rfl rfl rfl rfl ?_ | refine TL.offU rfl rfl rfl rfl rfl rfl ?_ | (refine T.condD rfl (fun _ => ?_) (fun _ => ?_) <;> try (exfalso; omega)) | (refine T.condE rfl (fun _ => ?_) (fun _ => ?_) <;> try (exfalso; omega)) | (refine T.condNe rfl (fun _ => ?_) (fun _ => ?_) <;> try (exfalso; omega)) | refine T.condN rfl (fun _ => ?_) (fun _ => ?_) | refine T.cond rfl (fun _ => ?_) (fun _ => ?_) | (refine TL.gD rfl rfl rfl rfl (fun _ => ?_) (fun _ => ?_) <;> try (exfalso; omega)) | (refine TL.gE rfl rfl rfl rfl (fun _ => ?_) (fun _ => ?_) <;> try (exfalso; omega)) | (refine TL.gNe rfl rfl rfl rfl (fun _ => ?_) (fun _ => ?_) <;> try (exfalso; omega)) | refine TL.gN rfl rfl rfl rfl (fun _ => ?_) (fun _ => ?_) | refine TL.gB rfl rfl rfl rfl (fun _ => ?_) (fun _ => ?_) | refine T.block ?_ | (refine T.exit ?_; show T X _ _ _) | refine TL.doneB ?_ | refine T.skipDone ?_ | refine T.skipDoneB ?_ | refine T.ret (T.retPost rfl ?_) | refine TL.nil (T.endPost rfl ?_))
  refine T.only [0, 3, 4] rfl ?_
  refine T.loop (fun S => ∃ (i : Nat) (l : List Nat), S = ⟨[(4, .val (.int .i64 i)), (3, .os 1 0 0 (l.map nD).length), (0, .val (.string s))], [.arr (l.map nD) 1 3], 26⟩ ∧ i ≤ s.size ∧ l ++ bndA s.data.toList i = 0 :: bndA s.data.toList 0)
      (fun S => match lk S.sl 4 with | some (.val (.int _ i)) => s.size - i.toNat | _ => 0) ⟨0, [0], rfl, Nat.zero_le _, rfl⟩ ?_
  rintro S ⟨i, l, rfl, hi, hc⟩
  have hlen := congrArg List.length hc
  simp only [List.length_append, List.length_cons] at hlen
  have ha := At_c s i (by omega)
  repeat' (first | (refine T.ghost (Gst.freezeRow (t := 2) [] rfl rfl rfl rfl rfl rfl) (T.ret (T.retPost rfl ?_))) | refine TL.lit (X := X) (sz := 1) rfl rfl rfl rfl rfl rfl rfl rfl ?_ | refine TL.callE (X := X) fn44 ha rfl rfl rfl rfl ?_ | refine TL.pure rfl rfl ?_ | refine TL.done ?_ | refine TL.store' rfl rfl rfl rfl rfl rfl rfl rfl ?_ | refine TL.loadPtr rfl rfl rfl rfl rfl ?_ | refine TL.build rfl rfl rfl rfl rfl rfl ?_ | refine TL.pickT rfl rfl rfl ?_ | refine TL.pickF rfl rfl rfl ?_ | refine T.seq ?_ | refine T.region ?_ | refine T.condT rfl ?_ | refine T.condF rfl ?_ | refine TL.on rfl rfl rfl rfl ?_ | refine TL.offT rfl rfl rfl rfl rfl rfl ?_ | refine TL.offF rfl rfl rfl rfl rfl rfl ?_ | refine TL.offU rfl rfl rfl rfl rfl rfl ?_ | (refine T.condD rfl (fun _ => ?_) (fun _ => ?_) <;> try (exfalso; omega)) | (refine T.condE rfl (fun _ => ?_) (fun _ => ?_) <;> try (exfalso; omega)) | (refine T.condNe rfl (fun _ => ?_) (fun _ => ?_) <;> try (exfalso; omega)) | refine T.condN rfl (fun _ => ?_) (fun _ => ?_) | refine T.cond rfl (fun _ => ?_) (fun _ => ?_) | (refine TL.gD rfl rfl rfl rfl (fun _ => ?_) (fun _ => ?_) <;> try (exfalso; omega)) | (refine TL.gE rfl rfl rfl rfl (fun _ => ?_) (fun _ => ?_) <;> try (exfalso; omega)) | (refine TL.gNe rfl rfl rfl rfl (fun _ => ?_) (fun _ => ?_) <;> try (exfalso; omega)) | refine TL.gN rfl rfl rfl rfl (fun _ => ?_) (fun _ => ?_) | refine TL.gB rfl rfl rfl rfl (fun _ => ?_) (fun _ => ?_) | refine T.block ?_ | (refine T.exit ?_; show T X _ _ _) | refine TL.doneB ?_ | refine T.skipDone ?_ | refine T.skipDoneB ?_ | refine T.ret (T.retPost rfl ?_) | refine TL.nil (T.endPost rfl ?_))
  · rename_i h
    have h' : i < s.data.toList.length := by omega
    have hb := step_bd h'
    have e1 : IntKind.i64.wrap ((i : Int) + (atS s.data.toList i).2) = ((i + (dec (s.data.toList.drop i)).2.toNat : Nat) : Int) := by
      rw [atS, if_pos (by omega), Int.toNat_natCast, wrapI (by omega)]; omega
    rw [bndA_yes h'] at hc hlen
    simp only [List.length_cons] at hlen
    rw [e1]
    refine TL.append (X := X) (by_ := 8) [0, 4] rfl rfl rfl rfl rfl rfl rfl rfl rfl rfl (by simp only [List.length_map, List.length_cons, List.length_nil, maxLen]; omega) (by simp only [List.length_map, List.length_cons, List.length_nil]; omega) rfl rfl rfl rfl rfl ?_
    have e2 : l.map nD ++ [Dat.val (.int .i64 ((i + (dec (s.data.toList.drop i)).2.toNat : Nat) : Int))] = (l ++ [i + (dec (s.data.toList.drop i)).2.toNat]).map nD := nD_snoc l _
    rw [e2]
    refine TL.pure rfl rfl ?_
    refine TL.only [0, 3, 4] rfl (TL.nil (show _ ∧ _ from ⟨⟨_, _, rfl, by omega, by rw [List.append_assoc]; exact hc⟩, ?_⟩))
    show s.size - Int.toNat _ < s.size - Int.toNat _
    omega
  · rename_i h
    rw [bndA_no (by omega), List.append_nil] at hc
    rw [hc]; rfl
theorem refCount_c (s : ByteArray) (hl : s.size ≤ 1000000000000) : CallE X 38 [.val (.string s)] (.val (.int .i64 (bndA s.data.toList 0).length)) := by
  have hB := Bounds_c s hl
  refine CallE.mk (X := X) Try.func38 rfl rfl Try.ntmps38 rfl rfl ?_
  repeat' (first | refine TL.callE (X := X) fn71 hB rfl rfl rfl rfl ?_ | refine TL.pure rfl rfl ?_ | refine TL.done ?_ | refine TL.store' rfl rfl rfl rfl rfl rfl rfl rfl ?_ | refine TL.loadPtr rfl rfl rfl rfl rfl ?_ | refine TL.build rfl rfl rfl rfl rfl rfl ?_ | refine TL.pickT rfl rfl rfl ?_ | refine TL.pickF rfl rfl rfl ?_ | refine T.seq ?_ | refine T.region ?_ | refine T.condT rfl ?_ | refine T.condF rfl ?_ | refine TL.on rfl rfl rfl rfl ?_ | refine TL.offT rfl rfl rfl rfl rfl rfl ?_ | refine TL.offF rfl rfl rfl rfl rfl rfl ?_ | refine TL.offU rfl rfl rfl rfl rfl rfl ?_ | (refine T.condD rfl (fun _ => ?_) (fun _ => ?_) <;> try (exfalso; omega)) | (refine T.condE rfl (fun _ => ?_) (fun _ => ?_) <;> try (exfalso; omega)) | (refine T.condNe rfl (fun _ => ?_) (fun _ => ?_) <;> try (exfalso; omega)) | refine T.condN rfl (fun _ => ?_) (fun _ => ?_) | refine T.cond rfl (fun _ => ?_) (fun _ => ?_) | (refine TL.gD rfl rfl rfl rfl (fun _ => ?_) (fun _ => ?_) <;> try (exfalso; omega)) | (refine TL.gE rfl rfl rfl rfl (fun _ => ?_) (fun _ => ?_) <;> try (exfalso; omega)) | (refine TL.gNe rfl rfl rfl rfl (fun _ => ?_) (fun _ => ?_) <;> try (exfalso; omega)) | refine TL.gN rfl rfl rfl rfl (fun _ => ?_) (fun _ => ?_) | refine TL.gB rfl rfl rfl rfl (fun _ => ?_) (fun _ => ?_) | refine T.block ?_ | (refine T.exit ?_; show T X _ _ _) | refine TL.doneB ?_ | refine T.skipDone ?_ | refine T.skipDoneB ?_ | refine T.ret (T.retPost rfl ?_) | refine TL.nil (T.endPost rfl ?_))
  have hsz : s.size = s.data.toList.length := rfl
  have hL := bndA_len (bs := s.data.toList) s.size 0 (by omega)
  refine int_eq ?_
  simp only [List.length_map, List.length_cons]
  rw [wrapI (by omega)]
  omega
end Go.Proofs.Ytbogkjbjgcclnaa
