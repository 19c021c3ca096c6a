/- The law UtfBetween. -/
import Derived.Test.YtbogkjbjgcclnaaUtfR
namespace Go.Proofs.Ytbogkjbjgcclnaa
open Go Go.Am
theorem cat_bytes (a c : ByteArray) (p : List UInt8) : ((a ++ (⟨p.toArray⟩ : ByteArray)) ++ c).data.toList = a.data.toList ++ p ++ c.data.toList := by simp
theorem cat_size (a c : ByteArray) (p : List UInt8) : ((a ++ (⟨p.toArray⟩ : ByteArray)) ++ c).size = a.size + p.length + c.size := by
  show ((a ++ (⟨p.toArray⟩ : ByteArray)) ++ c).data.size = a.data.size + p.length + c.data.size
  simp [Nat.add_assoc]
attribute [local irreducible] T TL CallT Decidable.decide
set_option maxHeartbeats 1000000 in
theorem UtfBetween_c (a0 c0 : ByteArray) (r : Int) (_ha : a0.size ≤ 140737488351232) (_hc : c0.size ≤ 140737488351232) : CallE X 8 [.val (.string a0), .val (.string c0), .val (.int .i64 r)] (.val (.bool true)) := by
  have hcut1 : CallE X 36 [.val (.string a0), .val (.int .i64 100)] (.val (.string (cutS a0 100))) := cut_c a0 100 (by decide)
  have hsz1 := cutS_size a0 100
  generalize cutS a0 100 = a at hcut1 hsz1
  have hcut2 : CallE X 36 [.val (.string c0), .val (.int .i64 100)] (.val (.string (cutS c0 100))) := cut_c c0 100 (by decide)
  have hsz2 := cutS_size c0 100
  generalize cutS c0 100 = c at hcut2 hsz2
  have hP := Put_b r
  have hbt := fun h => between (r := r) h a.data.toList c.data.toList
  have hdp := fun h => dec_put (r := r) h []
  have hnil := putB_nil (r := r)
  have hsc := scalar_iff (r := r)
  generalize putB r = p at hP hbt hdp hnil
  have hal : (a.data.toList.length : Int) = a.size := rfl
  have hlen : ((p.map byteD).length : Int) = p.length := by rw [List.length_map]
  have hcb := cat_bytes a c p
  have hcz := cat_size a c p
  have hpz : (⟨p.toArray⟩ : ByteArray).size = p.length := by show p.toArray.size = _; simp
  have haz : (a ++ (⟨p.toArray⟩ : ByteArray)).size = a.size + p.length := by rw [ByteArray.size_append, hpz]
  refine CallE.mk (X := X) Try.func8 rfl rfl Try.ntmps8 rfl rfl ?_
  cases hs : scalar r
  · have hns : ¬ (0 ≤ r ∧ r ≤ 1114111 ∧ (r < 55296 ∨ 57343 < r)) := fun h => by rw [hsc.2 h] at hs; cases hs
    have hp0 : p.length = 0 := by rw [hnil hs]; rfl
    repeat' (first | refine TL.callE (X := X) fn36 hcut1 rfl rfl rfl rfl ?_ | refine TL.callE (X := X) fn36 hcut2 rfl rfl rfl rfl ?_ | refine TL.callE (X := X) fn31 hP rfl rfl rfl rfl ?_ | refine TL.callE (X := X) fn35 awake01_c rfl rfl rfl rfl ?_ | refine TL.pure rfl rfl ?_ | refine TL.done ?_ | refine TL.store' rfl rfl rfl rfl rfl rfl rfl rfl ?_ | refine TL.loadPtr rfl rfl rfl rfl rfl ?_ | refine TL.build rfl rfl rfl rfl rfl rfl ?_ | refine TL.pickT rfl rfl rfl ?_ | refine TL.pickF rfl rfl rfl ?_ | refine T.seq ?_ | refine T.region ?_ | refine T.condT rfl ?_ | refine T.condF rfl ?_ | refine TL.on rfl rfl rfl rfl ?_ | refine TL.offT rfl rfl rfl rfl rfl rfl ?_ | refine TL.offF rfl rfl rfl rfl rfl rfl ?_ | refine TL.offU rfl rfl rfl rfl rfl rfl ?_ | (refine T.condD rfl (fun _ => ?_) (fun _ => ?_) <;> try (exfalso; omega)) | (refine T.condE rfl (fun _ => ?_) (fun _ => ?_) <;> try (exfalso; omega)) | (refine T.condNe rfl (fun _ => ?_) (fun _ => ?_) <;> try (exfalso; omega)) | refine T.condN rfl (fun _ => ?_) (fun _ => ?_) | refine T.cond rfl (fun _ => ?_) (fun _ => ?_) | (refine TL.gD rfl rfl rfl rfl (fun _ => ?_) (fun _ => ?_) <;> try (exfalso; omega)) | (refine TL.gE rfl rfl rfl rfl (fun _ => ?_) (fun _ => ?_) <;> try (exfalso; omega)) | (refine TL.gNe rfl rfl rfl rfl (fun _ => ?_) (fun _ => ?_) <;> try (exfalso; omega)) | refine TL.gN rfl rfl rfl rfl (fun _ => ?_) (fun _ => ?_) | refine TL.gB rfl rfl rfl rfl (fun _ => ?_) (fun _ => ?_) | refine T.block ?_ | (refine T.exit ?_; show T X _ _ _) | refine TL.doneB ?_ | refine T.skipDone ?_ | refine T.skipDoneB ?_ | refine T.ret (T.retPost rfl ?_) | refine TL.nil (T.endPost rfl ?_))
    all_goals rfl
  · have hp1 := (hdp hs).2.1
    have hp4 := (hdp hs).2.2.1
    obtain ⟨b1, b2, b3⟩ := hbt hs
    rw [← hcb] at b1 b2 b3
    rw [hal] at b1 b2 b3
    repeat' (first | refine TL.callE (X := X) fn36 hcut1 rfl rfl rfl rfl ?_ | refine TL.callE (X := X) fn36 hcut2 rfl rfl rfl rfl ?_ | refine TL.callE (X := X) fn31 hP rfl rfl rfl rfl ?_ | refine TL.toStr (X := X) (bs := p) rfl rfl rfl rfl rfl rfl rfl rfl ?_ | refine TL.concat (X := X) rfl rfl (by omega) rfl ?_ | refine TL.pure rfl rfl ?_ | refine TL.done ?_ | refine TL.store' rfl rfl rfl rfl rfl rfl rfl rfl ?_ | refine TL.loadPtr rfl rfl rfl rfl rfl ?_ | refine TL.build rfl rfl rfl rfl rfl rfl ?_ | refine TL.pickT rfl rfl rfl ?_ | refine TL.pickF rfl rfl rfl ?_ | refine T.seq ?_ | refine T.region ?_ | refine T.condT rfl ?_ | refine T.condF rfl ?_ | refine TL.on rfl rfl rfl rfl ?_ | refine TL.offT rfl rfl rfl rfl rfl rfl ?_ | refine TL.offF rfl rfl rfl rfl rfl rfl ?_ | refine TL.offU rfl rfl rfl rfl rfl rfl ?_ | (refine T.condD rfl (fun _ => ?_) (fun _ => ?_) <;> try (exfalso; omega)) | (refine T.condE rfl (fun _ => ?_) (fun _ => ?_) <;> try (exfalso; omega)) | (refine T.condNe rfl (fun _ => ?_) (fun _ => ?_) <;> try (exfalso; omega)) | refine T.condN rfl (fun _ => ?_) (fun _ => ?_) | refine T.cond rfl (fun _ => ?_) (fun _ => ?_) | (refine TL.gD rfl rfl rfl rfl (fun _ => ?_) (fun _ => ?_) <;> try (exfalso; omega)) | (refine TL.gE rfl rfl rfl rfl (fun _ => ?_) (fun _ => ?_) <;> try (exfalso; omega)) | (refine TL.gNe rfl rfl rfl rfl (fun _ => ?_) (fun _ => ?_) <;> try (exfalso; omega)) | refine TL.gN rfl rfl rfl rfl (fun _ => ?_) (fun _ => ?_) | refine TL.gB rfl rfl rfl rfl (fun _ => ?_) (fun _ => ?_) | refine T.block ?_ | (refine T.exit ?_; show T X _ _ _) | refine TL.doneB ?_ | refine T.skipDone ?_ | refine T.skipDoneB ?_ | refine T.ret (T.retPost rfl ?_) | refine TL.nil (T.endPost rfl ?_))
    generalize hB : (a ++ (⟨p.toArray⟩ : ByteArray)) ++ c = B at *
    have hBl : B.data.toList.length = a.size + p.length + c.size := hcz
    have c1 := Rune_c B.data.toList a.size (by omega)
    have c2 := Size_c B.data.toList a.size (by omega)
    have c3 := Bound_c B.data.toList a.size (by omega)
    have c4 := Bound_c B.data.toList ((a.size : Int) + (p.length : Int)) (by omega)
    rw [b1] at c1 c2
    rw [b2] at c3
    rw [b3] at c4
    rw [← hlen] at c4
    repeat' (first | refine TL.pure' (d' := .val (.bool true)) rfl (ofTrue (by first | rfl | omega)) rfl ?_ | refine TL.pure' rfl (int_eq (wrapI (by omega))) rfl ?_ | refine TL.toBytes (X := X) rfl rfl rfl rfl rfl rfl rfl rfl ?_ | refine TL.callE (X := X) fn41 c1 rfl rfl rfl rfl ?_ | refine TL.callE (X := X) fn42 c2 rfl rfl rfl rfl ?_ | refine TL.callE (X := X) fn43 c3 rfl rfl rfl rfl ?_ | refine TL.callE (X := X) fn43 c4 rfl rfl rfl rfl ?_ | refine TL.callE (X := X) fn35 awake01_c rfl rfl rfl rfl ?_ | refine TL.pure rfl rfl ?_ | refine TL.done ?_ | refine TL.store' rfl rfl rfl rfl rfl rfl rfl rfl ?_ | refine TL.loadPtr rfl rfl rfl rfl rfl ?_ | refine TL.build rfl rfl rfl rfl rfl rfl ?_ | refine TL.pickT rfl rfl rfl ?_ | refine TL.pickF rfl rfl rfl ?_ | refine T.seq ?_ | refine T.region ?_ | refine T.condT rfl ?_ | refine T.condF rfl ?_ | refine TL.on rfl rfl rfl rfl ?_ | refine TL.offT rfl rfl rfl rfl rfl rfl ?_ | refine TL.offF rfl rfl rfl rfl rfl rfl ?_ | refine TL.offU rfl rfl rfl rfl rfl rfl ?_ | (refine T.condD rfl (fun _ => ?_) (fun _ => ?_) <;> try (exfalso; omega)) | (refine T.condE rfl (fun _ => ?_) (fun _ => ?_) <;> try (exfalso; omega)) | (refine T.condNe rfl (fun _ => ?_) (fun _ => ?_) <;> try (exfalso; omega)) | refine T.condN rfl (fun _ => ?_) (fun _ => ?_) | refine T.cond rfl (fun _ => ?_) (fun _ => ?_) | (refine TL.gD rfl rfl rfl rfl (fun _ => ?_) (fun _ => ?_) <;> try (exfalso; omega)) | (refine TL.gE rfl rfl rfl rfl (fun _ => ?_) (fun _ => ?_) <;> try (exfalso; omega)) | (refine TL.gNe rfl rfl rfl rfl (fun _ => ?_) (fun _ => ?_) <;> try (exfalso; omega)) | refine TL.gN rfl rfl rfl rfl (fun _ => ?_) (fun _ => ?_) | refine TL.gB rfl rfl rfl rfl (fun _ => ?_) (fun _ => ?_) | refine T.block ?_ | (refine T.exit ?_; show T X _ _ _) | refine TL.doneB ?_ | refine T.skipDone ?_ | refine T.skipDoneB ?_ | refine T.ret (T.retPost rfl ?_) | refine TL.nil (T.endPost rfl ?_))
    rfl
end Go.Proofs.Ytbogkjbjgcclnaa
