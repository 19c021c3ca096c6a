/- The law UtfCounts. -/
import Derived.Test.YtbogkjbjgcclnaaUtfK
namespace Go.Proofs.Ytbogkjbjgcclnaa
open Go Go.Am
/-- The first bytes, so many at most. -/
def cutS (s : ByteArray) (m : Nat) : ByteArray := if (s.size : Int) > (m : Int) then s.extract 0 m else s
theorem cutS_size (s : ByteArray) (m : Nat) : (cutS s m).size ≤ m := by
  unfold cutS
  split
  · rw [ByteArray.size_extract]; omega
  · omega
theorem wf_le {m : Int} (h : (Lit.int .i64 m).wf = true) : m ≤ 9223372036854775807 := by
  have h2 : m ≤ IntKind.i64.max := by simp only [Lit.wf, Bool.and_eq_true, decide_eq_true_eq] at h; exact h.2
  exact Int.le_trans h2 (by decide)
attribute [local irreducible] T TL CallT Decidable.decide
theorem UtfCounts_c (s : ByteArray) (m : Int) (_hs : s.size ≤ 140737488351232) (hm : (Lit.int .i64 m).wf = true) : CallE X 7 [.val (.string s), .val (.int .i64 m)] (.val (.bool true)) := by
  have hcut : CallE X 36 [.val (.string s), .val (.int .i64 300)] (.val (.string (cutS s 300))) := cut_c s 300 (by decide)
  have hsz := cutS_size s 300
  generalize cutS s 300 = c at hcut hsz
  have hb : c.size = c.data.toList.length := rfl
  have h1 := Count_c c.data.toList (by omega)
  have h2 := refCount_c c (by omega)
  have h3 := First_c c.data.toList m (wf_le hm) (by omega)
  have h4 := refFirst_c c m (by omega)
  refine CallE.mk (X := X) Try.func7 rfl rfl Try.ntmps7 rfl rfl ?_
  repeat' (first | refine TL.pure' (d' := .val (.bool true)) rfl (ofTrue (by first | rfl | omega)) rfl ?_ | refine TL.toBytes (X := X) rfl rfl rfl rfl rfl rfl rfl rfl ?_ | refine TL.callE (X := X) fn36 hcut rfl rfl rfl rfl ?_ | refine TL.callE (X := X) fn37 h1 rfl rfl rfl rfl ?_ | refine TL.callE (X := X) fn38 h2 rfl rfl rfl rfl ?_ | refine TL.callE (X := X) fn39 h3 rfl rfl rfl rfl ?_ | refine TL.callE (X := X) fn40 h4 rfl rfl rfl rfl ?_ | refine TL.callE (X := X) fn35 awake01_c rfl rfl rfl rfl ?_ | refine TL.pure rfl rfl ?_ | refine TL.done ?_ | refine TL.store' rfl rfl rfl rfl rfl rfl rfl rfl ?_ | refine TL.loadPtr rfl rfl rfl rfl rfl ?_ | refine TL.build rfl rfl rfl rfl rfl rfl ?_ | refine TL.pickT rfl rfl rfl ?_ | refine TL.pickF rfl rfl rfl ?_ | refine T.seq ?_ | refine T.region ?_ | refine T.condT rfl ?_ | refine T.condF rfl ?_ | refine TL.on rfl rfl rfl rfl ?_ | refine TL.offT rfl rfl rfl rfl rfl rfl ?_ | refine TL.offF rfl rfl rfl rfl rfl rfl ?_ | refine TL.offU rfl rfl rfl rfl rfl rfl ?_ | (refine T.condD rfl (fun _ => ?_) (fun _ => ?_) <;> try (exfalso; omega)) | (refine T.condE rfl (fun _ => ?_) (fun _ => ?_) <;> try (exfalso; omega)) | (refine T.condNe rfl (fun _ => ?_) (fun _ => ?_) <;> try (exfalso; omega)) | refine T.condN rfl (fun _ => ?_) (fun _ => ?_) | refine T.cond rfl (fun _ => ?_) (fun _ => ?_) | (refine TL.gD rfl rfl rfl rfl (fun _ => ?_) (fun _ => ?_) <;> try (exfalso; omega)) | (refine TL.gE rfl rfl rfl rfl (fun _ => ?_) (fun _ => ?_) <;> try (exfalso; omega)) | (refine TL.gNe rfl rfl rfl rfl (fun _ => ?_) (fun _ => ?_) <;> try (exfalso; omega)) | refine TL.gN rfl rfl rfl rfl (fun _ => ?_) (fun _ => ?_) | refine TL.gB rfl rfl rfl rfl (fun _ => ?_) (fun _ => ?_) | refine T.block ?_ | (refine T.exit ?_; show T X _ _ _) | refine TL.doneB ?_ | refine T.skipDone ?_ | refine T.skipDoneB ?_ | refine T.ret (T.retPost rfl ?_) | refine TL.nil (T.endPost rfl ?_))
  rfl
end Go.Proofs.Ytbogkjbjgcclnaa
