/- The law UtfTells. -/
import Derived.Test.YtbogkjbjgcclnaaUtfP
import Derived.Test.YtbogkjbjgcclnaaAmF
namespace Go.Proofs.Ytbogkjbjgcclnaa
open Go Go.Am
attribute [local irreducible] T TL CallT Decidable.decide
theorem UtfTells_c (s : ByteArray) (a : Int) (_hs : s.size ≤ 140737488351232) : CallE X 9 [.val (.string s), .val (.int .i64 a)] (.val (.bool true)) := by
  have hcut : CallE X 36 [.val (.string s), .val (.int .i64 200)] (.val (.string (cutS s 200))) := cut_c s 200 (by decide)
  have hsz := cutS_size s 200
  generalize cutS s 200 = c at hcut hsz
  have hb : c.size = c.data.toList.length := rfl
  have h1 := At_c c a (by omega)
  have h2 := Size_c c.data.toList a (by omega)
  have h3 := Rune_c c.data.toList a (by omega)
  have h4 := Bound_c c.data.toList a (by omega)
  have h5 := refBound_c c a (by omega)
  have h6 := Next_c c.data.toList a (by omega)
  have h7 : CallE X 47 [.val (.string c), .val (.int .i64 a)] (.val (.int .i64 (nextB (allB c.data.toList) a c.data.toList.length))) := refNext_c c a (by omega)
  have h8 := Prev_c c.data.toList a (by omega)
  have h9 := refPrev_c c a (by omega)
  refine CallE.mk (X := X) Try.func9 rfl rfl Try.ntmps9 rfl rfl ?_
  repeat' (first | refine TL.pure' (d' := .val (.bool true)) rfl (ofTrue (by first | rfl | omega)) rfl ?_ | refine TL.pure' (d' := .val (.bool false)) rfl (neF rfl) rfl ?_ | refine TL.eqBoolT (X := X) rfl rfl rfl rfl rfl ?_ | refine TL.toBytes (X := X) rfl rfl rfl rfl rfl rfl rfl rfl ?_ | refine TL.callE (X := X) fn36 hcut rfl rfl rfl rfl ?_ | refine TL.callE (X := X) fn44 h1 rfl rfl rfl rfl ?_ | refine TL.callE (X := X) fn42 h2 rfl rfl rfl rfl ?_ | refine TL.callE (X := X) fn41 h3 rfl rfl rfl rfl ?_ | refine TL.callE (X := X) fn43 h4 rfl rfl rfl rfl ?_ | refine TL.callE (X := X) fn45 h5 rfl rfl rfl rfl ?_ | refine TL.callE (X := X) fn46 h6 rfl rfl rfl rfl ?_ | refine TL.callE (X := X) fn47 h7 rfl rfl rfl rfl ?_ | refine TL.callE (X := X) fn48 h8 rfl rfl rfl rfl ?_ | refine TL.callE (X := X) fn49 h9 rfl rfl rfl rfl ?_ | refine TL.callE (X := X) fn35 awake01_c rfl rfl rfl rfl ?_ | refine TL.pure rfl rfl ?_ | refine TL.done ?_ | refine TL.store' rfl rfl rfl rfl rfl rfl rfl rfl ?_ | refine TL.loadPtr rfl rfl rfl rfl rfl ?_ | refine TL.build rfl rfl rfl rfl rfl rfl ?_ | refine TL.pickT rfl rfl rfl ?_ | refine TL.pickF rfl rfl rfl ?_ | refine T.seq ?_ | refine T.region ?_ | refine T.condT rfl ?_ | refine T.condF rfl ?_ | refine TL.on rfl rfl rfl rfl ?_ | refine TL.offT rfl rfl rfl rfl rfl rfl ?_ | refine TL.offF rfl rfl rfl rfl rfl rfl ?_ | refine TL.offU rfl rfl rfl rfl rfl rfl ?_ | (refine T.condD rfl (fun _ => ?_) (fun _ => ?_) <;> try (exfalso; omega)) | (refine T.condE rfl (fun _ => ?_) (fun _ => ?_) <;> try (exfalso; omega)) | (refine T.condNe rfl (fun _ => ?_) (fun _ => ?_) <;> try (exfalso; omega)) | refine T.condN rfl (fun _ => ?_) (fun _ => ?_) | refine T.cond rfl (fun _ => ?_) (fun _ => ?_) | (refine TL.gD rfl rfl rfl rfl (fun _ => ?_) (fun _ => ?_) <;> try (exfalso; omega)) | (refine TL.gE rfl rfl rfl rfl (fun _ => ?_) (fun _ => ?_) <;> try (exfalso; omega)) | (refine TL.gNe rfl rfl rfl rfl (fun _ => ?_) (fun _ => ?_) <;> try (exfalso; omega)) | refine TL.gN rfl rfl rfl rfl (fun _ => ?_) (fun _ => ?_) | refine TL.gB rfl rfl rfl rfl (fun _ => ?_) (fun _ => ?_) | refine T.block ?_ | (refine T.exit ?_; show T X _ _ _) | refine TL.doneB ?_ | refine T.skipDone ?_ | refine T.skipDoneB ?_ | refine T.ret (T.retPost rfl ?_) | refine TL.nil (T.endPost rfl ?_))
  rfl
end Go.Proofs.Ytbogkjbjgcclnaa
