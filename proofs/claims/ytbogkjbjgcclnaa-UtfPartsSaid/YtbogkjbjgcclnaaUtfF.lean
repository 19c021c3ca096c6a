/- Package utf: the laws' own example. -/
import Derived.Test.YtbogkjbjgcclnaaUtfE
namespace Go.Proofs.Ytbogkjbjgcclnaa
open Go Go.Am
theorem ofTrue {p : Prop} [Decidable p] (h : p) : Dat.val (.bool (decide p)) = .val (.bool true) := by rw [decide_eq_true h]
theorem ofEqS {a b : List UInt8} (h : a = b) : Dat.val (.bool (a == b)) = .val (.bool true) := by rw [h, beq_self_eq_true]
def ex01 : List UInt8 := [195, 164, 176]
theorem ex01_count : ((bndA ex01 0).length : Int) = 2 := by decide +kernel
theorem ex01_r0 : (atS ex01 0).1 = 228 := by decide +kernel
theorem ex01_r2 : (atS ex01 2).1 = -1 := by decide +kernel
theorem ex01_s0 : (atS ex01 0).2 = 2 := by decide +kernel
theorem ex01_put : putB 8364 = [226, 130, 172] := by decide +kernel
theorem ex01_class : classS 97 = 1 := by decide +kernel
theorem ex01_bytes : [u8 195, u8 164, u8 176] = ex01.map byteD := rfl
attribute [local irreducible] T TL CallT Decidable.decide
theorem awake01_c : CallE X 35 [] (.val (.bool true)) := by
  have c1 := Count_c ex01 (by decide)
  have c2 := Rune_c ex01 0 (by decide)
  have c3 := Rune_c ex01 2 (by decide)
  have c4 := Size_c ex01 0 (by decide)
  have c5 := Put_b 8364
  have c6 := Class_c 97
  rw [← ex01_bytes] at c1 c2 c3 c4
  rw [ex01_count] at c1
  rw [ex01_r0] at c2
  rw [ex01_r2] at c3
  rw [ex01_s0] at c4
  rw [ex01_put] at c5
  rw [ex01_class] at c6
  refine CallE.mk (X := X) Try.func35 rfl rfl Try.ntmps35 rfl rfl ?_
  repeat' (first | refine TL.pure' (d' := .val (.bool true)) rfl (ofTrue (by first | rfl | omega)) rfl ?_ | refine TL.pure' (d' := .val (.bool true)) rfl (ofEqS rfl) rfl ?_ | refine TL.lit (X := X) (sz := 1) rfl rfl rfl rfl rfl rfl rfl rfl ?_ | refine TL.callE (X := X) fn37 c1 rfl rfl rfl rfl ?_ | refine TL.callE (X := X) fn41 c2 rfl rfl rfl rfl ?_ | refine TL.callE (X := X) fn41 c3 rfl rfl rfl rfl ?_ | refine TL.callE (X := X) fn42 c4 rfl rfl rfl rfl ?_ | refine TL.callE (X := X) fn31 c5 rfl rfl rfl rfl ?_ | refine TL.callE (X := X) fn33 c6 rfl rfl rfl rfl ?_ | refine TL.toStr (X := X) (bs := [226, 130, 172]) rfl rfl rfl rfl rfl rfl rfl rfl ?_ | refine TL.pure rfl rfl ?_ | refine TL.done ?_ | refine TL.store' rfl rfl rfl rfl rfl rfl rfl rfl ?_ | refine TL.loadPtr rfl rfl rfl rfl rfl ?_ | refine TL.build rfl rfl rfl rfl rfl rfl ?_ | refine TL.pickT rfl rfl rfl ?_ | refine TL.pickF rfl rfl rfl ?_ | refine T.seq ?_ | refine T.region ?_ | refine T.condT rfl ?_ | refine T.condF rfl ?_ | refine TL.on rfl rfl rfl rfl ?_ | refine TL.offT rfl rfl rfl rfl rfl rfl ?_ | refine TL.offF rfl rfl rfl rfl rfl rfl ?_ | refine TL.offU rfl rfl rfl rfl rfl rfl ?_ | (refine T.condD rfl (fun _ => ?_) (fun _ => ?_) <;> try (exfalso; omega)) | (refine T.condE rfl (fun _ => ?_) (fun _ => ?_) <;> try (exfalso; omega)) | (refine T.condNe rfl (fun _ => ?_) (fun _ => ?_) <;> try (exfalso; omega)) | refine T.condN rfl (fun _ => ?_) (fun _ => ?_) | refine T.cond rfl (fun _ => ?_) (fun _ => ?_) | (refine TL.gD rfl rfl rfl rfl (fun _ => ?_) (fun _ => ?_) <;> try (exfalso; omega)) | (refine TL.gE rfl rfl rfl rfl (fun _ => ?_) (fun _ => ?_) <;> try (exfalso; omega)) | (refine TL.gNe rfl rfl rfl rfl (fun _ => ?_) (fun _ => ?_) <;> try (exfalso; omega)) | refine TL.gN rfl rfl rfl rfl (fun _ => ?_) (fun _ => ?_) | refine TL.gB rfl rfl rfl rfl (fun _ => ?_) (fun _ => ?_) | refine T.block ?_ | (refine T.exit ?_; show T X _ _ _) | refine TL.doneB ?_ | refine T.skipDone ?_ | refine T.skipDoneB ?_ | refine T.ret (T.retPost rfl ?_) | refine TL.nil (T.endPost rfl ?_))
  rfl
end Go.Proofs.Ytbogkjbjgcclnaa
