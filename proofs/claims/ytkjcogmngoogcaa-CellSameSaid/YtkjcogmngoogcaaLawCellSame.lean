/- The row of the law CellSame. -/
import Derived.Test.YtkjcogmngoogcaaRows
import Derived.Test.YtkjcogmngoogcaaSG
import Derived.Test.YtkjcogmngoogcaaCeS
import Derived.WalkKit
import Derived.ProofKit
import Derived.OpenShut
import Derived.ShutString
import Derived.ChangeOld
import Derived.Below
import Derived.HandedShaped
namespace Go.Proofs.Ytkjcogmngoogcaa.cellSame
open Go Go.Sm Go.ChangeShapes Go.WideShapes Go.ChangeAt Go.RowKit Go.Proofs.Ytkjcogmngoogcaa.S
open Go.ChangeMaps (open_string shut_string)
set_option linter.unusedVariables false
theorem own : ownKnob Try.prog.godebug = none := by kernel_rfl
theorem o9 : Opens Try.prog 9 (eS : (List UInt8) → Dat) (fun a => a.length ≤ maxLen) := Opens.str Try.underlying9 (by kernel_rfl : Try.prog.cellsOf 9 = 1)
theorem o5 : Opens Try.prog 5 (byteD : UInt8 → Dat) (fun _ => True) := Opens.byte Try.underlying5 (by kernel_rfl : Try.prog.cellsOf 5 = 1)
theorem o77 : Opens Try.prog 77 ((fun x : UInt8 × UInt8 => .agg [.val (.int .u8 (x.1.toNat : Int)), .val (.int .u8 (x.2.toNat : Int))]) : (UInt8 × UInt8) → Dat) (fun a => (fun _ => True) a.1 ∧ (fun _ => True) a.2) := by
  intro H enc w sp held n cs x h
  obtain ⟨xs, m, rfl, -, hl, hxs, hf⟩ := DataW.trod_array Try.underlying77 h
  obtain ⟨b0, w0, l0, e0⟩ := Opens.elem hf hxs 0 rfl o5 (o := 0) (z := 1) (by kernel_rfl) (by kernel_rfl)
  obtain ⟨b1, w1, l1, e1⟩ := Opens.elem hf hxs 1 rfl o5 (o := 1) (z := 1) (by kernel_rfl) (by kernel_rfl)
  have E := (OE.chain (o := 0) e0 (by rfl) (OE.chain (o := 1) e1 (by rfl) (OE.nil0 (cs := cs) (o := 2) (by rw [hl]; exact Nat.le_of_eq (by kernel_rfl)))))
  exact ⟨⟨b0, b1⟩, ⟨w0, w1⟩, (by kernel_rfl), E⟩
theorem o4 : Opens Try.prog 4 (eB : Bool → Dat) (fun _ => True) := Opens.bool Try.underlying4 (by kernel_rfl : Try.prog.cellsOf 4 = 1)
theorem o78 : Opens Try.prog 78 ((fun x : Bool × Bool => .agg [.val (.bool x.1), .val (.bool x.2)]) : (Bool × Bool) → Dat) (fun a => (fun _ => True) a.1 ∧ (fun _ => True) a.2) := by
  intro H enc w sp held n cs x h
  obtain ⟨xs, m, rfl, -, hl, hxs, hf⟩ := DataW.trod_array Try.underlying78 h
  obtain ⟨b0, w0, l0, e0⟩ := Opens.elem hf hxs 0 rfl o4 (o := 0) (z := 1) (by kernel_rfl) (by kernel_rfl)
  obtain ⟨b1, w1, l1, e1⟩ := Opens.elem hf hxs 1 rfl o4 (o := 1) (z := 1) (by kernel_rfl) (by kernel_rfl)
  have E := (OE.chain (o := 0) e0 (by rfl) (OE.chain (o := 1) e1 (by rfl) (OE.nil0 (cs := cs) (o := 2) (by rw [hl]; exact Nat.le_of_eq (by kernel_rfl)))))
  exact ⟨⟨b0, b1⟩, ⟨w0, w1⟩, (by kernel_rfl), E⟩
set_option maxRecDepth 100000 in
theorem lifted (os : Os) (started : os.Started) (H : Type) (enc : TypeId × Value → H) :
    ReturnsInHanded {} Try.checked os 9 .any (Rows.cellSameSpec.pre6 enc Try.prog Try.f9 Rows.cellSameRow.domain false) (Rows.cellSameSpec.post enc Try.prog Try.f9 false true false false) := by
  refine returnsInHanded_of_change_shaped (C := Try.checked) own started (by kernel_rfl) Try.func9
    (ChangeSpec.witness6 (enc := enc) (C := Try.checked) false ⟨#[], #[.string ByteArray.empty, .agg #[.int .u8 0, .int .u8 0], .agg #[.bool false, .bool false]], []⟩ 8 (by kernel_rfl) (by kernel_rfl) (by kernel_rfl) (by kernel_rfl)) ?_
  intro W base args ds gs before hval0 hW hcnd hsz0 hsh _
  have hsz : (DataW.weightsEach Try.prog (Try.f9.params.toList ++ Rows.cellSameSpec.plain.varTypes Try.prog) (ds ++ gs)).all (· ≤ reachBytes) = true := hsz0
  have hval : ∀ (j : Nat) t v, Try.f9.params[j]? = some t → args[j]? = some v → Value.okWide Try.prog W .any base t v := hval0
  have hW' := hW
  obtain ⟨p, q, hA0, hV, rfl, hfz, hnd⟩ := hW
  have hA : DataW.TrodAll enc Try.prog W 0 (fun _ => true) true Try.f9.params.toList args.toList ds p := hA0
  rw [Try.params9] at hA hval hsz
  have hA2 := hA
  obtain ⟨v0, vs0, d0, ds0, p0, q0, hargs, rfl, rfl, h0, r0⟩ := trodAll_cons hA
  obtain ⟨v1, vs1, d1, ds1, p1, q1, rfl, rfl, rfl, h1, r1⟩ := trodAll_cons r0
  obtain ⟨v2, vs2, d2, ds2, p2, q2, rfl, rfl, rfl, h2, r2⟩ := trodAll_cons r1
  obtain ⟨rfl, rfl, rfl⟩ := trodAll_nil r2
  obtain rfl : args = #[v0, v1, v2] := by cases args; simp_all
  obtain ⟨rfl, rfl⟩ := trodVars_none hV
  obtain ⟨a0, w0, g0⟩ := (o9).topStr (fun _ => rfl) Try.underlying9 (hval 0 9 v0 rfl rfl) h0
  obtain ⟨a1, w1, g1⟩ := (o77).topArray (fun _ => rfl) Try.underlying77 (hval 1 77 v1 rfl rfl) h1
  obtain ⟨a2, w2, g2⟩ := (o78).topArray (fun _ => rfl) Try.underlying78 (hval 2 78 v2 rfl rfl) h2
  clear hA0 hval0 hsz0 hsz
  refine (CallF.row (vs := [v0, v1, v2]) (law07_CellSame_c (CellSame_holds a0 a1 a2 w0 w1 w2)) (.cons g0 (.cons g1 (.cons g2 (.nil)))) (glOk hsh)).mono fun e W' ⟨he, bel⟩ => ?_
  subst he
  exact ⟨_, rfl, _, _, _, [], _, [], hW', trodAll_mk1 (shut_bool Try.underlying4 _), trodAll_stays (by kernel_rfl) bel (by decide +kernel) hA2, rfl, bel.frame _, fun h => by cases h⟩
theorem over : Rows.cellSameRow.holds Try.pinned (OpenSpec.ofChange Rows.cellSameSpec) :=
  OpenClaim.holds_of_wide 9 Try.f9 rfl rfl rfl rfl rfl rfl rfl ⟨rfl, rfl, rfl, rfl, rfl⟩ rfl rfl rfl rfl rfl (by kernel_rfl) Try.func9 (by kernel_rfl)
    (of_decide_eq_true (by kernel_rfl)) (by unfold Func.isWrapper; first | (rw [if_pos (by decide +kernel)]; kernel_rfl) | (rw [if_neg (by decide +kernel)]; exact ⟨rfl, rfl⟩))
    (fun os started H enc _ => lifted os started H enc)
theorem proved : Rows.CellSameSaid := over
end Go.Proofs.Ytkjcogmngoogcaa.cellSame
namespace Go.Proofs.Ytkjcogmngoogcaa
/-- The row, under a short name, for the claim. -/
theorem cellSame_holds : Rows.CellSameSaid := cellSame.proved
end Go.Proofs.Ytkjcogmngoogcaa
