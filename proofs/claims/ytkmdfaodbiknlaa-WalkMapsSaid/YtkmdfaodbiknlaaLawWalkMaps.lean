/- The row of the law WalkMaps. -/
import Derived.Test.YtkmdfaodbiknlaaRows
import Derived.Test.YtkmdfaodbiknlaaSG
import Derived.Test.YtkmdfaodbiknlaaTwM
import Derived.WalkKit
import Derived.ProofKit
import Derived.OpenShut
import Derived.ShutString
import Derived.ChangeOld
import Derived.Below
import Derived.HandedShaped
namespace Go.Proofs.Ytkmdfaodbiknlaa.walkMaps
open Go Go.Sm Go.ChangeShapes Go.WideShapes Go.ChangeAt Go.RowKit Go.Proofs.Ytkmdfaodbiknlaa.S
open Go.ChangeMaps (open_string shut_string)
set_option linter.unusedVariables false
theorem own : ownKnob Try.prog.godebug = none := by kernel_rfl
theorem o3 : Opens Try.prog 3 ((eI .i64) : Int → Dat) (fun a => (Lit.int .i64 a).wf = true) := Opens.int Try.underlying3 (by kernel_rfl : Try.prog.cellsOf 3 = 1)
theorem o22 : Opens Try.prog 22 ((fun l => Dat.sl 1 (List.map (eI .i64) l)) : (List Int) → Dat) (fun l => l.length ≤ maxLen ∧ ∀ a ∈ l, (fun a => (Lit.int .i64 a).wf = true) a) := Opens.slice o3 Try.underlying22 (by kernel_rfl : Try.prog.cellsOf 22 = 1) (by kernel_rfl : Try.prog.cellsOf 3 = 1)
theorem o5 : Opens Try.prog 5 (byteD : UInt8 → Dat) (fun _ => True) := Opens.byte Try.underlying5 (by kernel_rfl : Try.prog.cellsOf 5 = 1)
set_option maxRecDepth 100000 in
theorem lifted (os : Os) (started : os.Started) (H : Type) (enc : TypeId × Value → H) :
    ReturnsInHanded {} Try.checked os 9 .any (Rows.walkMapsSpec.pre6 enc Try.prog Try.f9 Rows.walkMapsRow.domain false) (Rows.walkMapsSpec.post enc Try.prog Try.f9 false true false false) := by
  refine returnsInHanded_of_change_shaped (C := Try.checked) own started (by kernel_rfl) Try.func9
    (ChangeSpec.witness6 (enc := enc) (C := Try.checked) false ⟨#[], #[.slice none 0 0, .int .i64 0, .int .u8 0], []⟩ 8 (by kernel_rfl) (by kernel_rfl) (by kernel_rfl) (by kernel_rfl)) ?_
  intro W base args ds gs before hval0 hW hcnd hsz0 hsh _
  have hsz : (DataW.weightsEach Try.prog (Try.f9.params.toList ++ Rows.walkMapsSpec.plain.varTypes Try.prog) (ds ++ gs)).all (· ≤ reachBytes) = true := hsz0
  have hval : ∀ (j : Nat) t v, Try.f9.params[j]? = some t → args[j]? = some v → Value.okWide Try.prog W .any base t v := hval0
  have hW' := hW
  obtain ⟨p, q, hA0, hV, rfl, hfz, hnd⟩ := hW
  have hA : DataW.TrodAll enc Try.prog W 0 (fun _ => true) true Try.f9.params.toList args.toList ds p := hA0
  rw [Try.params9] at hA hval hsz
  have hA2 := hA
  obtain ⟨v0, vs0, d0, ds0, p0, q0, hargs, rfl, rfl, h0, r0⟩ := trodAll_cons hA
  obtain ⟨v1, vs1, d1, ds1, p1, q1, rfl, rfl, rfl, h1, r1⟩ := trodAll_cons r0
  obtain ⟨v2, vs2, d2, ds2, p2, q2, rfl, rfl, rfl, h2, r2⟩ := trodAll_cons r1
  obtain ⟨rfl, rfl, rfl⟩ := trodAll_nil r2
  obtain rfl : args = #[v0, v1, v2] := by cases args; simp_all
  obtain ⟨rfl, rfl⟩ := trodVars_none hV
  obtain ⟨a0, w0, g0⟩ := (o22).topSlice (fun _ => rfl) Try.underlying22 (hval 0 22 v0 rfl rfl) h0
  obtain ⟨a1, w1, g1⟩ := (o3).topInt (fun _ => rfl) Try.underlying3 (hval 1 3 v1 rfl rfl) h1
  obtain ⟨a2, w2, g2⟩ := (o5).topInt (fun _ => rfl) Try.underlying5 (hval 2 5 v2 rfl rfl) h2
  clear hA0 hval0 hsz0 hsz
  refine (CallF.row (vs := [v0, v1, v2]) (law10_WalkMaps_c (WalkMaps_holds a0 a1 a2 w0 w1 w2)) (.cons g0 (.cons g1 (.cons g2 (.nil)))) (glOk hsh)).mono fun e W' ⟨he, bel⟩ => ?_
  subst he
  exact ⟨_, rfl, _, _, _, [], _, [], hW', trodAll_mk1 (shut_bool Try.underlying4 _), trodAll_stays (by kernel_rfl) bel (by decide +kernel) hA2, rfl, bel.frame _, fun h => by cases h⟩
theorem over : Rows.walkMapsRow.holds Try.pinned (OpenSpec.ofChange Rows.walkMapsSpec) :=
  OpenClaim.holds_of_wide 9 Try.f9 rfl rfl rfl rfl rfl rfl rfl ⟨rfl, rfl, rfl, rfl, rfl⟩ rfl rfl rfl rfl rfl (by kernel_rfl) Try.func9 (by kernel_rfl)
    (of_decide_eq_true (by kernel_rfl)) (by unfold Func.isWrapper; first | (rw [if_pos (by decide +kernel)]; kernel_rfl) | (rw [if_neg (by decide +kernel)]; exact ⟨rfl, rfl⟩))
    (fun os started H enc _ => lifted os started H enc)
theorem proved : Rows.WalkMapsSaid := over
end Go.Proofs.Ytkmdfaodbiknlaa.walkMaps
namespace Go.Proofs.Ytkmdfaodbiknlaa
/-- The row, under a short name, for the claim. -/
theorem walkMaps_holds : Rows.WalkMapsSaid := walkMaps.proved
end Go.Proofs.Ytkmdfaodbiknlaa
