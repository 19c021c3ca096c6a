/- The row of the law FindRound. -/
import Derived.Test.YtbcbggdgkdfciaaRows
import Derived.Test.YtbcbggdgkdfciaaSG
import Derived.Test.YtbcbggdgkdfciaaPFR
import Derived.WalkKit
import Derived.ProofKit
import Derived.OpenShut
import Derived.ShutString
import Derived.ChangeOld
import Derived.Below
import Derived.HandedShaped
namespace Go.Proofs.Ytbcbggdgkdfciaa.findRound
open Go Go.Sm Go.ChangeShapes Go.WideShapes Go.ChangeAt Go.RowKit Go.Proofs.Ytbcbggdgkdfciaa.S
open Go.ChangeMaps (open_string shut_string)
set_option linter.unusedVariables false
theorem own : ownKnob Try.prog.godebug = none := by kernel_rfl
theorem o9 : Opens Try.prog 9 (eS : (List UInt8) → Dat) (fun a => a.length ≤ maxLen) := Opens.str Try.underlying9 (by kernel_rfl : Try.prog.cellsOf 9 = 1)
theorem o115 : Opens Try.prog 115 ((eI .u64) : Int → Dat) (fun a => (Lit.int .u64 a).wf = true) := Opens.int Try.underlying115 (by kernel_rfl : Try.prog.cellsOf 115 = 1)
set_option maxRecDepth 100000 in
theorem lifted (os : Os) (started : os.Started) (H : Type) (enc : TypeId × Value → H) :
    ReturnsInHanded {} Try.checked os 9 .any (Rows.findRoundSpec.pre6 enc Try.prog Try.f9 Rows.findRoundRow.domain false) (Rows.findRoundSpec.post enc Try.prog Try.f9 false true false false) := by
  refine returnsInHanded_of_change_shaped (C := Try.checked) own started (by kernel_rfl) Try.func9
    (ChangeSpec.witness6 (enc := enc) (C := Try.checked) false ⟨#[], #[.string ByteArray.empty, .int .u64 0, .string ByteArray.empty], []⟩ 8 (by kernel_rfl) (by kernel_rfl) (by kernel_rfl) (by kernel_rfl)) ?_
  intro W base args ds gs before hval0 hW hcnd hsz0 hsh _
  have hsz : (DataW.weightsEach Try.prog (Try.f9.params.toList ++ Rows.findRoundSpec.plain.varTypes Try.prog) (ds ++ gs)).all (· ≤ reachBytes) = true := hsz0
  have hval : ∀ (j : Nat) t v, Try.f9.params[j]? = some t → args[j]? = some v → Value.okWide Try.prog W .any base t v := hval0
  have hW' := hW
  obtain ⟨p, q, hA0, hV, rfl, hfz, hnd⟩ := hW
  have hA : DataW.TrodAll enc Try.prog W 0 (fun _ => true) true Try.f9.params.toList args.toList ds p := hA0
  rw [Try.params9] at hA hval hsz
  have hA2 := hA
  obtain ⟨v0, vs0, d0, ds0, p0, q0, hargs, rfl, rfl, h0, r0⟩ := trodAll_cons hA
  obtain ⟨v1, vs1, d1, ds1, p1, q1, rfl, rfl, rfl, h1, r1⟩ := trodAll_cons r0
  obtain ⟨v2, vs2, d2, ds2, p2, q2, rfl, rfl, rfl, h2, r2⟩ := trodAll_cons r1
  obtain ⟨rfl, rfl, rfl⟩ := trodAll_nil r2
  obtain rfl : args = #[v0, v1, v2] := by cases args; simp_all
  obtain ⟨rfl, rfl⟩ := trodVars_none hV
  obtain ⟨a0, w0, g0⟩ := (o9).topStr (fun _ => rfl) Try.underlying9 (hval 0 9 v0 rfl rfl) h0
  obtain ⟨a1, w1, g1⟩ := (o115).topInt (fun _ => rfl) Try.underlying115 (hval 1 115 v1 rfl rfl) h1
  obtain ⟨a2, w2, g2⟩ := (o9).topStr (fun _ => rfl) Try.underlying9 (hval 2 9 v2 rfl rfl) h2
  clear hA0 hval0 hsz0 hsz
  refine (CallF.row (vs := [v0, v1, v2]) (law17_FindRound_c (FindRound_holds a0 a1 a2 w0 w1 w2)) (.cons g0 (.cons g1 (.cons g2 (.nil)))) (glOk hsh)).mono fun e W' ⟨he, bel⟩ => ?_
  subst he
  exact ⟨_, rfl, _, _, _, [], _, [], hW', trodAll_mk1 (shut_bool Try.underlying4 _), trodAll_stays (by kernel_rfl) bel (by decide +kernel) hA2, rfl, bel.frame _, fun h => by cases h⟩
theorem over : Rows.findRoundRow.holds Try.pinned (OpenSpec.ofChange Rows.findRoundSpec) :=
  OpenClaim.holds_of_wide 9 Try.f9 rfl rfl rfl rfl rfl rfl rfl ⟨rfl, rfl, rfl, rfl, rfl⟩ rfl rfl rfl rfl rfl (by kernel_rfl) Try.func9 (by kernel_rfl)
    (of_decide_eq_true (by kernel_rfl)) (by unfold Func.isWrapper; first | (rw [if_pos (by decide +kernel)]; kernel_rfl) | (rw [if_neg (by decide +kernel)]; exact ⟨rfl, rfl⟩))
    (fun os started H enc _ => lifted os started H enc)
theorem proved : Rows.FindRoundSaid := over
end Go.Proofs.Ytbcbggdgkdfciaa.findRound
namespace Go.Proofs.Ytbcbggdgkdfciaa
/-- The row, under a short name, for the claim. -/
theorem findRound_holds : Rows.FindRoundSaid := findRound.proved
end Go.Proofs.Ytbcbggdgkdfciaa
