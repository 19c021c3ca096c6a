/- The row of the law FindReplaces. -/
import Derived.Test.YtbcbggdgkdfciaaRows
import Derived.Test.YtbcbggdgkdfciaaSG
import Derived.Test.YtbcbggdgkdfciaaFiL
import Derived.WalkKit
import Derived.ProofKit
import Derived.OpenShut
import Derived.ShutString
import Derived.ChangeOld
import Derived.Below
import Derived.HandedShaped
namespace Go.Proofs.Ytbcbggdgkdfciaa.findReplaces
open Go Go.Sm Go.ChangeShapes Go.WideShapes Go.ChangeAt Go.RowKit Go.Proofs.Ytbcbggdgkdfciaa.S
open Go.ChangeMaps (open_string shut_string)
set_option linter.unusedVariables false
theorem own : ownKnob Try.prog.godebug = none := by kernel_rfl
theorem o9 : Opens Try.prog 9 (eS : (List UInt8) → Dat) (fun a => a.length ≤ maxLen) := Opens.str Try.underlying9 (by kernel_rfl : Try.prog.cellsOf 9 = 1)
theorem o4 : Opens Try.prog 4 (eB : Bool → Dat) (fun _ => True) := Opens.bool Try.underlying4 (by kernel_rfl : Try.prog.cellsOf 4 = 1)
def e_law17_Swap (x : law17_Swap) : Dat := .agg [.val (.string (bs x.fP)), .val (.string (bs x.fWith)), .val (.bool x.fAll)]
theorem o23 : Opens Try.prog 23 (e_law17_Swap : law17_Swap → Dat) (fun a => (fun a => a.length ≤ maxLen) a.fP ∧ (fun a => a.length ≤ maxLen) a.fWith ∧ (fun _ => True) a.fAll) := by
  intro H enc w sp held n cs x h
  obtain ⟨xs, m, rfl, -, hl, hxs, hf⟩ := DataW.trod_struct Try.underlying23 h
  obtain ⟨b0, w0, l0, e0⟩ := Opens.field hf hxs 0 rfl o9 (o := 0) (z := 1) rfl (by kernel_rfl)
  obtain ⟨b1, w1, l1, e1⟩ := Opens.field hf hxs 1 rfl o9 (o := 1) (z := 1) rfl (by kernel_rfl)
  obtain ⟨b2, w2, l2, e2⟩ := Opens.field hf hxs 2 rfl o4 (o := 2) (z := 1) rfl (by kernel_rfl)
  have E := (OE.chain (o := 0) e0 (by rfl) (OE.chain (o := 1) e1 (by rfl) (OE.chain (o := 2) e2 (by rfl) (OE.nil0 (cs := cs) (o := 3) (by rw [hl]; exact Nat.le_of_eq (by kernel_rfl))))))
  exact ⟨⟨b0, b1, b2⟩, ⟨w0, w1, w2⟩, (by kernel_rfl), E⟩
set_option maxRecDepth 100000 in
theorem lifted (os : Os) (started : os.Started) (H : Type) (enc : TypeId × Value → H) :
    ReturnsInHanded {} Try.checked os 3 .any (Rows.findReplacesSpec.pre6 enc Try.prog Try.f3 Rows.findReplacesRow.domain false) (Rows.findReplacesSpec.post enc Try.prog Try.f3 false true false false) := by
  refine returnsInHanded_of_change_shaped (C := Try.checked) own started (by kernel_rfl) Try.func3
    (ChangeSpec.witness6 (enc := enc) (C := Try.checked) false ⟨#[], #[.string ByteArray.empty, .agg #[.string ByteArray.empty, .string ByteArray.empty, .bool false]], []⟩ 8 (by kernel_rfl) (by kernel_rfl) (by kernel_rfl) (by kernel_rfl)) ?_
  intro W base args ds gs before hval0 hW hcnd hsz0 hsh _
  have hsz : (DataW.weightsEach Try.prog (Try.f3.params.toList ++ Rows.findReplacesSpec.plain.varTypes Try.prog) (ds ++ gs)).all (· ≤ reachBytes) = true := hsz0
  have hval : ∀ (j : Nat) t v, Try.f3.params[j]? = some t → args[j]? = some v → Value.okWide Try.prog W .any base t v := hval0
  have hW' := hW
  obtain ⟨p, q, hA0, hV, rfl, hfz, hnd⟩ := hW
  have hA : DataW.TrodAll enc Try.prog W 0 (fun _ => true) true Try.f3.params.toList args.toList ds p := hA0
  rw [Try.params3] at hA hval hsz
  have hA2 := hA
  obtain ⟨v0, vs0, d0, ds0, p0, q0, hargs, rfl, rfl, h0, r0⟩ := trodAll_cons hA
  obtain ⟨v1, vs1, d1, ds1, p1, q1, rfl, rfl, rfl, h1, r1⟩ := trodAll_cons r0
  obtain ⟨rfl, rfl, rfl⟩ := trodAll_nil r1
  obtain rfl : args = #[v0, v1] := by cases args; simp_all
  obtain ⟨rfl, rfl⟩ := trodVars_none hV
  obtain ⟨a0, w0, g0⟩ := (o9).topStr (fun _ => rfl) Try.underlying9 (hval 0 9 v0 rfl rfl) h0
  obtain ⟨a1, w1, g1⟩ := (o23).topStruct (fun _ => rfl) Try.underlying23 (hval 1 23 v1 rfl rfl) h1
  clear hA0 hval0 hsz0 hsz
  refine (CallF.row (vs := [v0, v1]) (law17_FindReplaces_c (FindReplaces_holds a0 a1 w0 w1)) (.cons g0 (.cons g1 (.nil))) (glOk hsh)).mono fun e W' ⟨he, bel⟩ => ?_
  subst he
  exact ⟨_, rfl, _, _, _, [], _, [], hW', trodAll_mk1 (shut_bool Try.underlying4 _), trodAll_stays (by kernel_rfl) bel (by decide +kernel) hA2, rfl, bel.frame _, fun h => by cases h⟩
theorem over : Rows.findReplacesRow.holds Try.pinned (OpenSpec.ofChange Rows.findReplacesSpec) :=
  OpenClaim.holds_of_wide 3 Try.f3 rfl rfl rfl rfl rfl rfl rfl ⟨rfl, rfl, rfl, rfl, rfl⟩ rfl rfl rfl rfl rfl (by kernel_rfl) Try.func3 (by kernel_rfl)
    (of_decide_eq_true (by kernel_rfl)) (by unfold Func.isWrapper; first | (rw [if_pos (by decide +kernel)]; kernel_rfl) | (rw [if_neg (by decide +kernel)]; exact ⟨rfl, rfl⟩))
    (fun os started H enc _ => lifted os started H enc)
theorem proved : Rows.FindReplacesSaid := over
end Go.Proofs.Ytbcbggdgkdfciaa.findReplaces
namespace Go.Proofs.Ytbcbggdgkdfciaa
/-- The row, under a short name, for the claim. -/
theorem findReplaces_holds : Rows.FindReplacesSaid := findReplaces.proved
end Go.Proofs.Ytbcbggdgkdfciaa
