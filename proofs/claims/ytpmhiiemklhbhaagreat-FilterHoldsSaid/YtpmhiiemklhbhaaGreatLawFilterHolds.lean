/- The row of the law FilterHolds. -/
import Derived.Test.YtpmhiiemklhbhaaGreatRows
import Derived.Test.YtpmhiiemklhbhaaGreatSG
import Derived.Test.YtpmhiiemklhbhaaGreatPFH
import Derived.WalkKit
import Derived.ProofKit
import Derived.OpenShut
import Derived.ShutString
import Derived.ChangeOld
import Derived.Below
import Derived.HandedShaped
namespace Go.Proofs.YtpmhiiemklhbhaaGreat.filterHolds
open Go Go.Sm Go.ChangeShapes Go.WideShapes Go.ChangeAt Go.RowKit Go.Proofs.YtpmhiiemklhbhaaGreat.S
open Go.ChangeMaps (open_string shut_string)
set_option linter.unusedVariables false
theorem own : ownKnob Tryz.prog.godebug = none := by kernel_rfl
theorem o9 : Opens Tryz.prog 9 (eS : (List UInt8) → Dat) (fun a => a.length ≤ maxLen) := Opens.str Tryz.underlying9 (by kernel_rfl : Tryz.prog.cellsOf 9 = 1)
theorem o3 : Opens Tryz.prog 3 ((eI .i64) : Int → Dat) (fun a => (Lit.int .i64 a).wf = true) := Opens.int Tryz.underlying3 (by kernel_rfl : Tryz.prog.cellsOf 3 = 1)
theorem o4 : Opens Tryz.prog 4 (eB : Bool → Dat) (fun _ => True) := Opens.bool Tryz.underlying4 (by kernel_rfl : Tryz.prog.cellsOf 4 = 1)
def e_ref18_Test (x : ref18_Test) : Dat := .agg [.val (.int .i64 x.fCol), .val (.int .i64 x.fOp), .val (.string (bs x.fArg)), .val (.bool x.fNot)]
theorem o64 : Opens Tryz.prog 64 (e_ref18_Test : ref18_Test → Dat) (fun a => (fun a => (Lit.int .i64 a).wf = true) a.fCol ∧ (fun a => (Lit.int .i64 a).wf = true) a.fOp ∧ (fun a => a.length ≤ maxLen) a.fArg ∧ (fun _ => True) a.fNot) := by
  intro H enc w sp held n cs x h
  obtain ⟨xs, m, rfl, -, hl, hxs, hf⟩ := DataW.trod_struct Tryz.underlying64 h
  obtain ⟨b0, w0, l0, e0⟩ := Opens.field hf hxs 0 rfl o3 (o := 0) (z := 1) rfl (by kernel_rfl)
  obtain ⟨b1, w1, l1, e1⟩ := Opens.field hf hxs 1 rfl o3 (o := 1) (z := 1) rfl (by kernel_rfl)
  obtain ⟨b2, w2, l2, e2⟩ := Opens.field hf hxs 2 rfl o9 (o := 2) (z := 1) rfl (by kernel_rfl)
  obtain ⟨b3, w3, l3, e3⟩ := Opens.field hf hxs 3 rfl o4 (o := 3) (z := 1) rfl (by kernel_rfl)
  have E := (OE.chain (o := 0) e0 (by rfl) (OE.chain (o := 1) e1 (by rfl) (OE.chain (o := 2) e2 (by rfl) (OE.chain (o := 3) e3 (by rfl) (OE.nil0 (cs := cs) (o := 4) (by rw [hl]; exact Nat.le_of_eq (by kernel_rfl)))))))
  exact ⟨⟨b0, b1, b2, b3⟩, ⟨w0, w1, w2, w3⟩, (by kernel_rfl), E⟩
set_option maxRecDepth 100000 in
theorem lifted (os : Os) (started : os.Started) (H : Type) (enc : TypeId × Value → H) :
    ReturnsInHanded {} Tryz.checked os 8 .any (Rows.filterHoldsSpec.pre6 enc Tryz.prog Tryz.f8 Rows.filterHoldsRow.domain false) (Rows.filterHoldsSpec.post enc Tryz.prog Tryz.f8 false true false false) := by
  refine returnsInHanded_of_change_shaped (C := Tryz.checked) own started (by kernel_rfl) Tryz.func8
    (ChangeSpec.witness6 (enc := enc) (C := Tryz.checked) false ⟨#[], #[.string ByteArray.empty, .agg #[.int .i64 0, .int .i64 0, .string ByteArray.empty, .bool false]], []⟩ 8 (by kernel_rfl) (by kernel_rfl) (by kernel_rfl) (by kernel_rfl)) ?_
  intro W base args ds gs before hval0 hW hcnd hsz0 hsh _
  have hsz : (DataW.weightsEach Tryz.prog (Tryz.f8.params.toList ++ Rows.filterHoldsSpec.plain.varTypes Tryz.prog) (ds ++ gs)).all (· ≤ reachBytes) = true := hsz0
  have hval : ∀ (j : Nat) t v, Tryz.f8.params[j]? = some t → args[j]? = some v → Value.okWide Tryz.prog W .any base t v := hval0
  have hW' := hW
  obtain ⟨p, q, hA0, hV, rfl, hfz, hnd⟩ := hW
  have hA : DataW.TrodAll enc Tryz.prog W 0 (fun _ => true) true Tryz.f8.params.toList args.toList ds p := hA0
  rw [Tryz.params8] at hA hval hsz
  have hA2 := hA
  obtain ⟨v0, vs0, d0, ds0, p0, q0, hargs, rfl, rfl, h0, r0⟩ := trodAll_cons hA
  obtain ⟨v1, vs1, d1, ds1, p1, q1, rfl, rfl, rfl, h1, r1⟩ := trodAll_cons r0
  obtain ⟨rfl, rfl, rfl⟩ := trodAll_nil r1
  obtain rfl : args = #[v0, v1] := by cases args; simp_all
  obtain ⟨rfl, rfl⟩ := trodVars_none hV
  obtain ⟨a0, w0, g0⟩ := (o9).topStr (fun _ => rfl) Tryz.underlying9 (hval 0 9 v0 rfl rfl) h0
  obtain ⟨a1, w1, g1⟩ := (o64).topStruct (fun _ => rfl) Tryz.underlying64 (hval 1 64 v1 rfl rfl) h1
  clear hA0 hval0 hsz0 hsz
  refine (CallF.row (vs := [v0, v1]) (law18_FilterHolds_c (FilterHolds_holds a0 a1 w0 w1)) (.cons g0 (.cons g1 (.nil))) (glOk hsh)).mono fun e W' ⟨he, bel⟩ => ?_
  subst he
  exact ⟨_, rfl, _, _, _, [], _, [], hW', trodAll_mk1 (shut_bool Tryz.underlying4 _), trodAll_stays (by kernel_rfl) bel (by decide +kernel) hA2, rfl, bel.frame _, fun h => by cases h⟩
theorem over : Rows.filterHoldsRow.holds Tryz.pinned (OpenSpec.ofChange Rows.filterHoldsSpec) :=
  OpenClaim.holds_of_wide 8 Tryz.f8 rfl rfl rfl rfl rfl rfl rfl ⟨rfl, rfl, rfl, rfl, rfl⟩ rfl rfl rfl rfl rfl (by kernel_rfl) Tryz.func8 (by kernel_rfl)
    (of_decide_eq_true (by kernel_rfl)) (by unfold Func.isWrapper; first | (rw [if_pos (by decide +kernel)]; kernel_rfl) | (rw [if_neg (by decide +kernel)]; exact ⟨rfl, rfl⟩))
    (fun os started H enc _ => lifted os started H enc)
theorem proved : Rows.FilterHoldsSaid := over
end Go.Proofs.YtpmhiiemklhbhaaGreat.filterHolds
namespace Go.Proofs.YtpmhiiemklhbhaaGreat
/-- The row, under a short name, for the claim. -/
theorem filterHolds_holds : Rows.FilterHoldsSaid := filterHolds.proved
end Go.Proofs.YtpmhiiemklhbhaaGreat
