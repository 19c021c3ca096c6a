/- The row of the law FilterShows. -/
import Derived.Test.YtpmhiiemklhbhaaGreatRows
import Derived.Test.YtpmhiiemklhbhaaGreatSG
import Derived.Test.YtpmhiiemklhbhaaGreatPFW
import Derived.WalkKit
import Derived.ProofKit
import Derived.OpenShut
import Derived.ShutString
import Derived.ChangeOld
import Derived.Below
import Derived.HandedShaped
namespace Go.Proofs.YtpmhiiemklhbhaaGreat.filterShows
open Go Go.Sm Go.ChangeShapes Go.WideShapes Go.ChangeAt Go.RowKit Go.Proofs.YtpmhiiemklhbhaaGreat.S
open Go.ChangeMaps (open_string shut_string)
set_option linter.unusedVariables false
theorem own : ownKnob Tryz.prog.godebug = none := by kernel_rfl
theorem o9 : Opens Tryz.prog 9 (eS : (List UInt8) → Dat) (fun a => a.length ≤ maxLen) := Opens.str Tryz.underlying9 (by kernel_rfl : Tryz.prog.cellsOf 9 = 1)
theorem o93 : Opens Tryz.prog 93 ((eI .u64) : Int → Dat) (fun a => (Lit.int .u64 a).wf = true) := Opens.int Tryz.underlying93 (by kernel_rfl : Tryz.prog.cellsOf 93 = 1)
theorem o3 : Opens Tryz.prog 3 ((eI .i64) : Int → Dat) (fun a => (Lit.int .i64 a).wf = true) := Opens.int Tryz.underlying3 (by kernel_rfl : Tryz.prog.cellsOf 3 = 1)
theorem o4 : Opens Tryz.prog 4 (eB : Bool → Dat) (fun _ => True) := Opens.bool Tryz.underlying4 (by kernel_rfl : Tryz.prog.cellsOf 4 = 1)
theorem o64 : Opens Tryz.prog 64 (e_ref18_Test : ref18_Test → Dat) (fun a => (fun a => (Lit.int .i64 a).wf = true) a.fCol ∧ (fun a => (Lit.int .i64 a).wf = true) a.fOp ∧ (fun a => a.length ≤ maxLen) a.fArg ∧ (fun _ => True) a.fNot) := by
  intro H enc w sp held n cs x h
  obtain ⟨xs, m, rfl, -, hl, hxs, hf⟩ := DataW.trod_struct Tryz.underlying64 h
  obtain ⟨b0, w0, l0, e0⟩ := Opens.field hf hxs 0 rfl o3 (o := 0) (z := 1) rfl (by kernel_rfl)
  obtain ⟨b1, w1, l1, e1⟩ := Opens.field hf hxs 1 rfl o3 (o := 1) (z := 1) rfl (by kernel_rfl)
  obtain ⟨b2, w2, l2, e2⟩ := Opens.field hf hxs 2 rfl o9 (o := 2) (z := 1) rfl (by kernel_rfl)
  obtain ⟨b3, w3, l3, e3⟩ := Opens.field hf hxs 3 rfl o4 (o := 3) (z := 1) rfl (by kernel_rfl)
  have E := (OE.chain (o := 0) e0 (by rfl) (OE.chain (o := 1) e1 (by rfl) (OE.chain (o := 2) e2 (by rfl) (OE.chain (o := 3) e3 (by rfl) (OE.nil0 (cs := cs) (o := 4) (by rw [hl]; exact Nat.le_of_eq (by kernel_rfl)))))))
  exact ⟨⟨b0, b1, b2, b3⟩, ⟨w0, w1, w2, w3⟩, (by kernel_rfl), E⟩
theorem o87 : Opens Tryz.prog 87 ((fun l => Dat.sl 4 (List.map e_ref18_Test l)) : (List ref18_Test) → Dat) (fun l => l.length ≤ maxLen ∧ ∀ a ∈ l, (fun a => (fun a => (Lit.int .i64 a).wf = true) a.fCol ∧ (fun a => (Lit.int .i64 a).wf = true) a.fOp ∧ (fun a => a.length ≤ maxLen) a.fArg ∧ (fun _ => True) a.fNot) a) := Opens.slice o64 Tryz.underlying87 (by kernel_rfl : Tryz.prog.cellsOf 87 = 1) (by kernel_rfl : Tryz.prog.cellsOf 64 = 4)
set_option maxRecDepth 100000 in
theorem lifted (os : Os) (started : os.Started) (H : Type) (enc : TypeId × Value → H) :
    ReturnsInHanded {} Tryz.checked os 11 .any (Rows.filterShowsSpec.pre6 enc Tryz.prog Tryz.f11 Rows.filterShowsRow.domain false) (Rows.filterShowsSpec.post enc Tryz.prog Tryz.f11 false true false false) := by
  refine returnsInHanded_of_change_shaped (C := Tryz.checked) own started (by kernel_rfl) Tryz.func11
    (ChangeSpec.witness6 (enc := enc) (C := Tryz.checked) false ⟨#[], #[.string ByteArray.empty, .int .u64 0, .slice none 0 0], []⟩ 8 (by kernel_rfl) (by kernel_rfl) (by kernel_rfl) (by kernel_rfl)) ?_
  intro W base args ds gs before hval0 hW hcnd hsz0 hsh _
  have hsz : (DataW.weightsEach Tryz.prog (Tryz.f11.params.toList ++ Rows.filterShowsSpec.plain.varTypes Tryz.prog) (ds ++ gs)).all (· ≤ reachBytes) = true := hsz0
  have hval : ∀ (j : Nat) t v, Tryz.f11.params[j]? = some t → args[j]? = some v → Value.okWide Tryz.prog W .any base t v := hval0
  have hW' := hW
  obtain ⟨p, q, hA0, hV, rfl, hfz, hnd⟩ := hW
  have hA : DataW.TrodAll enc Tryz.prog W 0 (fun _ => true) true Tryz.f11.params.toList args.toList ds p := hA0
  rw [Tryz.params11] at hA hval hsz
  have hA2 := hA
  obtain ⟨v0, vs0, d0, ds0, p0, q0, hargs, rfl, rfl, h0, r0⟩ := trodAll_cons hA
  obtain ⟨v1, vs1, d1, ds1, p1, q1, rfl, rfl, rfl, h1, r1⟩ := trodAll_cons r0
  obtain ⟨v2, vs2, d2, ds2, p2, q2, rfl, rfl, rfl, h2, r2⟩ := trodAll_cons r1
  obtain ⟨rfl, rfl, rfl⟩ := trodAll_nil r2
  obtain rfl : args = #[v0, v1, v2] := by cases args; simp_all
  obtain ⟨rfl, rfl⟩ := trodVars_none hV
  obtain ⟨a0, w0, g0⟩ := (o9).topStr (fun _ => rfl) Tryz.underlying9 (hval 0 9 v0 rfl rfl) h0
  obtain ⟨a1, w1, g1⟩ := (o93).topInt (fun _ => rfl) Tryz.underlying93 (hval 1 93 v1 rfl rfl) h1
  obtain ⟨a2, w2, g2⟩ := (o87).topSlice (fun _ => rfl) Tryz.underlying87 (hval 2 87 v2 rfl rfl) h2
  clear hA0 hval0 hsz0 hsz
  refine (CallF.row (vs := [v0, v1, v2]) (law18_FilterShows_c (FilterShows_holds a0 a1 a2 w0 w1 w2)) (.cons g0 (.cons g1 (.cons g2 (.nil)))) (glOk hsh)).mono fun e W' ⟨he, bel⟩ => ?_
  subst he
  exact ⟨_, rfl, _, _, _, [], _, [], hW', trodAll_mk1 (shut_bool Tryz.underlying4 _), trodAll_stays (by kernel_rfl) bel (by decide +kernel) hA2, rfl, bel.frame _, fun h => by cases h⟩
theorem kA : laidOutB Tryz.pinned.checked.prog = true := by kernel_rfl
theorem kB : mapsRowed Tryz.pinned.checked.prog = true := by kernel_rfl
theorem kC : (Rows.filterShowsRow.inPlace == Tryz.pinned.checked.prog.inPlace 11) = true := by kernel_rfl
theorem kD : (Rows.filterShowsRow.unfollowed == Tryz.pinned.checked.prog.unfollowed 11) = true := by kernel_rfl
theorem kE : (Rows.filterShowsRow.recurses == Tryz.pinned.checked.prog.recurses 11) = true := by kernel_rfl
theorem kF : (Rows.filterShowsRow.named == Tryz.pinned.checked.prog.varsNamed 11) = true := by kernel_rfl
theorem kG : Tryz.pinned.checked.prog.stopsHeard = true := by kernel_rfl
theorem kH : Tryz.pinned.checked.prog.mayEnter = true := by kernel_rfl
theorem kI : (Rows.filterShowsRow.lifted == Tryz.pinned.checked.prog.liftsFinal) = true := by kernel_rfl
theorem kN : Tryz.pinned.checked.prog.funcNamed Rows.filterShowsRow.func = some 11 := by kernel_rfl
theorem kJ : joinedFacts Tryz.pinned.checked.prog 11 Tryz.f11 Rows.filterShowsSpec Rows.filterShowsRow = true := by
  unfold joinedFacts
  rw [kA, kB, kC, kD, kE, kF, kG, kH, kI]
  kernel_rfl
theorem kO : Tryz.f11.isInstance Tryz.pinned.checked.prog Rows.filterShowsRow.origin Rows.filterShowsRow.targs := of_decide_eq_true (by kernel_rfl)
theorem kW : Tryz.f11.isWrapper Tryz.pinned.checked.prog Rows.filterShowsRow.wrapper Rows.filterShowsRow.mainSum := by unfold Func.isWrapper; first | (rw [if_pos (by decide +kernel)]; kernel_rfl) | (rw [if_neg (by decide +kernel)]; exact ⟨rfl, rfl⟩)
theorem over : Rows.filterShowsRow.holds Tryz.pinned (OpenSpec.ofChange Rows.filterShowsSpec) :=
  OpenClaim.holds_of_wide 11 Tryz.f11 rfl rfl rfl rfl rfl rfl rfl ⟨rfl, rfl, rfl, rfl, rfl⟩ rfl rfl rfl rfl rfl kN Tryz.func11 kJ kO kW
    (fun os started H enc _ => lifted os started H enc)
theorem proved : Rows.FilterShowsSaid := over
end Go.Proofs.YtpmhiiemklhbhaaGreat.filterShows
namespace Go.Proofs.YtpmhiiemklhbhaaGreat
/-- The row, under a short name, for the claim. -/
theorem filterShows_holds : Rows.FilterShowsSaid := filterShows.proved
end Go.Proofs.YtpmhiiemklhbhaaGreat
