/- The row of the law ScanMarks. -/
import Derived.Test.YtbogkjbjgcclnaaRows
import Derived.Test.YtbogkjbjgcclnaaSC
import Derived.Test.YtbogkjbjgcclnaaScaC
import Derived.WalkKit
import Derived.ProofKit
import Derived.OpenShut
import Derived.ShutString
import Derived.ChangeOld
import Derived.Below
import Derived.SizedLaws
namespace Go.Proofs.Ytbogkjbjgcclnaa.scanMarks
open Go Go.Sm Go.ChangeShapes Go.WideShapes Go.ChangeAt Go.RowKit Go.Proofs.Ytbogkjbjgcclnaa.S
open Go.ChangeMaps (open_string shut_string)
set_option linter.unusedVariables false
theorem own : ownKnob Try.prog.godebug = none := by kernel_rfl
theorem o3 : Opens Try.prog 3 ((eI .i64) : Int → Dat) (fun a => (Lit.int .i64 a).wf = true) := Opens.int Try.underlying3 (by kernel_rfl : Try.prog.cellsOf 3 = 1)
theorem o9 : Opens Try.prog 9 (eS : (List UInt8) → Dat) (fun a => a.length ≤ maxLen) := Opens.str Try.underlying9 (by kernel_rfl : Try.prog.cellsOf 9 = 1)
theorem o75 : Opens Try.prog 75 (e_arena_Span : arena_Span → Dat) (fun a => (fun a => (Lit.int .i64 a).wf = true) a.fAt ∧ (fun a => (Lit.int .i64 a).wf = true) a.fN) := by
  intro H enc w sp held n cs x h
  obtain ⟨xs, m, rfl, -, hl, hxs, hf⟩ := DataW.trod_struct Try.underlying75 h
  obtain ⟨b0, w0, l0, e0⟩ := Opens.field hf hxs 0 rfl o3 (o := 0) (z := 1) rfl (by kernel_rfl)
  obtain ⟨b1, w1, l1, e1⟩ := Opens.field hf hxs 1 rfl o3 (o := 1) (z := 1) rfl (by kernel_rfl)
  have E := (OE.chain (o := 0) e0 (by rfl) (OE.chain (o := 1) e1 (by rfl) (OE.nil0 (cs := cs) (o := 2) (by rw [hl]; exact Nat.le_of_eq (by kernel_rfl)))))
  exact ⟨⟨b0, b1⟩, ⟨w0, w1⟩, (by kernel_rfl), E⟩
theorem o22 : Opens Try.prog 22 ((fun l => Dat.sl 2 (List.map e_arena_Span l)) : (List arena_Span) → Dat) (fun l => l.length ≤ maxLen ∧ ∀ a ∈ l, (fun a => (fun a => (Lit.int .i64 a).wf = true) a.fAt ∧ (fun a => (Lit.int .i64 a).wf = true) a.fN) a) := Opens.slice o75 Try.underlying22 (by kernel_rfl : Try.prog.cellsOf 22 = 1) (by kernel_rfl : Try.prog.cellsOf 75 = 2)
def e_law05_Spot (x : law05_Spot) : Dat := .agg [.val (.string (bs x.fS)), .sl 2 (List.map e_arena_Span x.fParts)]
theorem o85 : Opens Try.prog 85 (e_law05_Spot : law05_Spot → Dat) (fun a => (fun a => a.length ≤ maxLen) a.fS ∧ (fun l => l.length ≤ maxLen ∧ ∀ a ∈ l, (fun a => (fun a => (Lit.int .i64 a).wf = true) a.fAt ∧ (fun a => (Lit.int .i64 a).wf = true) a.fN) a) a.fParts) := by
  intro H enc w sp held n cs x h
  obtain ⟨xs, m, rfl, -, hl, hxs, hf⟩ := DataW.trod_struct Try.underlying85 h
  obtain ⟨b0, w0, l0, e0⟩ := Opens.field hf hxs 0 rfl o9 (o := 0) (z := 1) rfl (by kernel_rfl)
  obtain ⟨b1, w1, l1, e1⟩ := Opens.field hf hxs 1 rfl o22 (o := 1) (z := 1) rfl (by kernel_rfl)
  have E := (OE.chain (o := 0) e0 (by rfl) (OE.chain (o := 1) e1 (by rfl) (OE.nil0 (cs := cs) (o := 2) (by rw [hl]; exact Nat.le_of_eq (by kernel_rfl)))))
  exact ⟨⟨b0, b1⟩, ⟨w0, w1⟩, (by kernel_rfl), E⟩
set_option maxRecDepth 100000 in
theorem lifted (os : Os) (started : os.Started) (H : Type) (enc : TypeId × Value → H) :
    ReturnsInHanded {} Try.checked os 12 .any (Rows.scanMarksSpec.pre6 enc Try.prog Try.f12 Rows.scanMarksRow.domain false) (Rows.scanMarksSpec.post enc Try.prog Try.f12 false true false false) := by
  refine returnsInHanded_of_change_sized (C := Try.checked) own started (by kernel_rfl) Try.func12
    (ChangeSpec.witness6 (enc := enc) (C := Try.checked) false ⟨#[], #[.int .i64 0, .int .i64 0, .agg #[.string ByteArray.empty, .slice none 0 0]], []⟩ 8 (by kernel_rfl) (by kernel_rfl) (by kernel_rfl) (by kernel_rfl)) ?_
  intro W base args ds gs before hval0 hW hcnd hsz0 _
  have hsz : (DataW.weightsEach Try.prog (Try.f12.params.toList ++ Rows.scanMarksSpec.plain.varTypes Try.prog) (ds ++ gs)).all (· ≤ reachBytes) = true := hsz0
  have hval : ∀ (j : Nat) t v, Try.f12.params[j]? = some t → args[j]? = some v → Value.okWide Try.prog W .any base t v := hval0
  have hW' := hW
  obtain ⟨p, q, hA0, hV, rfl, hfz, hnd⟩ := hW
  have hA : DataW.TrodAll enc Try.prog W 0 (fun _ => true) true Try.f12.params.toList args.toList ds p := hA0
  rw [Try.params12] at hA hval hsz
  have hA2 := hA
  obtain ⟨v0, vs0, d0, ds0, p0, q0, hargs, rfl, rfl, h0, r0⟩ := trodAll_cons hA
  obtain ⟨v1, vs1, d1, ds1, p1, q1, rfl, rfl, rfl, h1, r1⟩ := trodAll_cons r0
  obtain ⟨v2, vs2, d2, ds2, p2, q2, rfl, rfl, rfl, h2, r2⟩ := trodAll_cons r1
  obtain ⟨rfl, rfl, rfl⟩ := trodAll_nil r2
  obtain rfl : args = #[v0, v1, v2] := by cases args; simp_all
  obtain ⟨rfl, rfl⟩ := trodVars_none hV
  obtain ⟨a0, w0, g0⟩ := (o3).topInt (fun _ => rfl) Try.underlying3 (hval 0 3 v0 rfl rfl) h0
  obtain ⟨a1, w1, g1⟩ := (o3).topInt (fun _ => rfl) Try.underlying3 (hval 1 3 v1 rfl rfl) h1
  obtain ⟨a2, w2, g2⟩ := (o85).topStruct (fun _ => rfl) Try.underlying85 (hval 2 85 v2 rfl rfl) h2
  clear hA0 hval0 hsz0 hsz
  refine (CallF.row (vs := [v0, v1, v2]) (law05_ScanMarks_c (ScanMarks_holds a0 a1 a2 w0 w1 w2)) (.cons g0 (.cons g1 (.cons g2 (.nil))))).mono fun e W' ⟨he, bel⟩ => ?_
  subst he
  exact ⟨_, rfl, _, _, _, [], _, [], hW', trodAll_mk1 (shut_bool Try.underlying4 _), trodAll_stays (by kernel_rfl) bel (by decide +kernel) hA2, rfl, bel.frame _, fun h => by cases h⟩
theorem over : Rows.scanMarksRow.holds Try.pinned (OpenSpec.ofChange Rows.scanMarksSpec) :=
  OpenClaim.holds_of_wide 12 Try.f12 rfl rfl rfl rfl rfl rfl rfl ⟨rfl, rfl, rfl, rfl, rfl⟩ rfl rfl rfl rfl rfl (by kernel_rfl) Try.func12 (by kernel_rfl)
    (of_decide_eq_true (by kernel_rfl)) (by unfold Func.isWrapper; first | (rw [if_pos (by decide +kernel)]; kernel_rfl) | (rw [if_neg (by decide +kernel)]; exact ⟨rfl, rfl⟩))
    (fun os started H enc _ => lifted os started H enc)
theorem proved : Rows.ScanMarksSaid := over
end Go.Proofs.Ytbogkjbjgcclnaa.scanMarks
namespace Go.Proofs.Ytbogkjbjgcclnaa
/-- The row, under a short name, for the claim. -/
theorem scanMarks_holds : Rows.ScanMarksSaid := scanMarks.proved
end Go.Proofs.Ytbogkjbjgcclnaa
