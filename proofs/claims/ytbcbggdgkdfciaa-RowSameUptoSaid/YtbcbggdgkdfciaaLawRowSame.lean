/- The law RowSame, where what it reads is of bulk at most 1048576: whether two rows are the same, and a fresh one, are as the chapter says. -/
import Derived.Test.YtbcbggdgkdfciaaRows
import Derived.Test.YtbcbggdgkdfciaaSG
import Derived.Test.YtbcbggdgkdfciaaPRs
import Derived.WalkKit
import Derived.ProofKit
import Derived.OpenShut
import Derived.ShutString
import Derived.ChangeOld
import Derived.Below
import Derived.HandedShaped
import Derived.JoinedCond
namespace Go.Proofs.Ytbcbggdgkdfciaa.rowSame
open Go Go.Sm Go.ChangeShapes Go.WideShapes Go.ChangeAt Go.RowKit Go.Proofs.Ytbcbggdgkdfciaa.S
open Go.ChangeMaps (open_string shut_string)
set_option linter.unusedVariables false
theorem own : ownKnob Try.prog.godebug = none := by kernel_rfl
theorem o9 : Opens Try.prog 9 (eS : (List UInt8) → Dat) (fun a => a.length ≤ maxLen) := Opens.str Try.underlying9 (by kernel_rfl : Try.prog.cellsOf 9 = 1)
theorem o70 : Opens Try.prog 70 ((fun x : (List UInt8) × (List UInt8) => .agg [.val (.string (bs x.1)), .val (.string (bs x.2))]) : ((List UInt8) × (List UInt8)) → Dat) (fun a => (fun a => a.length ≤ maxLen) a.1 ∧ (fun a => a.length ≤ maxLen) a.2) := by
  intro H enc w sp held n cs x h
  obtain ⟨xs, m, rfl, -, hl, hxs, hf⟩ := DataW.trod_array Try.underlying70 h
  obtain ⟨b0, w0, l0, e0⟩ := Opens.elem hf hxs 0 rfl o9 (o := 0) (z := 1) (by kernel_rfl) (by kernel_rfl)
  obtain ⟨b1, w1, l1, e1⟩ := Opens.elem hf hxs 1 rfl o9 (o := 1) (z := 1) (by kernel_rfl) (by kernel_rfl)
  have E := (OE.chain (o := 0) e0 (by rfl) (OE.chain (o := 1) e1 (by rfl) (OE.nil0 (cs := cs) (o := 2) (by rw [hl]; exact Nat.le_of_eq (by kernel_rfl)))))
  exact ⟨⟨b0, b1⟩, ⟨w0, w1⟩, (by kernel_rfl), E⟩
theorem o3 : Opens Try.prog 3 ((eI .i64) : Int → Dat) (fun a => (Lit.int .i64 a).wf = true) := Opens.int Try.underlying3 (by kernel_rfl : Try.prog.cellsOf 3 = 1)
theorem o71 : Opens Try.prog 71 ((fun x : Int × Int => .agg [.val (.int .i64 x.1), .val (.int .i64 x.2)]) : (Int × Int) → Dat) (fun a => (fun a => (Lit.int .i64 a).wf = true) a.1 ∧ (fun a => (Lit.int .i64 a).wf = true) a.2) := by
  intro H enc w sp held n cs x h
  obtain ⟨xs, m, rfl, -, hl, hxs, hf⟩ := DataW.trod_array Try.underlying71 h
  obtain ⟨b0, w0, l0, e0⟩ := Opens.elem hf hxs 0 rfl o3 (o := 0) (z := 1) (by kernel_rfl) (by kernel_rfl)
  obtain ⟨b1, w1, l1, e1⟩ := Opens.elem hf hxs 1 rfl o3 (o := 1) (z := 1) (by kernel_rfl) (by kernel_rfl)
  have E := (OE.chain (o := 0) e0 (by rfl) (OE.chain (o := 1) e1 (by rfl) (OE.nil0 (cs := cs) (o := 2) (by rw [hl]; exact Nat.le_of_eq (by kernel_rfl)))))
  exact ⟨⟨b0, b1⟩, ⟨w0, w1⟩, (by kernel_rfl), E⟩
theorem o4 : Opens Try.prog 4 (eB : Bool → Dat) (fun _ => True) := Opens.bool Try.underlying4 (by kernel_rfl : Try.prog.cellsOf 4 = 1)
theorem o72 : Opens Try.prog 72 ((fun x : Bool × Bool => .agg [.val (.bool x.1), .val (.bool x.2)]) : (Bool × Bool) → Dat) (fun a => (fun _ => True) a.1 ∧ (fun _ => True) a.2) := by
  intro H enc w sp held n cs x h
  obtain ⟨xs, m, rfl, -, hl, hxs, hf⟩ := DataW.trod_array Try.underlying72 h
  obtain ⟨b0, w0, l0, e0⟩ := Opens.elem hf hxs 0 rfl o4 (o := 0) (z := 1) (by kernel_rfl) (by kernel_rfl)
  obtain ⟨b1, w1, l1, e1⟩ := Opens.elem hf hxs 1 rfl o4 (o := 1) (z := 1) (by kernel_rfl) (by kernel_rfl)
  have E := (OE.chain (o := 0) e0 (by rfl) (OE.chain (o := 1) e1 (by rfl) (OE.nil0 (cs := cs) (o := 2) (by rw [hl]; exact Nat.le_of_eq (by kernel_rfl)))))
  exact ⟨⟨b0, b1⟩, ⟨w0, w1⟩, (by kernel_rfl), E⟩
theorem bulk_part {H : Type} {d : DataW H} {l : List (DataW H)} (h : d ∈ l) : Rows.uptoBulk d ≤ Rows.uptoBulkAll l := by
  induction l with
  | nil => cases h
  | cons x r ih =>
    simp only [Rows.uptoBulkAll]
    rcases List.mem_cons.1 h with rfl | e
    · omega
    · have := ih e; omega
set_option maxRecDepth 100000 in
theorem bulk0 {H : Type} {enc : TypeId × Value → H} {W : World} {ok : Nat → Prop} {sp : Nat → Bool} {held : Bool} {v : Value} {d : DataW H} {p : List MemPlace} {a : (List UInt8) × (List UInt8)} (h : DataW.Trod enc Try.prog W 0 sp held 70 v d p) (g : Enc W ok (.agg [.val (.string (bs a.1)), .val (.string (bs a.2))]) v) : a.1.length ≤ Rows.uptoBulk d := by
  obtain ⟨vs, rfl, h1, h2⟩ := g.agg_inv
  cases h2 with
  | cons e1 h2 =>
    obtain rfl := e1.val_inv.1
    obtain ⟨n, hn⟩ := h
    obtain ⟨xs, m, -, hx, hl, hxs, hf⟩ := DataW.trod_array Try.underlying70 hn
    have h0 := hf 0 (by decide)
    have hlt : 0 < xs.length := by rw [hxs]; decide
    rw [List.getElem?_eq_getElem hlt] at h0
    obtain ⟨s, f1, f2, _⟩ := DataW.trod_string Try.underlying9 h0
    have hc : Try.prog.cellsOf 9 = 1 := by kernel_rfl
    rw [hc] at f1
    have f3 : (.string (bs a.1) : Value) = .string s := by
      have := congrArg List.head? f1
      exact Option.some.inj this
    injection f3 with hs
    injection hx with hx1 hx2
    rw [hx1]
    have hm : xs[0].1 ∈ xs.map (fun x => x.1) := List.mem_map.2 ⟨_, List.getElem_mem hlt, rfl⟩
    have hb := bulk_part hm
    rw [f2] at hb
    simp only [Rows.uptoBulk] at hb ⊢
    rw [← hs] at hb
    simp only [bs] at hb
    omega
theorem returnsUpto {H : Type} {enc : TypeId × Value → H} {a : Assume} {C : Checked} {os : Os} {f : FuncId} {fn : Func} {s : OpenSpec} {k : (H : Type) → List (DataW H) → Bool} (hk : s.cond = some k) {F : Stop.Interp} {conds : List PathCond} {apart fresh handsOn again : Bool}
    (own : ownKnob C.prog.godebug = none) (started : os.Started) (noInit : C.prog.inits.idxOf? f = none) (hfn : C.prog.funcs[f]? = some fn)
    (witness : ∃ (w : World) (tape : Tape) (i : Input), w.os = os ∧ (w.forCall tape i).Shaped C.prog ∧ i.vars = [] ∧ Input.okWide C.prog (w.forCall tape i) .any w.heap.size f i ∧ s.pre6 enc C.prog fn conds apart (w.forCall tape i).memory i.args ∧ a.holds C.prog (lone (Frame.enter C.prog f i.args .normal) [] (w.forCall tape i)))
    (contract : ∀ (W : World) (base : Nat) (args : Array Value) (ds gs : List (DataW H)) (before : List MemPlace), (∀ (j : Nat) t v, fn.params[j]? = some t → args[j]? = some v → Value.okWide C.prog W .any base t v) → DataW.Whole enc C.prog fn.params.toList s.vars apart W args.toList ds gs before →
      k H (ds ++ gs) = true → W.ShapedOpen C.prog → Calls C.prog f args W fun e W' => ∃ v, e = .returned v ∧ (s.at F).post enc C.prog fn apart fresh handsOn again W args v W') :
    ReturnsInHanded a C os f .any (s.pre6 enc C.prog fn conds apart) ((s.at F).post enc C.prog fn apart fresh handsOn again) := by
  refine returnsInHanded_of_calls own started noInit witness ?_
  intro w tape i _ hsh _ hok hpre _
  obtain ⟨_, _, _, g, hg, _, _, _, _, hval⟩ := hok
  obtain rfl : g = fn := Option.some.inj (hg.symm.trans hfn)
  obtain ⟨ds, gs, before, hw, hc, hkk⟩ := (OpenSpec.pre_some hk conds apart _ _).1 hpre.1
  have hw' := DataW.Whole.of_heap (w' := w.forCall tape i) (by rfl) hw
  refine (contract _ w.heap.size i.args ds gs before hval hw' hkk hsh).mono fun e W' ⟨v, he, hp⟩ => ?_
  subst he
  exact ChangeSpec.post_blind hp
set_option maxRecDepth 100000 in
theorem lifted (os : Os) (started : os.Started) (H : Type) (enc : TypeId × Value → H) (F : Stop.Interp) :
    ReturnsInHanded {} Try.checked os 6 .any ((Rows.OpenSpec.upto Rows.rowSameSpec).pre6 enc Try.prog Try.f6 Rows.rowSameUptoRow.domain false) (((Rows.OpenSpec.upto Rows.rowSameSpec).at F).post enc Try.prog Try.f6 false true false false) := by
  refine returnsUpto (C := Try.checked) (s := Rows.OpenSpec.upto Rows.rowSameSpec) (k := Rows.uptoSmall) rfl own started (by kernel_rfl) Try.func6
    (OpenSpec.witness (enc := enc) (C := Try.checked) (s := Rows.OpenSpec.upto Rows.rowSameSpec) (k := Rows.uptoSmall) rfl false ⟨#[], #[.agg #[.string ByteArray.empty, .string ByteArray.empty], .agg #[.int .i64 0, .int .i64 0], .agg #[.bool false, .bool false]], []⟩ 8 (by kernel_rfl) (by kernel_rfl) (by kernel_rfl)
      (x := ([.agg [.lit (.string []), .lit (.string [])], .agg [.lit (.int .i64 0), .lit (.int .i64 0)], .agg [.lit (.bool false), .lit (.bool false)]], [], [])) (by kernel_rfl) rfl (by kernel_rfl)) ?_
  intro W base args ds gs before hval0 hW hk hsh
  have hval : ∀ (j : Nat) t v, Try.f6.params[j]? = some t → args[j]? = some v → Value.okWide Try.prog W .any base t v := hval0
  have hW' := hW
  obtain ⟨p, q, hA0, hV, rfl, hfz, hnd⟩ := hW
  have hA : DataW.TrodAll enc Try.prog W 0 (fun _ => true) true Try.f6.params.toList args.toList ds p := hA0
  rw [Try.params6] at hA hval
  have hA2 := hA
  obtain ⟨v0, vs0, d0, ds0, p0, q0, hargs, rfl, rfl, h0, r0⟩ := trodAll_cons hA
  obtain ⟨v1, vs1, d1, ds1, p1, q1, rfl, rfl, rfl, h1, r1⟩ := trodAll_cons r0
  obtain ⟨v2, vs2, d2, ds2, p2, q2, rfl, rfl, rfl, h2, r2⟩ := trodAll_cons r1
  obtain ⟨rfl, rfl, rfl⟩ := trodAll_nil r2
  obtain rfl : args = #[v0, v1, v2] := by cases args; simp_all
  obtain ⟨rfl, rfl⟩ := trodVars_none hV
  obtain ⟨a0, w0, g0⟩ := (o70).topArray (fun _ => rfl) Try.underlying70 (hval 0 70 v0 rfl rfl) h0
  obtain ⟨a1, w1, g1⟩ := (o71).topArray (fun _ => rfl) Try.underlying71 (hval 1 71 v1 rfl rfl) h1
  obtain ⟨a2, w2, g2⟩ := (o72).topArray (fun _ => rfl) Try.underlying72 (hval 2 72 v2 rfl rfl) h2
  have hs : a0.1.length ≤ 1048576 := by
    have h1 := bulk0 h0 g0
    have h2 := of_decide_eq_true hk
    simp only [List.append_nil] at h2
    have h3 := bulk_part (d := d0) (l := [d0, d1, d2]) (by simp)
    exact Nat.le_trans h1 (Nat.le_trans h3 h2)
  clear hA0 hval0
  refine (CallF.row (vs := [v0, v1, v2]) (law08_RowSame_c (RowSame_holds a0 a1 a2 hs)) (.cons g0 (.cons g1 (.cons g2 (.nil)))) (glOk hsh)).mono fun e W' ⟨he, bel⟩ => ?_
  subst he
  exact ⟨_, rfl, _, _, _, [], _, [], hW', trodAll_mk1 (shut_bool Try.underlying4 _), trodAll_stays (by kernel_rfl) bel (by decide +kernel) hA2, rfl, bel.frame _, fun h => by cases h⟩
theorem over : Rows.rowSameUptoRow.holds Try.pinned (Rows.OpenSpec.upto Rows.rowSameSpec) :=
  OpenClaim.holds_of_cond 6 Try.f6 rfl rfl rfl rfl rfl rfl rfl ⟨rfl, rfl, rfl, rfl, rfl⟩ rfl rfl rfl rfl rfl (by kernel_rfl) Try.func6 (by kernel_rfl)
    (of_decide_eq_true (by kernel_rfl)) (by unfold Func.isWrapper; first | (rw [if_pos (by decide +kernel)]; kernel_rfl) | (rw [if_neg (by decide +kernel)]; exact ⟨rfl, rfl⟩))
    (fun os started H enc _ F => lifted os started H enc F)
theorem proved : Rows.RowSameUptoSaid := over
end Go.Proofs.Ytbcbggdgkdfciaa.rowSame
namespace Go.Proofs.Ytbcbggdgkdfciaa
/-- The row, under a short name, for the claim. -/
theorem rowSameUpto_holds : Rows.RowSameUptoSaid := rowSame.proved
end Go.Proofs.Ytbcbggdgkdfciaa
