/- A program logic by ownership over the kit's wp. Part 16: what a row's first world says of package variables; calls that only read. -/
import Derived.Test.YtkjcogmngoogcaaSTab
import Derived.Test.YtkjcogmngoogcaaSC
import Derived.Shelf.Vars
import Derived.Deep.Draws
set_option linter.unusedVariables false
namespace Go.Proofs.Ytkjcogmngoogcaa.S
open Go Go.Sm
theorem glOk {W : World} (h : W.ShapedOpen Try.prog) : GlOk W (OkW W) := fun g hg => by
  have key : ∃ m, W.cell? ⟨g, 0, none⟩ = some (.int .i64 m) := by
    first
    | (cases hg; done)
    | (obtain rfl := List.mem_singleton.1 hg
       exact Go.Proofs.cell_of_shapedOpen_int (zero := #[.int .i64 0]) (t := 3) h (of_decide_eq_true (by kernel_rfl)) (by kernel_rfl) rfl (by kernel_rfl) (by kernel_rfl) Try.underlying3)
  obtain ⟨m, hm⟩ := key
  refine ⟨?_, m, hm⟩
  show g < W.heap.size
  unfold World.cell? at hm
  by_cases hlt : g < W.heap.size
  · exact hlt
  · rw [show W.heap[(⟨g, 0, none⟩ : Addr).block]? = none from Array.getElem?_eq_none (by show W.heap.size ≤ g; omega)] at hm
    cases hm
end Go.Proofs.Ytkjcogmngoogcaa.S
namespace Go.Sm
section
variable {X : Prg} {sl : List (Nat × Dat)} {ow : List Own} {w : World} {ok : Nat → Prop}
theorem Chg.drewN (w : World) (q : Nat) (touched : Nat → Prop) : Chg w (w.drewN q) touched := ⟨rfl, rfl, rfl, Nat.le_refl _, fun _ _ _ => rfl⟩
/-- A call that only reads. -/
theorem OpR.callQ {f : FuncId} {xs : Array Operand} {ats : Array TypeId} {d : Dat} (hfn : IsFn X f)
    (h : ∀ (G : Gh) (a : Act) (w : World) (ok : Nat → Prop), RepB G ow w ok → Kn sl a w ok → ∃ v, Enc w ok d v ∧ Calls X.P f (xs.map a.eval) w fun e w' => e = .returned v ∧ ∃ q, w' = w.drewN q) :
    OpR X (.call { callee := .value (.func f), args := xs, argTypes := ats }) sl ow (fun _ => d) (fun _ => ow) := fun G a w ok hr kn o ho K Qm hK => by
  obtain ⟨dst, op', ty, pos, after, g⟩ := o
  dsimp only at ho; subst ho
  obtain ⟨v, he, hc⟩ := h G a w ok hr kn
  obtain ⟨fn, hf, hname, hb⟩ := hfn
  have h1 : fn.name ≠ "runtime.NumGoroutine" := by simpa using hname
  obtain ⟨cb, hcb⟩ := Option.isSome_iff_exists.1 hb
  have hrun : (execOp a.eval { dst := dst, op := .call { callee := .value (.func f), args := xs, argTypes := ats }, type := ty, pos := pos, after := after, guard := g }).run X.P w = .ok (.enter f (xs.map a.eval)) w := by
    have g0 : a.eval (.func f) = .func (.func f) #[] #[] := rfl
    simp [execOp, resolve, g0, Deferred.ofValue, invoke, callFunc, hf, h1, hcb]
  unfold Oper.wp
  rw [hrun, Oper.upon_enter]
  refine hc.mono fun e w' ⟨g1, q, g2⟩ => ?_
  subst g1 g2
  have hch := Chg.drewN w q (fun _ => False)
  exact hK undef v _ ok (hr.grow hch) (he.mono (hr.stay0 hch)) (hr.stay0 hch)
/-- What a slice that is read holds, with its room. -/
theorem Src.run2 {G : Gh} {a : Act} (hr : RepB G ow w ok) (kn : Kn sl a w ok) {x : Operand} {sz : Nat} {ds : List Dat} (h : Src sl ow x sz ds) :
    (ds = [] ∧ a.eval x = .slice none 0 0) ∨ ∃ pa c news, a.eval x = .slice (some pa) ds.length c ∧ ds.length ≤ c ∧ EncL w ok (ds.flatMap Dat.cells) news ∧ news.length = ds.length * sz ∧ (∀ (j : Nat) u, news[j]? = some u → w.cell? (pa.add j) = some u) ∧ (∀ v ∈ news, one v = true) ∧ ∀ d ∈ ds, d.cells.length = sz := by
  have atRow : ∀ {b : Nat} {vs us : List Value} {e : TypeId}, w.heap[b]? = some (.cells (vs ++ us).toArray e (0, 0)) → ∀ (j : Nat) u, vs[j]? = some u → w.cell? ((⟨b, 0, none⟩ : Addr).add j) = some u := fun {b vs us e} hh j u hj => by
    have hadd : (⟨b, 0, none⟩ : Addr).add j = ⟨b, j, none⟩ := by unfold Addr.add; split <;> simp_all
    have hlt := (List.getElem?_eq_some_iff.1 hj).1
    rw [hadd, cell_of_row w b j _ e (0, 0) hh]
    simp [List.getElem?_append_left hlt, hj]
  cases h with
  | sl h =>
    rcases (kn x _ h).sl_inv with ⟨h0, ex⟩ | ⟨pa, c, ex, hc, es⟩
    · exact .inl ⟨h0, ex⟩
    · obtain ⟨news, n1, n2, n3, n4, n5⟩ := es.vals
      exact .inr ⟨pa, c, news, ex, hc, n1, n2, n3, n4, n5⟩
  | row k h hb =>
    have ex := (kn x _ h).val_inv.1
    rcases (hr.own k _ hb).row_inv with ⟨rfl, rfl⟩ | ⟨b, c, vs, us, rfl, hc, hm, hh, hz, he, h1, hs⟩
    · exact .inl ⟨rfl, ex⟩
    · exact .inr ⟨⟨b, 0, none⟩, c, vs, ex, hc, he, by rw [← he.length, flat_len hs], atRow hh, h1, hs⟩
  | @view l _ v0 e0 k lo hi h hb hc' hl =>
    subst hl
    have ex := (kn x _ h).val_inv.1
    rcases (hr.own k _ hb).row_inv with ⟨rfl, rfl⟩ | ⟨b, c, vs, us, rfl, hc, hm, hh, hz, he, h1, hs⟩
    · refine .inl ⟨by simp, ?_⟩
      rw [ex]; rfl
    · simp only [vw] at ex
      by_cases hcl : c = lo
      · rw [if_pos hcl] at ex
        have h0 : (l.take hi).drop lo = [] := List.drop_eq_nil_of_le (by rw [List.length_take]; omega)
        rw [h0]
        exact .inr ⟨_, 0, [], ex, Nat.le_refl _, .nil, by simp, fun j u hj => by simp at hj, fun v hv => by simp at hv, fun d hd => by simp at hd⟩
      · rw [if_neg hcl] at ex
        have hvl : vs.length = l.length * sz := by rw [← he.length, flat_len hs]
        have hs' : ∀ d ∈ (l.take hi).drop lo, d.cells.length = sz := fun d hd => hs d (List.mem_of_mem_take (List.mem_of_mem_drop hd))
        have hfl : ((l.take hi).drop lo).flatMap Dat.cells = ((l.flatMap Dat.cells).take (hi * sz)).drop (lo * sz) := by rw [flat_drop (fun d hd => hs d (List.mem_of_mem_take hd)), flat_take hs]
        have hE : EncL w ok (((l.take hi).drop lo).flatMap Dat.cells) ((vs.take (hi * sz)).drop (lo * sz)) := by rw [hfl]; exact (he.take _).drop _
        refine .inr ⟨(⟨b, 0, none⟩ : Addr).add (lo * sz), c - lo, (vs.take (hi * sz)).drop (lo * sz), ?_, ?_, hE, by rw [← hE.length, flat_len hs'], fun j u hj => ?_, fun v hv => h1 v (List.mem_of_mem_take (List.mem_of_mem_drop hv)), hs'⟩
        · rw [ex, List.length_drop, List.length_take, Nat.min_eq_left hc'.2]
        · rw [List.length_drop, List.length_take, Nat.min_eq_left hc'.2]; omega
        · rw [List.getElem?_drop, List.getElem?_take] at hj
          split at hj
          · rw [add_add]; exact atRow hh _ _ hj
          · cases hj
/-- The bytes of a slice that is read, cell by cell. -/
theorem bytes_cells {l : List UInt8} {news : List Value} {pa : Addr} (he : EncL w ok ((l.map byteD).flatMap Dat.cells) news) (hc : ∀ (j : Nat) u, news[j]? = some u → w.cell? (pa.add j) = some u) : ∀ i, i < l.length → w.cell? (pa.add i) = some (.int .u8 ((l.map fun b => (b.toNat : Int)).getD i 0)) := fun i hi => by
  have hf : (l.map byteD).flatMap Dat.cells = l.map byteD := by
    clear he hi
    induction l with
    | nil => rfl
    | cons b l ih => rw [List.map_cons, List.flatMap_cons, ih]; rfl
  rw [hf] at he
  obtain ⟨v, h1, h2⟩ := he.get i (d := byteD l[i]) (by simp [hi])
  rw [hc i v h1]
  have := h2.val_inv.1
  rw [this]
  simp [List.getD_eq_getElem?_getD, hi]
end
end Go.Sm
