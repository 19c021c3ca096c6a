/- A program logic by ownership over the kit's wp. Part 16: what a row's first world says of package variables; calls that only read. -/
import Derived.Test.YtlginjmkmfodmaaDoorSTab
import Derived.Test.YtlginjmkmfodmaaDoorSC
import Derived.Shelf.Vars
import Derived.Deep.Draws
set_option linter.unusedVariables false
namespace Go.Proofs.YtlginjmkmfodmaaDoor.S
open Go Go.Sm
theorem glOk {W : World} (h : W.ShapedOpen Tryd.prog) (ht : ∀ t d, lk tabs t = some d → Enc W (OkW W) d (.pointer (some ⟨t, 0, none⟩)) := by first | (intro t d h; cases h; done) | assumption) : GlOk W (OkW W) := by
  refine ⟨fun g hg => ?_, ht⟩
  have key : ∃ m, W.cell? ⟨g, 0, none⟩ = some (.int .i64 m) := by
    first
    | (cases hg; done)
    | (obtain rfl := List.mem_singleton.1 hg
       exact Go.Proofs.cell_of_shapedOpen_int (zero := #[.int .i64 0]) (t := 3) h (of_decide_eq_true (by kernel_rfl)) (by kernel_rfl) rfl (by kernel_rfl) (by kernel_rfl) Tryd.underlying3)
  obtain ⟨m, hm⟩ := key
  refine ⟨?_, m, hm⟩
  show g < W.heap.size
  unfold World.cell? at hm
  by_cases hlt : g < W.heap.size
  · exact hlt
  · rw [show W.heap[(⟨g, 0, none⟩ : Addr).block]? = none from Array.getElem?_eq_none (by show W.heap.size ≤ g; omega)] at hm
    cases hm
end Go.Proofs.YtlginjmkmfodmaaDoor.S
namespace Go.Sm
section
variable {X : Prg} {sl : List (Nat × Dat)} {ow : List Own} {w : World} {ok : Nat → Prop}
theorem Chg.drewN (w : World) (q : Nat) (touched : Nat → Prop) : Chg w (w.drewN q) touched := ⟨rfl, rfl, rfl, Nat.le_refl _, fun _ _ _ => rfl⟩
/-- A call that only reads. -/
theorem OpR.callQ {f : FuncId} {xs : Array Operand} {ats : Array TypeId} {d : Dat} (hfn : IsFn X f)
    (h : ∀ (G : Gh) (a : Act) (w : World) (ok : Nat → Prop), RepB G ow w ok → Kn sl a w ok → ∃ v, Enc w ok d v ∧ Calls X.P f (xs.map a.eval) w fun e w' => e = .returned v ∧ ∃ q, w' = w.drewN q) :
    OpR X (.call { callee := .value (.func f), args := xs, argTypes := ats }) sl ow (fun _ => d) (fun _ => ow) := fun G a w ok hr kn o ho K Qm hK => by
  obtain ⟨dst, op', ty, pos, after, g⟩ := o
  dsimp only at ho; subst ho
  obtain ⟨v, he, hc⟩ := h G a w ok hr kn
  obtain ⟨fn, hf, hname, hb⟩ := hfn
  have h1 : fn.name ≠ "runtime.NumGoroutine" := by simpa using hname
  obtain ⟨cb, hcb⟩ := Option.isSome_iff_exists.1 hb
  have hrun : (execOp a.eval { dst := dst, op := .call { callee := .value (.func f), args := xs, argTypes := ats }, type := ty, pos := pos, after := after, guard := g }).run X.P w = .ok (.enter f (xs.map a.eval)) w := by
    have g0 : a.eval (.func f) = .func (.func f) #[] #[] := rfl
    simp [execOp, resolve, g0, Deferred.ofValue, invoke, callFunc, hf, h1, hcb]
  refine wpIn_of_run hrun (fun d h => by cases h) ?_
  rw [Oper.upon_enter]
  refine hc.mono fun e w' ⟨g1, q, g2⟩ => ?_
  subst g1 g2
  have hch := Chg.drewN w q (fun _ => False)
  exact hK undef v _ ok (hr.grow hch) (he.mono (hr.stay0 hch)) (hr.stay0 hch)
/-- What a slice that is read holds, with its room. -/
theorem Src.run2 {G : Gh} {a : Act} (hr : RepB G ow w ok) (kn : Kn sl a w ok) {x : Operand} {sz : Nat} {ds : List Dat} (h : Src sl ow x sz ds) :
    (ds = [] ∧ a.eval x = .slice none 0 0) ∨ ∃ pa c news, a.eval x = .slice (some pa) ds.length c ∧ ds.length ≤ c ∧ EncL w ok (ds.flatMap Dat.cells) news ∧ news.length = ds.length * sz ∧ (∀ (j : Nat) u, news[j]? = some u → w.cell? (pa.add j) = some u) ∧ (∀ v ∈ news, one v = true) ∧ ∀ d ∈ ds, d.cells.length = sz := by
  have atRow : ∀ {b : Nat} {vs us : List Value} {e : TypeId}, w.heap[b]? = some (.cells (vs ++ us).toArray e (0, 0)) → ∀ (j : Nat) u, vs[j]? = some u → w.cell? ((⟨b, 0, none⟩ : Addr).add j) = some u := fun {b vs us e} hh j u hj => by
    have hadd : (⟨b, 0, none⟩ : Addr).add j = ⟨b, j, none⟩ := by unfold Addr.add; split <;> simp_all
    have hlt := (List.getElem?_eq_some_iff.1 hj).1
    rw [hadd, cell_of_row w b j _ e (0, 0) hh]
    simp [List.getElem?_append_left hlt, hj]
  cases h with
  | sl h =>
    rcases (kn x _ h).sl_inv with ⟨h0, ex⟩ | ⟨pa, c, ex, hc, es⟩
    · exact .inl ⟨h0, ex⟩
    · obtain ⟨news, n1, n2, n3, n4, n5⟩ := es.vals
      exact .inr ⟨pa, c, news, ex, hc, n1, n2, n3, n4, n5⟩
  | row k h hb =>
    have ex := (kn x _ h).val_inv.1
    rcases (hr.own k _ hb).row_inv with ⟨rfl, rfl⟩ | ⟨b, c, vs, us, rfl, hc, hm, hh, hz, he, h1, hs⟩
    · exact .inl ⟨rfl, ex⟩
    · exact .inr ⟨⟨b, 0, none⟩, c, vs, ex, hc, he, by rw [← he.length, flat_len hs], atRow hh, h1, hs⟩
  | @view l _ v0 e0 k lo hi h hb hc' hl =>
    subst hl
    have ex := (kn x _ h).val_inv.1
    rcases (hr.own k _ hb).row_inv with ⟨rfl, rfl⟩ | ⟨b, c, vs, us, rfl, hc, hm, hh, hz, he, h1, hs⟩
    · refine .inl ⟨by simp, ?_⟩
      rw [ex]; rfl
    · simp only [vw] at ex
      by_cases hcl : c = lo
      · rw [if_pos hcl] at ex
        have h0 : (l.take hi).drop lo = [] := List.drop_eq_nil_of_le (by rw [List.length_take]; omega)
        rw [h0]
        exact .inr ⟨_, 0, [], ex, Nat.le_refl _, .nil, by simp, fun j u hj => by simp at hj, fun v hv => by simp at hv, fun d hd => by simp at hd⟩
      · rw [if_neg hcl] at ex
        have hvl : vs.length = l.length * sz := by rw [← he.length, flat_len hs]
        have hs' : ∀ d ∈ (l.take hi).drop lo, d.cells.length = sz := fun d hd => hs d (List.mem_of_mem_take (List.mem_of_mem_drop hd))
        have hfl : ((l.take hi).drop lo).flatMap Dat.cells = ((l.flatMap Dat.cells).take (hi * sz)).drop (lo * sz) := by rw [flat_drop (fun d hd => hs d (List.mem_of_mem_take hd)), flat_take hs]
        have hE : EncL w ok (((l.take hi).drop lo).flatMap Dat.cells) ((vs.take (hi * sz)).drop (lo * sz)) := by rw [hfl]; exact (he.take _).drop _
        refine .inr ⟨(⟨b, 0, none⟩ : Addr).add (lo * sz), c - lo, (vs.take (hi * sz)).drop (lo * sz), ?_, ?_, hE, by rw [← hE.length, flat_len hs'], fun j u hj => ?_, fun v hv => h1 v (List.mem_of_mem_take (List.mem_of_mem_drop hv)), hs'⟩
        · rw [ex, List.length_drop, List.length_take, Nat.min_eq_left hc'.2]
        · rw [List.length_drop, List.length_take, Nat.min_eq_left hc'.2]; omega
        · rw [List.getElem?_drop, List.getElem?_take] at hj
          split at hj
          · rw [add_add]; exact atRow hh _ _ hj
          · cases hj
/-- The bytes of a slice that is read, cell by cell. -/
theorem bytes_cells {l : List UInt8} {news : List Value} {pa : Addr} (he : EncL w ok ((l.map byteD).flatMap Dat.cells) news) (hc : ∀ (j : Nat) u, news[j]? = some u → w.cell? (pa.add j) = some u) : ∀ i, i < l.length → w.cell? (pa.add i) = some (.int .u8 ((l.map fun b => (b.toNat : Int)).getD i 0)) := fun i hi => by
  have hf : (l.map byteD).flatMap Dat.cells = l.map byteD := by
    clear he hi
    induction l with
    | nil => rfl
    | cons b l ih => rw [List.map_cons, List.flatMap_cons, ih]; rfl
  rw [hf] at he
  obtain ⟨v, h1, h2⟩ := he.get i (d := byteD l[i]) (by simp [hi])
  rw [hc i v h1]
  have := h2.val_inv.1
  rw [this]
  simp [List.getD_eq_getElem?_getD, hi]
/-- An element of an array that nobody writes any more. -/
theorem OpR.indexNodM {α : Type} (f : α → Dat) {xt : TypeId} {x ix : Operand} {i : TI} {len : Nat} {e : TypeId} {ie : TI} {sz : Nat} {cs rest : List Dat} {ki : IntKind} {j : Int} {l : List α} {c : α} (h : idx l j = some c)
    (hi : lkT X.tab xt = some i) (hd : i.desc = .array len e) (hie : lkT X.tab e = some ie) (hsz : ie.size = sz) (hx : ev sl x = some (.nod cs)) (hj : ev sl ix = some (.val (.int ki j))) (hl : Nat.beq l.length len = true) (hs : ∀ a, (f a).cells.length = sz)
    (hcs : cs = (l.map f).flatMap Dat.cells ++ rest) : OpR X (.indexAddr xt x ix) sl ow (fun _ => .nod (f c).cells) (fun _ => ow) := .of_run fun a w ok kn dst ty pos after g => by
  subst hsz hcs
  obtain ⟨g0, g1⟩ := idx_some h
  have hlt := (List.getElem?_eq_some_iff.1 g1).1
  rw [Nat.eq_of_beq_eq_true hl] at hlt
  obtain ⟨p, ex, hb⟩ := (kn x _ hx).nod_inv
  have ej := (kn ix _ hj).val_inv.1
  have u1 := run_underlying' (X.tok _ _ hi) w
  have u2 := run_sizeOf' (X.tok _ _ hie) w
  rw [hd] at u1
  have h0' : ¬ (j < 0 ∨ (len : Int) ≤ j) := by omega
  have hs' : ∀ q ∈ l.map f, q.cells.length = ie.size := fun q hq => by
    obtain ⟨b, _, rfl⟩ := List.mem_map.1 hq
    exact hs b
  refine ⟨.pointer (some (p.add (j.toNat * ie.size))), ?_, .nod ?_⟩
  · simp [execOp, Instr.indexAt, asIntOf, ex, ej, u1, u2, Instr.sureAddr]; omega
  · have hk : (l.drop j.toNat) = c :: l.drop (j.toNat + 1) := by
      rw [List.drop_eq_getElem_cons (List.getElem?_eq_some_iff.1 g1).1, (List.getElem?_eq_some_iff.1 g1).2]
    have e1 := ((hb.drop (j.toNat * ie.size)).take ie.size)
    have e2 : ((((l.map f).flatMap Dat.cells ++ rest).drop (j.toNat * ie.size)).take ie.size) = (f c).cells := by
      have hle : j.toNat * ie.size ≤ ((l.map f).flatMap Dat.cells).length := by
        rw [flat_len hs', List.length_map]
        exact Nat.mul_le_mul_right _ (by have := (List.getElem?_eq_some_iff.1 g1).1; omega)
      rw [List.drop_append_of_le_length hle, ← flat_drop hs', ← List.map_drop, hk, List.map_cons, List.flatMap_cons, List.append_assoc, List.take_append_of_le_length (by rw [hs]; exact Nat.le_refl _), List.take_of_length_le (by rw [hs]; exact Nat.le_refl _)]
    rw [e2] at e1
    exact e1
/-! ### parts of rows, and arrays as slices -/
theorem idx_cut {α : Type} {l r : List α} {lo hi j : Int} {a : α} (h : cut l lo hi = some r) (h2 : idx r j = some a) : idx l (lo + j) = some a := by
  obtain ⟨⟨h1, h3, h4⟩, rfl⟩ := cut_some h
  obtain ⟨g0, g1⟩ := idx_some h2
  unfold idx
  rw [if_pos (by omega)]
  rw [List.getElem?_drop, List.getElem?_take] at g1
  split at g1
  · rw [show (lo + j).toNat = lo.toNat + j.toNat by omega]; exact g1
  · cases g1
theorem OpR.viewIndexM {α : Type} {xt : TypeId} {x ix : Operand} {i : TI} {e0 : TypeId} {ie : TI} {v : Value} (f : α → Dat) {l r : List α} {a : α} {sz : Nat} {e : TypeId} {ki : IntKind} {lo hi j : Int} (k : Nat) (hc : cut l lo hi = some r) (h : idx r j = some a) (hx : ev sl x = some (.val (vw v lo.toNat hi.toNat sz))) (hj : ev sl ix = some (.val (.int ki j)))
    (hb : ow[k]? = some (.row v (l.map f) sz e)) (hi' : lkT X.tab xt = some i) (hd : i.desc = .slice e0) (hie : lkT X.tab e0 = some ie) (hsz : ie.size = sz) : OpR X (.indexAddr xt x ix) sl ow (fun _ => .val (.pointer (some ⟨blk v, (lo + j).toNat * sz, none⟩))) (fun _ => ow) := .of_val fun G a w ok hr kn dst ty pos after g => by
  obtain ⟨⟨h1, h3, h4⟩, rfl⟩ := cut_some hc
  obtain ⟨g0, g1⟩ := idx_some h
  have hlt := (List.getElem?_eq_some_iff.1 g1).1
  rw [List.length_drop, List.length_take] at hlt
  have e1 := (kn x _ hx).val_inv.1
  have ej := (kn ix _ hj).val_inv.1
  have u1 := run_underlying' (X.tok _ _ hi') w
  have u2 := run_sizeOf' (X.tok _ _ hie) w
  rw [hd] at u1
  rcases (hr.own k _ hb).row_inv with ⟨_, e'⟩ | ⟨b, c, vs, us, rfl, hc', _⟩
  · have : l.length = 0 := by simpa using congrArg List.length e'
    omega
  · rw [List.length_map] at hc'
    simp only [vw] at e1
    rw [if_neg (by omega)] at e1
    have hjl : 0 ≤ j ∧ j < ((hi.toNat - lo.toNat : Nat) : Int) := ⟨g0, by omega⟩
    have hadd : (lo.toNat * sz + j.toNat * sz) = (lo + j).toNat * sz := by rw [← Nat.add_mul]; congr 1; omega
    refine ⟨undef, .pointer (some ⟨b, (lo + j).toNat * sz, none⟩), w, ok, ?_, hr, .val rfl, Stay.refl _ _⟩
    simp [execOp, Instr.indexAt, asIntOf, e1, ej, u1, u2, hjl, addr_add, hsz, hadd]
/-- An array in a variable, from a place to its end, as a slice; the variable is given up for writing. -/
theorem OpR.sliceArrM {α : Type} {xt : TypeId} {x lo hi mx : Operand} {i : TI} {n : Nat} {e : TypeId} {ie : TI} {b sz : Nat} {cs : List Dat} {be : TypeId} (f : α → Dat) {l r : List α} {p : Int} {kp kq km : IntKind} (k : Nat) (h : cut l p (n : Int) = some r)
    (hi' : lkT X.tab xt = some i) (hd : i.desc = .array n e) (hie : lkT X.tab e = some ie) (hsz : ie.size = sz) (hx : ev sl x = some (.val (.pointer (some ⟨b, 0, none⟩)))) (hb : ow[k]? = some (.var b cs be)) (hcs : cs = (l.map f).flatMap Dat.cells) (hl : Nat.beq l.length n = true) (hs : ∀ a, (f a).cells.length = sz)
    (hlo : ev sl lo = some (.val (.int kp p))) (hhi : ev sl hi = some (.val (.int kq n))) (hmx : ev sl mx = some (.val (.int km n))) {ow' : List Own} (ho : setK k .gone ow some = some ow') :
    OpR X (.slice xt x (some lo) (some hi) (some mx)) sl ow (fun _ => .sl sz (r.map f)) (fun _ => ow') := .of_val fun G a w ok hr kn dst ty pos after g => by
  subst hsz
  obtain rfl := Option.some.inj (setK_eq _ _ _ _ _ ho)
  obtain ⟨⟨h1, h3, h4⟩, rfl⟩ := cut_some h
  have hl' := Nat.eq_of_beq_eq_true hl
  have e1 := (kn x _ hx).val_inv.1
  have u1 := run_underlying' (X.tok _ _ hi') w
  have u2 := run_sizeOf' (X.tok _ _ hie) w
  rw [hd] at u1
  obtain ⟨vs, e4, e5, e6⟩ := (hr.own k _ hb).var_inv
  have hg := hr.give hb
  have hst : Stay w w ok (fun m => ok m ∨ (Own.var b cs be).block = some m) := stayOk fun _ h => .inl h
  have hC := EncL.toC (ok' := fun m => ok m ∨ (Own.var b cs be).block = some m) e4 (.inr rfl) 0 (e5.mono hst) e6 (fun j v hv => by simpa using hv)
  rw [hcs] at hC
  have hS := EncC.flat hC (fun d hd => by obtain ⟨q, _, rfl⟩ := List.mem_map.1 hd; exact hs q)
  have hbm := bound_run kn (P := X.P) hmx (by omega) (y := n) (by omega) .slice3Alen
  have hbh := bound_run kn (P := X.P) hhi (by omega) (y := n) (by omega) .slice3B
  have hbl := bound_run kn (P := X.P) hlo h1 (y := n) (by omega) .slice3C
  simp only [Int.toNat_natCast] at hbm hbh
  by_cases hcp : n = p.toNat
  · refine ⟨undef, .slice (some ⟨b, 0, none⟩) 0 0, w, _, ?_, hg, ?_, hst⟩
    · simp [execOp, Instr.sliceAt, Instr.sureAddr, Instr.sliceBounds, e1, u1, u2, hbm, hbh, hbl, ← hcp]
    · refine .sl ?_ (Nat.le_refl _) ?_
      · rw [List.length_map, List.length_drop, List.length_take]; omega
      · rw [List.drop_of_length_le (by rw [List.length_take]; omega)]; exact .nil
  · refine ⟨undef, .slice (some ((⟨b, 0, none⟩ : Addr).add (p.toNat * ie.size))) (n - p.toNat) (n - p.toNat), w, _, ?_, hg, ?_, hst⟩
    · simp [execOp, Instr.sliceAt, Instr.sureAddr, Instr.sliceBounds, e1, u1, u2, hbm, hbh, hbl, hcp]
    · refine .sl ?_ (Nat.le_refl _) ?_
      · rw [List.length_map, List.length_drop, List.length_take]; omega
      · rw [List.take_of_length_le (by omega), List.map_drop]; exact hS.drop _
/-- The same, told by its first bound alone. -/
theorem OpR.sliceArrE {α : Type} {xt : TypeId} {x lo : Operand} {i : TI} {n : Nat} {e : TypeId} {ie : TI} {b sz : Nat} {cs : List Dat} {be : TypeId} (f : α → Dat) {l r : List α} {p : Int} {kp : IntKind} (k : Nat) (h : cut l p (n : Int) = some r)
    (hi' : lkT X.tab xt = some i) (hd : i.desc = .array n e) (hie : lkT X.tab e = some ie) (hsz : ie.size = sz) (hx : ev sl x = some (.val (.pointer (some ⟨b, 0, none⟩)))) (hb : ow[k]? = some (.var b cs be)) (hcs : cs = (l.map f).flatMap Dat.cells) (hl : Nat.beq l.length n = true) (hs : ∀ a, (f a).cells.length = sz)
    (hlo : ev sl lo = some (.val (.int kp p))) {ow' : List Own} (ho : setK k .gone ow some = some ow') :
    OpR X (.slice xt x (some lo) none none) sl ow (fun _ => .sl sz (r.map f)) (fun _ => ow') := .of_val fun G a w ok hr kn dst ty pos after g => by
  subst hsz
  obtain rfl := Option.some.inj (setK_eq _ _ _ _ _ ho)
  obtain ⟨⟨h1, h3, h4⟩, rfl⟩ := cut_some h
  have hl' := Nat.eq_of_beq_eq_true hl
  have e1 := (kn x _ hx).val_inv.1
  have u1 := run_underlying' (X.tok _ _ hi') w
  have u2 := run_sizeOf' (X.tok _ _ hie) w
  rw [hd] at u1
  obtain ⟨vs, e4, e5, e6⟩ := (hr.own k _ hb).var_inv
  have hg := hr.give hb
  have hst : Stay w w ok (fun m => ok m ∨ (Own.var b cs be).block = some m) := stayOk fun _ h => .inl h
  have hC := EncL.toC (ok' := fun m => ok m ∨ (Own.var b cs be).block = some m) e4 (.inr rfl) 0 (e5.mono hst) e6 (fun j v hv => by simpa using hv)
  rw [hcs] at hC
  have hS := EncC.flat hC (fun d hd => by obtain ⟨q, _, rfl⟩ := List.mem_map.1 hd; exact hs q)
  have hbl := bound_run kn (P := X.P) hlo h1 (y := n) (by omega) .sliceB
  by_cases hcp : n = p.toNat
  · refine ⟨undef, .slice (some ⟨b, 0, none⟩) 0 0, w, _, ?_, hg, ?_, hst⟩
    · simp [execOp, Instr.sliceAt, Instr.sureAddr, Instr.sliceBounds, e1, u1, u2, hbl, ← hcp]
    · refine .sl ?_ (Nat.le_refl _) ?_
      · rw [List.length_map, List.length_drop, List.length_take]; omega
      · rw [List.drop_of_length_le (by rw [List.length_take]; omega)]; exact .nil
  · refine ⟨undef, .slice (some ((⟨b, 0, none⟩ : Addr).add (p.toNat * ie.size))) (n - p.toNat) (n - p.toNat), w, _, ?_, hg, ?_, hst⟩
    · simp [execOp, Instr.sliceAt, Instr.sureAddr, Instr.sliceBounds, e1, u1, u2, hbl, hcp]
    · refine .sl ?_ (Nat.le_refl _) ?_
      · rw [List.length_map, List.length_drop, List.length_take]; omega
      · rw [List.take_of_length_le (by omega), List.map_drop]; exact hS.drop _
/-- One operation that leaves what is owned, in whatever order. -/
theorem OpS.same {l : List Oper} {base : List (Nat × Dat)} {valsE : (Nat → Value) → List Dat} {OW : (Nat → Bool) → (Nat → Value) → List Own} {pre : List Nat} {i : Nat} {o : Oper} {D : Nat → Bool} {env : Nat → Value} {d : Dat} (hw : Want l (knS l (valsE env) base o) o true)
    (hd : ∀ x, ((valsE (upd env i x))[i]?).getD .dead = d) (e1 : ∀ x, OW (ins i D) (upd env i x) = OW D env) (h : OpR X o.op (knS l (valsE env) base o) (OW D env) (fun _ => d) (fun _ => OW D env)) : OpS X l valsE OW base pre i o true D env := OpS.yes hw rfl e1 hd h
theorem oS {l : List Oper} {base : List (Nat × Dat)} {valsE : (Nat → Value) → List Dat} {OW : (Nat → Bool) → (Nat → Value) → List Own} {pre : List Nat} {i : Nat} {o : Oper} {os : List Oper} {d : Dat} (hw : ∀ env, Want l (knS l (valsE env) base o) o true) (hd : ∀ env, ((valsE env)[i]?).getD .dead = d)
    (e1 : ∀ D env x, OW (ins i D) (upd env i x) = OW D env) (h : ∀ D env, OpR X o.op (knS l (valsE env) base o) (OW D env) (fun _ => d) (fun _ => OW D env)) (hs : ∀ D, At l pre i D → Same valsE D i) (hr : OpsS X l valsE OW base pre (i + 1) os) : OpsS X l valsE OW base pre i (o :: os) :=
  OpsS.cons' true (fun D env _ => OpS.same (hw env) (fun x => hd (upd env i x)) (e1 D env) (h D env)) hs hr
/-! ### stores into arrays in variables -/
theorem ReS.refl {R : Dat → Dat → Prop} : ∀ sl : List (Nat × Dat), ReS R sl sl
  | [] => .nil
  | (_, _) :: l => .cons .refl (ReS.refl l)
theorem spliceK_gen {β : Type} : ∀ (n : Nat) (us cs : List Dat) (κ : List Dat → Option β), n + us.length ≤ cs.length → spliceK n us cs κ = κ (cs.take n ++ us ++ cs.drop (n + us.length))
  | 0, [], cs, κ, _ => by cases cs <;> simp [spliceK]
  | 0, u :: us, [], κ, h => by simp at h
  | 0, u :: us, c :: cs, κ, h => by
    simp only [spliceK]
    rw [spliceK_gen 0 us cs _ (by simpa using h)]
    simp
  | n + 1, us, [], κ, h => by simp at h
  | n + 1, us, c :: cs, κ, h => by
    simp only [spliceK]
    rw [spliceK_gen n us cs _ (by simp at h; omega)]
    congr 1
    rw [show n + 1 + us.length = (n + us.length) + 1 by omega]
    simp
theorem flat_set {α : Type} {f : α → Dat} {sz : Nat} (hs : ∀ a, (f a).cells.length = sz) (a : α) : ∀ (l : List α) (j : Nat), j < l.length → ((l.set j a).map f).flatMap Dat.cells = ((l.map f).flatMap Dat.cells).take (j * sz) ++ (f a).cells ++ ((l.map f).flatMap Dat.cells).drop (j * sz + sz)
  | c :: l, 0, _ => by
    simp only [List.set_cons_zero, List.map_cons, List.flatMap_cons, Nat.zero_mul, List.take_zero, List.nil_append, Nat.zero_add]
    rw [List.drop_append_of_le_length (by rw [hs]; exact Nat.le_refl _), List.drop_eq_nil_of_le (by rw [hs]; exact Nat.le_refl _), List.nil_append]
  | c :: l, j + 1, h => by
    simp only [List.set_cons_succ, List.map_cons, List.flatMap_cons]
    rw [flat_set hs a l j (by simpa using h)]
    have hc : (j + 1) * sz = (f c).cells.length + j * sz := by rw [hs, Nat.add_mul]; omega
    have hd : (j + 1) * sz + sz = (f c).cells.length + (j * sz + sz) := by omega
    rw [hd, hc, List.take_length_add_append, List.drop_length_add_append]
    simp
theorem OpR.arrStoreN {α : Type} {e1 : TypeId} {x y : Operand} {i : TI} {b off sz : Nat} {cs pre rest : List Dat} {be : TypeId} {d : Dat} (f : α → Dat) {l : List α} {c a' : α} {j : Int} (k : Nat) (h : idx l j = some c) (hx : ev sl x = some (.val (.pointer (some ⟨b, off + j.toNat * sz, none⟩)))) (hy : ev sl y = some d) (hda : d.cells = (f a').cells) (hlv : live d = true)
    (hi : lkT X.tab e1 = some i) (hb : ow[k]? = some (.var b cs be)) (hs : ∀ a, (f a).cells.length = sz) (hz : Nat.beq sz i.size = true) (hp : Nat.beq pre.length off = true) (hcs : cs = pre ++ ((l.map f).flatMap Dat.cells ++ rest)) {ow' : List Own} (ho : setK k (.var b (pre ++ (((setIf a' l j).map f).flatMap Dat.cells ++ rest)) be) ow some = some ow') :
    OpR X (.store e1 x y) sl ow (fun _ => .dead) (fun _ => ow') := by
  obtain ⟨h0, h1⟩ := idx_some h
  have hlt := (List.getElem?_eq_some_iff.1 h1).1
  have hpl := Nat.eq_of_beq_eq_true hp
  have hdl : d.cells.length = sz := by rw [hda, hs]
  have hfl : ((l.map f).flatMap Dat.cells).length = l.length * sz := by
    rw [flat_len (sz := sz) (fun q hq => by obtain ⟨w, _, rfl⟩ := List.mem_map.1 hq; exact hs w), List.length_map]
  have hle : j.toNat * sz + sz ≤ l.length * sz := by rw [← Nat.succ_mul]; exact Nat.mul_le_mul_right _ hlt
  refine OpR.store k hx hy hlv hi hb (by rw [hdl]; exact hz) (spliceK_gen _ _ _ _ (by rw [hdl, hcs]; simp only [List.length_append]; omega)) ?_
  rw [setIf_eq _ _ _ h0, flat_set hs a' l j.toNat hlt] at ho
  have e : cs.take (off + j.toNat * sz) ++ d.cells ++ cs.drop (off + j.toNat * sz + d.cells.length) = pre ++ (((l.map f).flatMap Dat.cells).take (j.toNat * sz) ++ (f a').cells ++ ((l.map f).flatMap Dat.cells).drop (j.toNat * sz + sz) ++ rest) := by
    rw [hcs, hda, hs, ← hpl, List.take_length_add_append, Nat.add_assoc, List.drop_length_add_append, List.take_append_of_le_length (by omega), List.drop_append_of_le_length (by omega)]
    simp
  rw [e]; exact ho
theorem OpR.arrLoadF {α : Type} {e1 : TypeId} {x : Operand} {i : TI} {b off sz fo : Nat} {cs rest : List Dat} {be : TypeId} {d : Dat} (f : α → Dat) {l : List α} {c : α} {j : Int} (k : Nat) (h : idx l j = some c) (hx : ev sl x = some (.val (.pointer (some ⟨b, off + j.toNat * sz + fo, none⟩)))) (hi : lkT X.tab e1 = some i) (hb : ow[k]? = some (.var b cs be))
    (hs : ∀ a, (f a).cells.length = sz) (hcs : cs.drop off = (l.map f).flatMap Dat.cells ++ rest) (hf : Nat.ble fo sz = true) (hd : partD i ((f c).cells.drop fo) = some d) : OpR X (.load e1 x) sl ow (fun _ => d) (fun _ => ow) := .of_val fun G a w ok hr kn dst ty pos after g => by
  obtain ⟨h0, h1⟩ := idx_some h
  have hfo := Nat.le_of_ble_eq_true hf
  have e1' := (kn x _ hx).val_inv.1
  obtain ⟨vs, e4, e5, e6⟩ := (hr.own k _ hb).var_inv
  have hs' : ∀ q ∈ l.map f, q.cells.length = sz := fun q hq => by
    obtain ⟨a', _, rfl⟩ := List.mem_map.1 hq; exact hs a'
  obtain ⟨r, hr'⟩ := flat_at hs' (show (l.map f)[j.toNat]? = some (f c) by rw [List.getElem?_map, h1]; rfl)
  have hlt : j.toNat * sz ≤ ((l.map f).flatMap Dat.cells).length := by
    rw [flat_len hs']
    have := (List.getElem?_eq_some_iff.1 h1).1
    rw [List.length_map]
    exact Nat.mul_le_mul_right _ (by omega)
  have hdr : cs.drop (off + j.toNat * sz + fo) = (f c).cells.drop fo ++ (r ++ rest) := by
    rw [← List.drop_drop, ← List.drop_drop, hcs, List.drop_append_of_le_length hlt, hr', List.append_assoc, List.drop_append_of_le_length (by rw [hs]; exact hfo)]
  have he2 := (e5.drop (off + j.toNat * sz + fo)).take ((f c).cells.drop fo).length
  rw [hdr, List.take_left] at he2
  obtain ⟨u, g1, g2⟩ := part_load (X := X) hi (off := off + j.toNat * sz + fo) e4 he2 (fun v hv => e6 v (List.mem_of_mem_drop (List.mem_of_mem_take hv))) (fun m v hv => by
    rw [List.getElem?_take] at hv
    split at hv
    · rw [List.getElem?_drop] at hv; simpa using hv
    · cases hv) hd
  exact ⟨undef, u, w, ok, by simp [execOp, Instr.loadAt, e1', Instr.sureAddr, g1], hr, g2, Stay.refl _ _⟩
/-- A cell of an array variable, its place told. -/
theorem OpR.indexVarE {xt : TypeId} {x ix : Operand} {i : TI} {len : Nat} {e : TypeId} {ie : TI} {b off r : Nat} {ki : IntKind} (j : Nat)
    (hi : lkT X.tab xt = some i) (hd : i.desc = .array len e) (hie : lkT X.tab e = some ie) (hx : ev sl x = some (.val (.pointer (some ⟨b, off, none⟩)))) (hj : ev sl ix = some (.val (.int ki (j : Int)))) (h0 : Nat.blt j len = true) (hr : Nat.beq (off + j * ie.size) r = true) :
    OpR X (.indexAddr xt x ix) sl ow (fun _ => .val (.pointer (some ⟨b, r, none⟩))) (fun _ => ow) := by
  rw [← Nat.eq_of_beq_eq_true hr]
  exact OpR.indexVar hi hd hie hx hj ⟨Nat.zero_le _, by have := h0; simp [Nat.blt] at this; omega⟩
end
end Go.Sm
