/- A small program logic over the kit's wp. Part 6: variables in memory, calls, entering a function and coming back. -/
import Derived.Test.YtbogkjbjgcclnaaAm5
namespace Go.Am
open Go.RowKit
section
variable {X : Prg} {ops : Array Oper} {rest : List Oper} {op : Op} {ty : TypeId} {pos : String} {after : Array Edge} {t : Nat} {d : Dat} {sl : List (Nat × Dat)} {bx : List Box} {n : Nat} {Q : Exit → St → Prop}
  {w : World} {ok : Nat → Prop} {β : List (Option Nat)}

theorem Enc.cells {d : Dat} {v : Value} (h : Enc w ok β d v) (hd : Go.Am.clo d = true) : (∃ vs : List Value, v.cells = vs.toArray ∧ EncL w ok d.cells vs ∧ ∀ u ∈ vs, one u = true) ∨ ∃ ds, d = .tup ds := by
  have h0 := h.clo hd
  cases h0 with
  | agg h1 h' => exact .inl ⟨_, rfl, h', h1⟩
  | tup h' => exact .inr ⟨_, rfl⟩
  | val h' => exact .inl ⟨[v], by cases v <;> first | rfl | simp [simple] at h', .cons (.val h') .nil, by simp [one_of_simple h']⟩
  | slnil => exact .inl ⟨[_], rfl, .cons .slnil .nil, by simp [one]⟩
  | sl a b c => exact .inl ⟨[_], rfl, .cons (.sl a b c) .nil, by simp [one]⟩
  | nod a => exact .inl ⟨[_], rfl, .cons (.nod a) .nil, by simp [one]⟩
  | fn a b => exact .inl ⟨[_], rfl, .cons (.fn a b) .nil, by simp [one]⟩
  | ifc a => exact .inl ⟨[_], rfl, .cons (.ifc a) .nil, by simp [one]⟩
def isTup : Dat → Bool
  | .tup _ => true
  | _ => false
theorem EncB.one_of_agg {v : Value} {cs : List Dat} (h : Enc w ok β (.agg cs) v) : ∃ vs : List Value, v.cells = vs.toArray ∧ EncB w ok β cs vs ∧ ∀ u ∈ vs, one u = true := by
  obtain ⟨vs, e, h1, h2⟩ := h.agg_inv
  subst e
  exact ⟨vs, rfl, h2, h1⟩
/-- Any value that lies in memory, cell by cell. -/
theorem Enc.cellsB {d : Dat} {v : Value} (h : Enc w ok β d v) (hd : d ≠ .dead) (ht : isTup d = false) : ∃ vs : List Value, v.cells = vs.toArray ∧ EncB w ok β d.cells vs ∧ ∀ u ∈ vs, one u = true := by
  cases h with
  | closed h0 =>
    cases h0 with
    | agg h1 h => exact ⟨_, rfl, .of h, h1⟩
    | tup h => simp [isTup] at ht
    | val h => exact ⟨[v], by cases v <;> first | rfl | simp [simple] at h, .cons (.closed (.val h)) .nil, by simp [one_of_simple h]⟩
    | slnil => exact ⟨[_], rfl, .cons (.closed .slnil) .nil, by simp [one]⟩
    | sl a b c => exact ⟨[_], rfl, .cons (.closed (.sl a b c)) .nil, by simp [one]⟩
    | nod a => exact ⟨[_], rfl, .cons (.closed (.nod a)) .nil, by simp [one]⟩
    | fn a b => exact ⟨[_], rfl, .cons (.closed (.fn a b)) .nil, by simp [one]⟩
    | ifc a => exact ⟨[_], rfl, .cons (.closed (.ifc a)) .nil, by simp [one]⟩
  | agg h1 h => exact ⟨_, rfl, h, h1⟩
  | tup h => simp [isTup] at ht
  | fn a b => exact ⟨[_], rfl, .cons (.fn a b) .nil, by simp [one]⟩
  | ifc a => exact ⟨[_], rfl, .cons (.ifc a) .nil, by simp [one]⟩
  | ptr h => exact ⟨[_], rfl, .cons (.ptr h) .nil, by simp [one]⟩
  | osnil h => exact ⟨[_], rfl, .cons (.osnil h) .nil, by simp [one]⟩
  | os a b c e f => exact ⟨[_], rfl, .cons (.os a b c e f) .nil, by simp [one]⟩
  | dead => exact absurd rfl hd

theorem EncL.toC {w' : World} {ok' : Nat → Prop} {b : Nat} {cells : Array Value} {e : TypeId} {fr : Nat × Nat} (hb : w'.heap[b]? = some (.cells cells e fr)) (hok : ok' b) :
    ∀ {ds : List Dat} {vs : List Value} (off : Nat), EncL w' ok' ds vs → (∀ u ∈ vs, one u = true) → (∀ j v, vs[j]? = some v → cells[off + j]? = some v) → EncC w' ok' ⟨b, off, none⟩ ds
  | _, _, off, .nil, _, _ => .nil
  | _, _, off, .cons (v := v) (vs := vs) h hr, h1, hc => by
    have h0 := hc 0 v rfl
    refine .cons hok rfl ?_ (h1 _ List.mem_cons_self) h ?_
    · show World.cell? w' ⟨b, off, none⟩ = _
      unfold World.cell?
      simp only [hb]
      simpa using h0
    · rw [addr_add]
      refine EncL.toC hb hok (off + 1) hr (fun u hu => h1 u (List.mem_cons_of_mem _ hu)) (fun j u hu => ?_)
      have := hc (j + 1) u (by simpa using hu)
      rwa [show off + 1 + j = off + (j + 1) by omega]

/-- What is stored in a variable that nobody writes later: a pointer to its content. -/
theorem TL.boxImm {e : TypeId} {x : Operand} (hx : ev sl x = some d) (hc : clo d = true) (htu : isTup d = false) (ht : Nat.blt t n = true) (hk : TL X ops rest ⟨(t, .nod d.cells) :: sl, bx, n⟩ Q) :
    TL X ops ({ dst := some t, op := .box e x, type := ty, pos := pos, after := after, guard := none } :: rest) ⟨sl, bx, n⟩ Q := fun G a w β ok hr => by
  have he := hr.kn x d hx
  rcases he.cells hc with ⟨vs, e1, e2, e3⟩ | ⟨ds, rfl⟩
  case inr => simp [isTup] at htu
  have hr' := hr.newOk (.cells vs.toArray e (0, 0))
  have e2' : EncL (w.alloc (.cells vs.toArray e (0, 0))) (fun b => ok b ∨ b = w.heap.size) d.cells vs :=
    e2.mono ⟨fun _ h => .inl h, fun b hb => Below.heap_alloc w _ b (hr.okf b hb).1⟩
  have hC := EncL.toC (alloc_new w _) (.inr rfl) 0 e2' e3 (fun j v hv => by simpa using hv)
  refine wp_value (v := .pointer (some ⟨w.heap.size, 0, none⟩)) (w1 := w.alloc (.cells vs.toArray e (0, 0))) rfl ?_ (hk G _ _ _ _ (hr'.put ht (.closed (.nod hC))))
  simp only [execOp, Instr.box, newVar, newRow, newObj]
  simp [Sem.run, e1]
/-- A variable with a first value. -/
theorem TL.boxVar {e : TypeId} {x : Operand} (hx : ev sl x = some d) (hnd : d ≠ .dead) (htu : isTup d = false) (ht : Nat.blt t n = true) (hk : TL X ops rest ⟨(t, .ptr bx.length 0) :: sl, bx ++ [.var d.cells e], n⟩ Q) :
    TL X ops ({ dst := some t, op := .box e x, type := ty, pos := pos, after := after, guard := none } :: rest) ⟨sl, bx, n⟩ Q := fun G a w β ok hr => by
  obtain ⟨vs, e1, e2, e3⟩ := (hr.kn x d hx).cellsB hnd htu
  have hr' := hr.newVar (t := e) e2 e3
  refine wp_value (v := .pointer (some ⟨w.heap.size, 0, none⟩)) (w1 := w.alloc (.cells vs.toArray e (0, 0))) rfl ?_ (hk G _ _ _ _ (hr'.put ht (.ptr (by rw [← hr.len]; simp))))
  simp only [execOp, Instr.box, newVar, newRow, newObj]
  simp [Sem.run, e1]

/-- The zero value's cells. -/
def zcells : List Value → Option (List Dat)
  | [] => some []
  | v :: r => match simple v, zcells r with
    | true, some l => some (.val v :: l)
    | _, _ => none
theorem zcells_enc (w : World) (ok : Nat → Prop) : ∀ {vs : List Value} {cs : List Dat}, zcells vs = some cs → EncL w ok cs vs ∧ ∀ u ∈ vs, one u = true
  | [], cs, h => by simp [zcells] at h; subst h; exact ⟨.nil, by simp⟩
  | v :: r, cs, h => by
    simp only [zcells] at h
    split at h
    · rename_i l h1 h2
      obtain rfl := Option.some.inj h
      have := zcells_enc w ok h2
      refine ⟨.cons (.val h1) this.1, fun u hu => ?_⟩
      rcases List.mem_cons.1 hu with rfl | hu
      · exact one_of_simple h1
      · exact this.2 u hu
    · cases h
theorem TL.alloc {e : TypeId} {i : TI} {cs : List Dat} (hi : lkT X.tab e = some i) (hz : zcells i.zero.cells.toList = some cs) (ht : Nat.blt t n = true) (hk : TL X ops rest ⟨(t, .ptr bx.length 0) :: sl, bx ++ [.var cs e], n⟩ Q) :
    TL X ops ({ dst := some t, op := .alloc e, type := ty, pos := pos, after := after, guard := none } :: rest) ⟨sl, bx, n⟩ Q := fun G a w β ok hr => by
  have hz' := zcells_enc w ok hz
  have hr' := hr.newVar (t := e) (EncB.of hz'.1) hz'.2
  have u1 := run_zeroValue' (X.tok _ _ hi) w
  refine wp_value (v := .pointer (some ⟨w.heap.size, 0, none⟩)) (w1 := w.alloc (.cells i.zero.cells.toList.toArray e (0, 0))) rfl ?_ (hk G _ _ _ _ (hr'.put ht (.ptr (by rw [← hr.len]; simp))))
  simp only [execOp, Instr.alloc, newVar, newRow, newObj]
  simp [Sem.run, u1]

/-- A load out of a variable. -/
theorem BoxOk.var_inv {o : Option Nat} {cs : List Dat} {e : TypeId} (h : BoxOk w ok β o (.var cs e)) : ∃ b vs, o = some b ∧ w.heap[b]? = some (.cells (List.toArray vs) e (0, 0)) ∧ EncB w ok β cs vs ∧ ∀ v ∈ vs, one v = true := by
  cases h with | var hb h h1 => exact ⟨_, _, rfl, hb, h, h1⟩
def atBox (bx : List Box) (k : Nat) : Option (List Dat × TypeId) := match bx[k]? with | some (.var cs e) => some (cs, e) | _ => none
theorem atBox_get {bx : List Box} {k : Nat} {cs : List Dat} {e : TypeId} (h : atBox bx k = some (cs, e)) : bx[k]? = some (.var cs e) := by
  unfold atBox at h
  split at h
  · rename_i h'; simp at h; obtain ⟨rfl, rfl⟩ := h; exact h'
  · cases h
theorem cell_blk {b : Nat} {cells : Array Value} {e : TypeId} {fr : Nat × Nat} (hb : w.heap[b]? = some (.cells cells e fr)) (j : Nat) : w.cell? ⟨b, j, none⟩ = cells[j]? := by
  unfold World.cell?; simp [hb]
theorem TL.loadPtr {e : TypeId} {x : Operand} {i : TI} {k off : Nat} {cs : List Dat} {be : TypeId} (hx : ev sl x = some (.ptr k off)) (hi : lkT X.tab e = some i) (hb : atBox bx k = some (cs, be))
    (hd : dropK off cs (fun r => partD i r) = some d) (ht : Nat.blt t n = true) (hk : TL X ops rest ⟨(t, d) :: sl, bx, n⟩ Q) :
    TL X ops ({ dst := some t, op := .load e x, type := ty, pos := pos, after := after, guard := none } :: rest) ⟨sl, bx, n⟩ Q := fun G a w β ok hr => by
  obtain ⟨b, e1, e2⟩ := (hr.kn x _ hx).ptr_inv
  obtain ⟨b', vs, e3, e4, e5, e6⟩ := (hr.bxs k _ _ (atBox_get hb) e2).var_inv
  obtain rfl := Option.some.inj e3
  have h' := dropK_eq _ _ _ _ hd
  have hp := partD_run h'.2 (e5.drop off) (fun v hv => e6 v (List.mem_of_mem_drop hv))
  have u2 := run_sizeOf' (X.tok _ _ hi) w
  have u3 := run_isAgg' (X.tok _ _ hi) w
  have hl := e5.length
  have hcell : ∀ j v, (vs.drop off)[j]? = some v → w.cell? ((⟨b, off, none⟩ : Addr).add j) = some v := fun j v hv => by
    rw [addr_add, cell_blk e4]; simpa using hv
  cases ha : i.isAgg with
  | true =>
    rw [ha] at hp u3
    obtain ⟨m, _, rfl, hle, he⟩ := hp
    refine wp_value rfl ?_ (hk G _ w β ok (hr.put ht he))
    have := loadCells_all X.P (w := w) (n := i.size) (a := ⟨b, off, none⟩) (vs := (vs.drop off).take i.size) (by simp at hle ⊢; omega) (fun j v hv => hcell j v (by
      rw [List.getElem?_take] at hv
      split at hv
      · exact hv
      · cases hv))
    simp [execOp, Instr.loadAt, e1, Instr.sureAddr, loadVar, u3, u2, this]
  | false =>
    rw [ha] at hp u3
    obtain ⟨v, r, hv, he⟩ := hp
    have h0 := hcell 0 v (by rw [hv]; rfl)
    rw [add_zero'] at h0
    refine wp_value rfl ?_ (hk G _ w β ok (hr.put ht he))
    simp [execOp, Instr.loadAt, e1, Instr.sureAddr, loadVar, u3, Go.load, Sem.run, h0]

/-! ### stores -/
theorem storeCells_run {P : Program} {b : Nat} {e : TypeId} : ∀ (us : List Value) (w : World) (cells : Array Value) (off i : Nat), w.heap[b]? = some (.cells cells e (0, 0)) → (∀ u ∈ us, one u = true) → off + i + us.length ≤ cells.size →
    ∃ w' cells', (storeCells ⟨b, off, none⟩ us i).run P w = .ok () w' ∧ Chg w w' (· = b) ∧ w'.heap[b]? = some (.cells cells' e (0, 0)) ∧ cells'.toList = cells.toList.take (off + i) ++ us ++ cells.toList.drop (off + i + us.length)
  | [], w, cells, off, i, hb, _, hs => ⟨w, cells, by simp [storeCells], Chg.refl _ _, hb, by simp⟩
  | u :: us, w, cells, off, i, hb, h1, hs => by
    have hc : w.cell? ⟨b, off + i, none⟩ = some (cells[off + i]'(by simp at hs; omega)) := by
      rw [cell_blk hb]; exact Array.getElem?_eq_getElem _
    have hf : w.frozen? ⟨b, off + i, none⟩ = false := by
      unfold World.frozen?; simp [hb]
    have hb' : (w.setCell ⟨b, off + i, none⟩ u).heap[b]? = some (.cells (cells.setIfInBounds (off + i) u) e (0, 0)) := by
      simp only [World.setCell, Array.getElem?_modify, if_true, hb, Option.map_some]; simp
    obtain ⟨w', cells', h2, h3, h4, h5⟩ := storeCells_run (P := P) us (w.setCell ⟨b, off + i, none⟩ u) (cells.setIfInBounds (off + i) u) off (i + 1) hb' (fun v hv => h1 v (List.mem_cons_of_mem _ hv)) (by simp at hs ⊢; omega)
    refine ⟨w', cells', ?_, (Chg.setCell w (p := ⟨b, off + i, none⟩) (touched := (· = b)) u rfl).trans h3, h4, ?_⟩
    · have h1u := h1 u List.mem_cons_self
      cases u <;> simp [one] at h1u <;> simp [storeCells, store, Sem.run, addr_add, hc, hf, h2]
    · rw [h5]
      have hlt : off + i < cells.toList.length := by simp at hs ⊢; omega
      simp only [Array.toList_setIfInBounds]
      rw [List.take_set, List.drop_set]
      simp only [List.length_cons]
      rw [if_pos (by omega), show off + (i + 1) = off + i + 1 by omega, List.take_succ_eq_append_getElem hlt]
      rw [List.set_append_right _ _ (by simp; omega)]
      simp [Nat.min_eq_left (Nat.le_of_lt (by simpa using hlt))]
      congr 1; omega
/-- A row with others in the place of some. -/
def spliceK {β : Type} : Nat → List Dat → List Dat → (List Dat → Option β) → Option β
  | 0, us, cs, k => match us, cs with
    | [], cs => k cs
    | u :: us, _ :: cs => spliceK 0 us cs fun l => k (u :: l)
    | _ :: _, [] => none
  | n + 1, us, c :: cs, k => spliceK n us cs fun l => k (c :: l)
  | _ + 1, _, [], _ => none
theorem spliceK_eq {γ : Type} : ∀ (n : Nat) (us cs : List Dat) (k : List Dat → Option γ) (b : γ), spliceK n us cs k = some b → n + us.length ≤ cs.length ∧ k (cs.take n ++ us ++ cs.drop (n + us.length)) = some b
  | 0, [], cs, k, b, h => ⟨by simp, by simpa [spliceK] using h⟩
  | 0, u :: us, c :: cs, k, b, h => by
    have := spliceK_eq 0 us cs _ b (by simpa [spliceK] using h)
    refine ⟨by simp at this ⊢; omega, ?_⟩
    have h2 := this.2
    simp at h2 ⊢
    exact h2
  | 0, u :: us, [], k, b, h => by simp [spliceK] at h
  | n + 1, us, c :: cs, k, b, h => by
    have := spliceK_eq n us cs _ b (by simpa [spliceK] using h)
    refine ⟨by simp at this ⊢; omega, ?_⟩
    have h2 := this.2
    simp [Nat.add_right_comm] at h2 ⊢
    exact h2
  | n + 1, us, [], k, b, h => by simp [spliceK] at h
/-- A row with another k-th thing, told to its end. -/
def setK {α β : Type} : Nat → α → List α → (List α → Option β) → Option β
  | 0, a, _ :: r, k => k (a :: r)
  | n + 1, a, b :: r, k => setK n a r fun l => k (b :: l)
  | _, _, [], _ => none
theorem setK_eq {α γ : Type} : ∀ (n : Nat) (a : α) (l : List α) (k : List α → Option γ) (c : γ), setK n a l k = some c → k (l.set n a) = some c
  | 0, a, b :: r, k, c, h => by simpa [setK] using h
  | n + 1, a, b :: r, k, c, h => by
    have := setK_eq n a r _ c (by simpa [setK] using h)
    simpa using this
  | 0, a, [], k, c, h => by simp [setK] at h
  | n + 1, a, [], k, c, h => by simp [setK] at h
def appK {α β : Type} : List α → α → (List α → Option β) → Option β
  | [], a, k => k [a]
  | b :: r, a, k => appK r a fun l => k (b :: l)
theorem appK_eq {α γ : Type} : ∀ (l : List α) (a : α) (k : List α → Option γ) (c : γ), appK l a k = some c → k (l ++ [a]) = some c
  | [], a, k, c, h => by simpa [appK] using h
  | b :: r, a, k, c, h => by
    have := appK_eq r a _ c (by simpa [appK] using h)
    simpa using this
theorem TL.store {e : TypeId} {x y : Operand} {i : TI} {k off : Nat} {cs cs' : List Dat} {be : TypeId} (hx : ev sl x = some (.ptr k off)) (hy : ev sl y = some d) (hnd : d ≠ .dead) (htu : isTup d = false) (hi : lkT X.tab e = some i)
    (hb : atBox bx k = some (cs, be)) (hz : Nat.beq d.cells.length i.size = true) (hd : spliceK off d.cells cs some = some cs') {dst : Option Tmp} (hdst : dst = none) (hk : TL X ops rest ⟨sl, bx.set k (.var cs' be), n⟩ Q) :
    TL X ops ({ dst := dst, op := .store e x y, type := ty, pos := pos, after := after, guard := none } :: rest) ⟨sl, bx, n⟩ Q := fun G a w β ok hr => by
  subst hdst
  obtain ⟨b, e1, e2⟩ := (hr.kn x _ hx).ptr_inv
  obtain ⟨b', vs, e3, e4, e5, e6⟩ := (hr.bxs k _ _ (atBox_get hb) e2).var_inv
  obtain rfl := Option.some.inj e3
  obtain ⟨us, f1, f2, f3⟩ := (hr.kn y _ hy).cellsB hnd htu
  have hs := spliceK_eq _ _ _ _ _ hd
  have hs2 := Option.some.inj hs.2
  have hl := e5.length
  have hl2 := f2.length
  have hz' : us.length = i.size := hl2 ▸ Nat.eq_of_beq_eq_true hz
  obtain ⟨w', cells', g1, g2, g3, g4⟩ := storeCells_run (P := X.P) us w vs.toArray off 0 e4 f3 (by simp; omega)
  have u2 := run_sizeOf' (X.tok _ _ hi) w
  have hw' : cells' = (vs.take off ++ us ++ vs.drop (off + us.length)).toArray := by
    apply Array.toList_inj.1; rw [g4]; simp
  have hsz : cells'.size = vs.toArray.size := by rw [hw']; simp; omega
  subst hw'
  have hstay := hr.toRepB.stayK e2 g2 e4 g3 hsz
  have henc : EncB w' ok β cs' (vs.take off ++ us ++ vs.drop (off + us.length)) := by
    rw [← hs2, hl2]
    exact (((e5.take off).append f2).append (e5.drop _)).mono hstay
  have h1' : ∀ v ∈ vs.take off ++ us ++ vs.drop (off + us.length), one v = true := fun v hv => by
    simp only [List.append_assoc, List.mem_append] at hv
    rcases hv with hv | hv | hv
    · exact e6 v (List.mem_of_mem_take hv)
    · exact f3 v hv
    · exact e6 v (List.mem_of_mem_drop hv)
  refine wp_skipv (w1 := w') rfl ?_ (hk G a w' β ok (hr.set e2 g2 e4 g3 hsz (.var g3 henc h1')))
  simp [execOp, Instr.storeAt, e1, Instr.sureAddr, storeVar, u2, f1, hz', g1]
end
end Go.Am
