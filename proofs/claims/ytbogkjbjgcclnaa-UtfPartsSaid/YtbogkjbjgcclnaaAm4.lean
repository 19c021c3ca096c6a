/- A small program logic over the kit's wp. Part 4: what becomes of a state when memory is made, written, or given up for writing. -/
import Derived.Test.YtbogkjbjgcclnaaAm3
namespace Go.Am
open Go.RowKit
/-- The world has gone on; blocks that were there turned only where 'touched' says so. -/
structure Chg (w w' : World) (touched : Nat → Prop) : Prop where
  os : w'.os = w.os
  out : w'.output = w.output
  tape : w'.tape = w.tape
  size : w.heap.size ≤ w'.heap.size
  keep : ∀ b, b < w.heap.size → ¬ touched b → w'.heap[b]? = w.heap[b]?
theorem Chg.refl (w : World) (touched : Nat → Prop) : Chg w w touched := ⟨rfl, rfl, rfl, Nat.le_refl _, fun _ _ _ => rfl⟩
theorem Chg.trans {w w' w'' : World} {touched : Nat → Prop} (h : Chg w w' touched) (h' : Chg w' w'' touched) : Chg w w'' touched :=
  ⟨h'.os.trans h.os, h'.out.trans h.out, h'.tape.trans h.tape, Nat.le_trans h.size h'.size, fun b hb ht => (h'.keep b (Nat.lt_of_lt_of_le hb h.size) ht).trans (h.keep b hb ht)⟩
theorem Chg.alloc (w : World) (o : Obj) (touched : Nat → Prop) : Chg w (w.alloc o) touched :=
  ⟨rfl, rfl, rfl, by simp, fun b hb _ => Below.heap_alloc w o b hb⟩
theorem Chg.drew (w : World) (touched : Nat → Prop) : Chg w w.drew touched := ⟨rfl, rfl, rfl, Nat.le_refl _, fun _ _ _ => rfl⟩
theorem Chg.setCell (w : World) {p : Addr} (v : Value) {touched : Nat → Prop} (h : touched p.block) : Chg w (w.setCell p v) touched :=
  ⟨rfl, rfl, rfl, by simp [World.setCell], fun b _ hb => Below.heap_setCell w p v b (fun e => hb (e ▸ h))⟩
theorem alloc_new (w : World) (o : Obj) : (w.alloc o).heap[w.heap.size]? = some o := by
  show (w.heap.push o)[w.heap.size]? = _
  simp
theorem alloc_size (w : World) (o : Obj) : (w.alloc o).heap.size = w.heap.size + 1 := by simp

section
variable {G : Gh} {bx : List Box} {w w' : World} {β : List (Option Nat)} {ok : Nat → Prop}

theorem BoxOk.mono {ok' : Nat → Prop} {β' : List (Option Nat)} {o : Option Nat} {b : Box} (s : StayB w w' ok ok' β β') (ho : ∀ n, o = some n → w'.heap[n]? = w.heap[n]?) (h : BoxOk w ok β o b) : BoxOk w' ok' β' o b := by
  cases h with
  | var hb h h1 => exact .var ((ho _ rfl).trans hb) (h.mono s) h1
  | anil => exact .anil
  | arr hb h h1 hz => exact .arr ((ho _ rfl).trans hb) (h.mono s.toStay) h1 hz
  | gone => exact .gone

theorem RepB.stay (hr : RepB G bx w β ok) (h : Chg w w' (fun _ => False)) : StayB w w' ok ok β β where
  ho := fun _ h => h
  hw := fun b hb => h.keep b (hr.okf b hb).1 id
  hβ := fun _ _ h => h
  hz := fun k b cells t hk hc => ⟨cells, by rw [h.keep b (hr.blt k b hk).1 id]; exact hc, rfl⟩
theorem RepB.grow (hr : RepB G bx w β ok) (h : Chg w w' (fun _ => False)) : RepB G bx w' β ok where
  len := hr.len
  bxs := fun k b o h1 h2 => (hr.bxs k b o h1 h2).mono (hr.stay h) (fun n hn => h.keep n (hr.blt k n (hn ▸ h2)).1 id)
  inj := hr.inj
  okf := fun b hb => ⟨Nat.lt_of_lt_of_le (hr.okf b hb).1 h.size, (hr.okf b hb).2⟩
  blt := fun k b hk => ⟨Nat.lt_of_lt_of_le (hr.blt k b hk).1 h.size, (hr.blt k b hk).2⟩
  prot := fun b hb ho => (h.keep b (Nat.lt_of_lt_of_le hb hr.gsz) id).trans (hr.prot b hb ho)
  gsz := Nat.le_trans hr.gsz h.size
  os := h.os.trans hr.os
  out := h.out.trans hr.out
  tape := h.tape.trans hr.tape
  ok0 := hr.ok0
  org := hr.org
theorem Rep.grow {S : St} {a : Act} (hr : Rep G S a w β ok) (h : Chg w w' (fun _ => False)) : Rep G S a w' β ok :=
  { hr.toRepB.grow h with hd := hr.hd, hs := hr.hs, sl := fun t d ht => ⟨(hr.sl t d ht).1, (hr.sl t d ht).2.mono (hr.toRepB.stay h)⟩ }

/-- More blocks that nobody writes. -/
theorem RepB.stayOk {ok' : Nat → Prop} (ho : ∀ b, ok b → ok' b) : StayB w w ok ok' β β := { ho := ho, hw := fun _ _ => rfl, hβ := fun _ _ h => h, hz := fun _ _ cells _ _ hc => ⟨cells, hc, rfl⟩ }
theorem RepB.addOk (hr : RepB G bx w β ok) {ok' : Nat → Prop} (ho : ∀ b, ok b → ok' b) (hn : ∀ b, ok' b → ok b ∨ (b < w.heap.size ∧ G.w0.heap.size ≤ b ∧ ∀ k : Nat, β[k]? ≠ some (some b))) : RepB G bx w β ok' where
  len := hr.len
  bxs := fun k b o h1 h2 => (hr.bxs k b o h1 h2).mono (RepB.stayOk ho) (fun _ _ => rfl)
  inj := hr.inj
  okf := fun b hb => (hn b hb).elim (hr.okf b) (fun h => ⟨h.1, h.2.2⟩)
  blt := hr.blt
  prot := hr.prot
  gsz := hr.gsz
  os := hr.os
  out := hr.out
  tape := hr.tape
  ok0 := fun b hb => ho b (hr.ok0 b hb)
  org := fun b hb => (hn b hb).elim (hr.org b) (fun h => .inr (.inl h.2.1))
theorem Rep.addOk {S : St} {a : Act} (hr : Rep G S a w β ok) {ok' : Nat → Prop} (ho : ∀ b, ok b → ok' b) (hn : ∀ b, ok' b → ok b ∨ (b < w.heap.size ∧ G.w0.heap.size ≤ b ∧ ∀ k : Nat, β[k]? ≠ some (some b))) : Rep G S a w β ok' :=
  { hr.toRepB.addOk ho hn with hd := hr.hd, hs := hr.hs, sl := fun t d ht => ⟨(hr.sl t d ht).1, (hr.sl t d ht).2.mono (RepB.stayOk ho)⟩ }
/-- A new block that nobody will write. -/
theorem Rep.newOk {S : St} {a : Act} (hr : Rep G S a w β ok) (o : Obj) : Rep G S a (w.alloc o) β (fun b => ok b ∨ b = w.heap.size) :=
  (hr.grow (Chg.alloc w o _)).addOk (fun _ h => .inl h) (fun b hb => hb.elim .inl fun e => .inr ⟨by rw [e, alloc_size]; omega, by rw [e]; exact hr.gsz, fun k hk => by
    have := (hr.blt k b hk).1; omega⟩)

/-- A new box. -/
theorem stayBox (o : Option Nat) : StayB w w ok ok β (β ++ [o]) where
  ho := fun _ h => h
  hw := fun _ _ => rfl
  hβ := fun k o' h => by
    have : k < β.length := (List.getElem?_eq_some_iff.1 h).1
    rw [List.getElem?_append_left this]; exact h
  hz := fun _ _ cells _ _ hc => ⟨cells, hc, rfl⟩
theorem RepB.newBox (hr : RepB G bx w β ok) {o : Option Nat} {b : Box} (hb : BoxOk w ok (β ++ [o]) o b)
    (hn : ∀ n, o = some n → n < w.heap.size ∧ G.w0.heap.size ≤ n ∧ ¬ ok n ∧ ∀ k : Nat, β[k]? ≠ some (some n)) : RepB G (bx ++ [b]) w (β ++ [o]) ok where
  len := by simp [hr.len]
  bxs := fun k b' o' h1 h2 => by
    rcases Nat.lt_or_ge k bx.length with hk | hk
    · rw [List.getElem?_append_left hk] at h1
      rw [List.getElem?_append_left (hr.len ▸ hk)] at h2
      exact (hr.bxs k b' o' h1 h2).mono (stayBox o) (fun _ _ => rfl)
    · have hk' : k = bx.length := by
        have := (List.getElem?_eq_some_iff.1 h1).1
        simp at this; omega
      subst hk'
      rw [List.getElem?_append_right (Nat.le_refl _)] at h1
      rw [List.getElem?_append_right (by rw [hr.len]; exact Nat.le_refl _)] at h2
      simp [hr.len] at h1 h2
      subst h1 h2; exact hb
  inj := fun k k' n h1 h2 => by
    have hlt : ∀ {j : Nat}, (β ++ [o])[j]? = some (some n) → β[j]? = some (some n) ∨ (j = β.length ∧ o = some n) := fun {j} hj => by
      rcases Nat.lt_or_ge j β.length with hk | hk
      · rw [List.getElem?_append_left hk] at hj; exact .inl hj
      · have hk' : j = β.length := by
          have := (List.getElem?_eq_some_iff.1 hj).1
          simp at this; omega
        subst hk'
        rw [List.getElem?_append_right (Nat.le_refl _)] at hj
        simp at hj
        exact .inr ⟨rfl, hj⟩
    rcases hlt h1 with e1 | ⟨e1, e2⟩ <;> rcases hlt h2 with f1 | ⟨f1, f2⟩
    · exact hr.inj k k' n e1 f1
    · exact absurd e1 ((hn n f2).2.2.2 k)
    · exact absurd f1 ((hn n e2).2.2.2 k')
    · rw [e1, f1]
  okf := fun n h => ⟨(hr.okf n h).1, fun k hk => by
    rcases Nat.lt_or_ge k β.length with h' | h'
    · rw [List.getElem?_append_left h'] at hk; exact (hr.okf n h).2 k hk
    · have hk' : k = β.length := by
        have := (List.getElem?_eq_some_iff.1 hk).1
        simp at this; omega
      subst hk'
      rw [List.getElem?_append_right (Nat.le_refl _)] at hk
      simp at hk
      exact (hn n hk).2.2.1 h⟩
  blt := fun k n hk => by
    rcases Nat.lt_or_ge k β.length with h' | h'
    · rw [List.getElem?_append_left h'] at hk; exact hr.blt k n hk
    · have hk' : k = β.length := by
        have := (List.getElem?_eq_some_iff.1 hk).1
        simp at this; omega
      subst hk'
      rw [List.getElem?_append_right (Nat.le_refl _)] at hk
      simp at hk
      exact ⟨(hn n hk).1, .inl (hn n hk).2.1⟩
  prot := hr.prot
  gsz := hr.gsz
  os := hr.os
  out := hr.out
  tape := hr.tape
  ok0 := hr.ok0
  org := hr.org
theorem Rep.newBox {sl : List (Nat × Dat)} {n : Nat} {a : Act} (hr : Rep G ⟨sl, bx, n⟩ a w β ok) {o : Option Nat} {b : Box} (hb : BoxOk w ok (β ++ [o]) o b)
    (hn : ∀ n, o = some n → n < w.heap.size ∧ G.w0.heap.size ≤ n ∧ ¬ ok n ∧ ∀ k : Nat, β[k]? ≠ some (some n)) : Rep G ⟨sl, bx ++ [b], n⟩ a w (β ++ [o]) ok :=
  { hr.toRepB.newBox hb hn with hd := hr.hd, hs := hr.hs, sl := fun t d ht => ⟨(hr.sl t d ht).1, (hr.sl t d ht).2.mono (stayBox o)⟩ }
/-- A variable of its own block. -/
theorem Rep.newVar {sl : List (Nat × Dat)} {n : Nat} {a : Act} (hr : Rep G ⟨sl, bx, n⟩ a w β ok) {cs : List Dat} {vs : List Value} {t : TypeId} (he : EncB w ok β cs vs) (h1 : ∀ v ∈ vs, one v = true) :
    Rep G ⟨sl, bx ++ [.var cs t], n⟩ a (w.alloc (.cells vs.toArray t (0, 0))) (β ++ [some w.heap.size]) ok := by
  have hg := hr.grow (Chg.alloc w (.cells vs.toArray t (0, 0)) _)
  refine hg.newBox (.var (alloc_new _ _) ((he.mono (hr.toRepB.stay (Chg.alloc w _ _))).mono (stayBox _)) h1) (fun m hm => ?_)
  obtain rfl := Option.some.inj hm
  refine ⟨by rw [alloc_size]; omega, hr.gsz, fun h => ?_, fun k hk => ?_⟩
  · have := (hr.okf _ h).1; omega
  · have := (hr.blt k _ hk).1; omega

/-- A box's block is written. -/
theorem RepB.stayK (hr : RepB G bx w β ok) {k blk : Nat} (hk : β[k]? = some (some blk)) (hc : Chg w w' (· = blk)) {cells cells' : Array Value} {t : TypeId}
    (h0 : w.heap[blk]? = some (.cells cells t (0, 0))) (h1 : w'.heap[blk]? = some (.cells cells' t (0, 0))) (hs : cells'.size = cells.size) : StayB w w' ok ok β β where
  ho := fun _ h => h
  hw := fun b hb => hc.keep b (hr.okf b hb).1 (fun e => (hr.okf b hb).2 k (e ▸ hk))
  hβ := fun _ _ h => h
  hz := fun j b cs u hj hcs => by
    by_cases e : b = blk
    · subst e
      rw [h0] at hcs
      injection hcs with hcs; injection hcs with e1 e2 e3
      subst e1 e2
      exact ⟨cells', h1, hs⟩
    · exact ⟨cs, by rw [hc.keep b (hr.blt j b hj).1 e]; exact hcs, rfl⟩
theorem RepB.set (hr : RepB G bx w β ok) {k blk : Nat} (hk : β[k]? = some (some blk)) (hc : Chg w w' (· = blk)) {cells cells' : Array Value} {t : TypeId}
    (h0 : w.heap[blk]? = some (.cells cells t (0, 0))) (h1 : w'.heap[blk]? = some (.cells cells' t (0, 0))) (hs : cells'.size = cells.size) {b : Box} (hb : BoxOk w' ok β (some blk) b) : RepB G (bx.set k b) w' β ok where
  len := by simp [hr.len]
  bxs := fun j b' o h2 h3 => by
    by_cases e : k = j
    · subst e
      have hlt : k < bx.length := by
        have := (List.getElem?_eq_some_iff.1 h2).1; simpa using this
      rw [List.getElem?_set_self hlt] at h2
      obtain rfl := Option.some.inj h2
      rw [hk] at h3
      obtain rfl := Option.some.inj h3
      exact hb
    · rw [List.getElem?_set_ne e] at h2
      refine (hr.bxs j b' o h2 h3).mono (hr.stayK hk hc h0 h1 hs) (fun n hn => ?_)
      subst hn
      refine hc.keep n (hr.blt j n h3).1 (fun e' => ?_)
      subst e'
      exact e (hr.inj k j n hk h3)
  inj := hr.inj
  okf := fun b hb => ⟨Nat.lt_of_lt_of_le (hr.okf b hb).1 hc.size, (hr.okf b hb).2⟩
  blt := fun j n hj => ⟨Nat.lt_of_lt_of_le (hr.blt j n hj).1 hc.size, (hr.blt j n hj).2⟩
  prot := fun n hn ho => by
    refine (hc.keep n (Nat.lt_of_lt_of_le hn hr.gsz) (fun e => ?_)).trans (hr.prot n hn ho)
    subst e
    rcases (hr.blt k _ hk).2 with h | h
    · omega
    · exact ho h
  gsz := Nat.le_trans hr.gsz hc.size
  os := hc.os.trans hr.os
  out := hc.out.trans hr.out
  tape := hc.tape.trans hr.tape
  ok0 := hr.ok0
  org := hr.org
theorem Rep.set {sl : List (Nat × Dat)} {n : Nat} {a : Act} (hr : Rep G ⟨sl, bx, n⟩ a w β ok) {k blk : Nat} (hk : β[k]? = some (some blk)) (hc : Chg w w' (· = blk)) {cells cells' : Array Value} {t : TypeId}
    (h0 : w.heap[blk]? = some (.cells cells t (0, 0))) (h1 : w'.heap[blk]? = some (.cells cells' t (0, 0))) (hs : cells'.size = cells.size) {b : Box} (hb : BoxOk w' ok β (some blk) b) : Rep G ⟨sl, bx.set k b, n⟩ a w' β ok :=
  { hr.toRepB.set hk hc h0 h1 hs hb with hd := hr.hd, hs := hr.hs, sl := fun t d ht => ⟨(hr.sl t d ht).1, (hr.sl t d ht).2.mono (hr.toRepB.stayK hk hc h0 h1 hs)⟩ }

/-- Fewer slots are told, in whatever order. -/
theorem Rep.forget {sl sl' : List (Nat × Dat)} {n : Nat} {a : Act} (hr : Rep G ⟨sl, bx, n⟩ a w β ok) (h : ∀ t d, lk sl' t = some d → lk sl t = some d) : Rep G ⟨sl', bx, n⟩ a w β ok :=
  { hr.toRepB with hd := hr.hd, hs := hr.hs, sl := fun t d ht => hr.sl t d (h t d ht) }
end
end Go.Am
