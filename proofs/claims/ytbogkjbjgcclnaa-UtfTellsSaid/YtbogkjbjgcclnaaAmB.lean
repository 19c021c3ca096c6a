/- A small program logic over the kit's wp. Part 11: arrays; what was written is given up for writing. -/
import Derived.Test.YtbogkjbjgcclnaaAmA
namespace Go.Am
open Go.RowKit
mutual
/-- Does it not name box k? -/
def nr (k : Nat) : Dat → Bool
  | .val _ | .sl _ _ | .nod _ | .dead => true
  | .ptr j _ => !Nat.beq j k
  | .os _ j _ _ => !Nat.beq j k
  | .agg cs | .tup cs => nrL k cs
  | .fn _ a b => nrL k a && nrL k b
  | .ifc _ d => nr k d
def nrL (k : Nat) : List Dat → Bool
  | [] => true
  | d :: r => nr k d && nrL k r
end
def nrBox (k : Nat) : Box → Bool
  | .var cs _ => nrL k cs
  | _ => true
def nrBx (k : Nat) : List Box → Bool
  | [] => true
  | b :: r => nrBox k b && nrBx k r
theorem nrBx_get {k : Nat} : ∀ {bx : List Box}, nrBx k bx = true → ∀ {j : Nat} {b : Box}, bx[j]? = some b → nrBox k b = true
  | b :: r, h, 0, b', hj => by simp [nrBx] at h hj; subst hj; exact h.1
  | b :: r, h, j + 1, b', hj => by simp [nrBx] at h hj; exact nrBx_get h.2 hj
section
variable {w : World} {ok ok' : Nat → Prop} {β : List (Option Nat)} {k : Nat} {o : Option Nat}
theorem ne_of_beq {j : Nat} (h : (!Nat.beq j k) = true) : k ≠ j := by
  rintro rfl; simp at h
mutual
theorem Enc.nr (ho : ∀ b, ok b → ok' b) : ∀ {d : Dat} {v : Value}, Enc w ok β d v → Go.Am.nr k d = true → Enc w ok' (β.set k o) d v
  | _, _, .closed h, _ => .closed (h.mono ⟨ho, fun _ _ => rfl⟩)
  | _, _, .agg h1 h, hc => .agg h1 (EncB.nr ho h (by simpa [Go.Am.nr] using hc))
  | _, _, .tup h, hc => .tup (EncB.nr ho h (by simpa [Go.Am.nr] using hc))
  | _, _, .fn h1 h2, hc => .fn (EncB.nr ho h1 (by simp [Go.Am.nr] at hc; exact hc.1)) (EncB.nr ho h2 (by simp [Go.Am.nr] at hc; exact hc.2))
  | _, _, .ifc h, hc => .ifc (Enc.nr ho h (by simpa [Go.Am.nr] using hc))
  | _, _, .ptr h, hc => .ptr (by rw [List.getElem?_set_ne (ne_of_beq (by simpa [Go.Am.nr] using hc))]; exact h)
  | _, _, .osnil h, hc => .osnil (by rw [List.getElem?_set_ne (ne_of_beq (by simpa [Go.Am.nr] using hc))]; exact h)
  | _, _, .os h hb hn hm hcp, hc => .os (by rw [List.getElem?_set_ne (ne_of_beq (by simpa [Go.Am.nr] using hc))]; exact h) hb hn hm hcp
  | _, _, .dead, _ => .dead
theorem EncB.nr (ho : ∀ b, ok b → ok' b) : ∀ {ds : List Dat} {vs : List Value}, EncB w ok β ds vs → nrL k ds = true → EncB w ok' (β.set k o) ds vs
  | _, _, .nil, _ => .nil
  | _, _, .cons h hr, hc => .cons (Enc.nr ho h (by simp [nrL] at hc; exact hc.1)) (EncB.nr ho hr (by simp [nrL] at hc; exact hc.2))
end
theorem BoxOk.nr (ho : ∀ b, ok b → ok' b) {o' : Option Nat} {b : Box} (h : BoxOk w ok β o' b) (hc : nrBox k b = true) : BoxOk w ok' (β.set k o) o' b := by
  cases h with
  | var hb h h1 => exact .var hb (h.nr ho (by simpa [nrBox] using hc)) h1
  | anil => exact .anil
  | arr hb h h1 hz => exact .arr hb (h.mono ⟨ho, fun _ _ => rfl⟩) h1 hz
  | gone => exact .gone
end

section
variable {X : Prg} {ops : Array Oper} {rest : List Oper} {op : Op} {ty : TypeId} {pos : String} {after : Array Edge} {t : Nat} {d : Dat} {sl : List (Nat × Dat)} {bx : List Box} {n : Nat} {Q : Exit → St → Prop}
  {G : Gh} {w : World} {ok : Nat → Prop} {β : List (Option Nat)}

/-- Box k's block is given up for writing. -/
theorem RepB.give (hr : RepB G bx w β ok) {k b : Nat} (hk : β[k]? = some (some b)) (hn : nrBx k bx = true) : RepB G (bx.set k .gone) w (β.set k none) (fun m => ok m ∨ m = b) where
  len := by simp [hr.len]
  bxs := fun j b' o h1 h2 => by
    by_cases e : k = j
    · subst e
      have hlt : k < bx.length := by have := (List.getElem?_eq_some_iff.1 h1).1; simpa using this
      rw [List.getElem?_set_self hlt] at h1
      obtain rfl := Option.some.inj h1
      exact .gone
    · rw [List.getElem?_set_ne e] at h1 h2
      exact (hr.bxs j b' o h1 h2).nr (fun _ h => .inl h) (nrBx_get hn h1)
  inj := fun j j' m h1 h2 => by
    have hne : ∀ {i : Nat}, (β.set k none)[i]? = some (some m) → β[i]? = some (some m) := fun {i} hi => by
      by_cases e : k = i
      · subst e
        have hlt : k < β.length := by have := (List.getElem?_eq_some_iff.1 hk).1; exact this
        rw [List.getElem?_set_self hlt] at hi; cases hi
      · rwa [List.getElem?_set_ne e] at hi
    exact hr.inj j j' m (hne h1) (hne h2)
  okf := fun m hm => by
    refine ⟨hm.elim (fun h => (hr.okf m h).1) (fun e => e ▸ (hr.blt k b hk).1), fun j hj => ?_⟩
    by_cases e : k = j
    · subst e
      have hlt : k < β.length := (List.getElem?_eq_some_iff.1 hk).1
      rw [List.getElem?_set_self hlt] at hj; cases hj
    · rw [List.getElem?_set_ne e] at hj
      rcases hm with h | h
      · exact (hr.okf m h).2 j hj
      · subst h; exact e (hr.inj k j m hk hj)
  blt := fun j m hj => by
    by_cases e : k = j
    · subst e
      have hlt : k < β.length := (List.getElem?_eq_some_iff.1 hk).1
      rw [List.getElem?_set_self hlt] at hj; cases hj
    · rw [List.getElem?_set_ne e] at hj; exact hr.blt j m hj
  prot := hr.prot
  gsz := hr.gsz
  os := hr.os
  out := hr.out
  tape := hr.tape
  ok0 := fun m h => .inl (hr.ok0 m h)
  org := fun m h => h.elim (hr.org m) (fun e => e ▸ .inr (hr.blt k b hk).2)

def frzD (k : Nat) (cs : List Dat) : Dat → Option Dat
  | .ptr j off => bif Nat.beq j k then dropK off cs (fun r => some (.nod r)) else some (.ptr j off)
  | d => bif nr k d then some d else none
def frzS (k : Nat) (cs : List Dat) : List (Nat × Dat) → List (Nat × Dat) → Option (List (Nat × Dat))
  | [], acc => some acc
  | (t, d) :: r, acc => match frzD k cs d with | some d' => frzS k cs r ((t, d') :: acc) | none => none
theorem frzS_lk {k : Nat} {cs : List Dat} (P : Nat → Dat → Prop) : ∀ (l acc l' : List (Nat × Dat)), frzS k cs l acc = some l' → (∀ t d, lk acc t = some d → P t d) → (∀ t d d', (t, d) ∈ l → frzD k cs d = some d' → P t d') → ∀ t d, lk l' t = some d → P t d
  | [], acc, l', h, ha, _ => by simp only [frzS, Option.some.injEq] at h; subst h; exact ha
  | (t, d) :: r, acc, l', h, ha, hl => by
    simp only [frzS] at h
    split at h
    · rename_i d' hd
      refine frzS_lk P r _ l' h (fun s e he => ?_) (fun s e e' hm => hl s e e' (List.mem_cons_of_mem _ hm))
      rw [lk_cons] at he
      split at he
      · rename_i e'; subst e'
        obtain rfl := Option.some.inj he
        exact hl t d _ List.mem_cons_self hd
      · exact ha s e he
    · cases h
theorem only_mem : ∀ (ks : List Nat) (sl acc sl' : List (Nat × Dat)), Go.Am.only ks sl acc = some sl' → (∀ p ∈ acc, lk sl p.1 = some p.2) → ∀ p ∈ sl', lk sl p.1 = some p.2
  | [], sl, acc, sl', h, ha => by simp only [only, Option.some.injEq] at h; subst h; exact ha
  | k :: ks, sl, acc, sl', h, ha => by
    simp only [only] at h
    split at h
    · rename_i d hd
      refine only_mem ks sl _ sl' h (fun p hp => ?_)
      rcases List.mem_cons.1 hp with rfl | hp
      · exact hd
      · exact ha p hp
    · cases h
/-- A variable that nobody writes any more: pointers to it lead to its content. -/
theorem Gst.freeze {k : Nat} {cs : List Dat} {e : TypeId} (ks : List Nat) (hb : atBox bx k = some (cs, e)) (hc : cloL cs = true) (hn : nrBx k bx = true) {sl1 sl2 : List (Nat × Dat)} (h1 : Go.Am.only ks sl [] = some sl1) (h2 : frzS k cs sl1 [] = some sl2)
    {bx' : List Box} (hbx : setK k .gone bx some = some bx') : Gst ⟨sl, bx, n⟩ ⟨sl2, bx', n⟩ := fun G a w β ok hr => by
  obtain rfl := Option.some.inj (setK_eq _ _ _ _ _ hbx)
  have hk : k < β.length := by
    rw [hr.len]; exact (List.getElem?_eq_some_iff.1 (atBox_get hb)).1
  obtain ⟨b, vs, e1, e2, e3, e4⟩ := (hr.bxs k _ _ (atBox_get hb) (List.getElem?_eq_getElem hk)).var_inv
  have hk' : β[k]? = some (some b) := by rw [List.getElem?_eq_getElem hk, e1]
  have hg := hr.toRepB.give hk' hn
  refine ⟨β.set k none, fun m => ok m ∨ m = b, { hg with hd := hr.hd, hs := hr.hs, sl := ?_ }⟩
  refine frzS_lk (fun t d => t < n ∧ Enc w (fun m => ok m ∨ m = b) (β.set k none) d (a.tmps.getD t undef)) sl1 [] sl2 h2 (fun t d h => by simp [lk] at h) (fun t d d' hm hd => ?_)
  have ht := hr.sl t d (only_mem ks sl [] sl1 h1 (fun p hp => by simp at hp) (t, d) hm)
  refine ⟨ht.1, ?_⟩
  have hnr : ∀ {d : Dat}, Enc w ok β d (a.tmps.getD t undef) → nr k d = true → Enc w (fun m => ok m ∨ m = b) (β.set k none) d (a.tmps.getD t undef) := fun he hn => he.nr (fun _ h => .inl h) hn
  unfold frzD at hd
  split at hd
  · rename_i j off
    cases hj : Nat.beq j k with
    | true =>
      have := Nat.eq_of_beq_eq_true hj
      subst this
      rw [hj] at hd
      have hd' := dropK_eq _ _ _ _ hd
      obtain rfl := Option.some.inj hd'.2
      obtain ⟨b', hv, hb'⟩ := ht.2.ptr_inv
      rw [hk'] at hb'
      obtain rfl := Option.some.inj (Option.some.inj hb')
      rw [hv]
      refine .closed (.nod ?_)
      have h0 : EncL w (fun m => ok m ∨ m = b) cs vs := (e3.clo hc).mono ⟨fun _ h => .inl h, fun _ _ => rfl⟩
      have := (EncL.toC e2 (.inr rfl) 0 h0 e4 (fun j v hv => by simpa using hv)).drop off
      rwa [addr_add, Nat.zero_add] at this
    | false =>
      rw [hj] at hd
      obtain rfl := Option.some.inj hd
      exact hnr ht.2 (by simp [nr, hj])
  · cases hn' : nr k d with
    | true => rw [hn'] at hd; obtain rfl := Option.some.inj hd; exact hnr ht.2 hn'
    | false => rw [hn'] at hd; cases hd

/-! ### arrays -/
theorem TL.indexArr {xt : TypeId} {x ix : Operand} {i : TI} {len : Nat} {e : TypeId} {ie : TI} {k off : Nat} {ki : IntKind} {j : Int}
    (hi : lkT X.tab xt = some i) (hd : i.desc = .array len e) (hie : lkT X.tab e = some ie) (hx : ev sl x = some (.ptr k off)) (hj : ev sl ix = some (.val (.int ki j)))
    (h0 : 0 ≤ j ∧ j < (len : Int)) (ht : Nat.blt t n = true) (hk : TL X ops rest ⟨(t, .ptr k (off + j.toNat * ie.size)) :: sl, bx, n⟩ Q) :
    TL X ops ({ dst := some t, op := .indexAddr xt x ix, type := ty, pos := pos, after := after, guard := none } :: rest) ⟨sl, bx, n⟩ Q :=
  TL.run (d := .ptr k (off + j.toNat * ie.size)) (fun a w β ok kn dst ty pos after g => by
    obtain ⟨b, ex, hb⟩ := (kn x _ hx).ptr_inv
    have ej := (kn ix _ hj).val_inv.1
    have u1 := run_underlying' (X.tok _ _ hi) w
    have u2 := run_sizeOf' (X.tok _ _ hie) w
    rw [hd] at u1
    exact ⟨.pointer (some ⟨b, off + j.toNat * ie.size, none⟩), by simp [execOp, Instr.indexAt, asIntOf, ex, ej, u1, u2, h0, Instr.sureAddr, addr_add], .ptr hb⟩) ht hk
theorem Enc0.one_cells {d : Dat} {v : Value} (h : Enc0 w ok d v) (h1 : one v = true) : d.cells = [d] := by
  cases h <;> first | rfl | simp [one] at h1
theorem EncC.toS {a : Addr} : ∀ {ds : List Dat}, EncC w ok a ds → EncS w ok 1 a ds
  | [], _ => .nil
  | d :: ds, .cons hb hs hc h1 h hr => .cons (by rw [h.one_cells h1]; rfl) (by rw [h.one_cells h1]; exact .cons hb hs hc h1 h .nil) hr.toS
/-- 'a[lo:hi:max]' of an array of one cell an element that nobody writes any more. -/
theorem TL.sliceArr {xt : TypeId} {x lo hi mx : Operand} {i : TI} {len : Nat} {e : TypeId} {ie : TI} {cs : List Dat} {k1 k2 k3 : IntKind} {p q m : Int}
    (hi' : lkT X.tab xt = some i) (hd : i.desc = .array len e) (hie : lkT X.tab e = some ie) (h1 : ie.size = 1) (hx : ev sl x = some (.nod cs)) (hp : ev sl lo = some (.val (.int k1 p))) (hq : ev sl hi = some (.val (.int k2 q))) (hm : ev sl mx = some (.val (.int k3 m)))
    (h0 : 0 ≤ p ∧ p ≤ q ∧ q ≤ m ∧ m ≤ (len : Int)) (hl : len ≤ cs.length) {l' : List Dat} (hl' : (cs.take q.toNat).drop p.toNat = l') (ht : Nat.blt t n = true) (hk : TL X ops rest ⟨(t, .sl 1 l') :: sl, bx, n⟩ Q) :
    TL X ops ({ dst := some t, op := .slice xt x (some lo) (some hi) (some mx), type := ty, pos := pos, after := after, guard := none } :: rest) ⟨sl, bx, n⟩ Q :=
  TL.run (d := .sl 1 l') (fun a w β ok kn dst ty pos after g => by
    subst hl'
    obtain ⟨b, ex, hb⟩ := (kn x _ hx).nod_inv
    have e1 := bound_run kn (P := X.P) hp h0.1 (y := q.toNat) (by omega) .slice3C
    have e2 := bound_run kn (P := X.P) hq (by omega) (y := m.toNat) (by omega) .slice3B
    have e3 := bound_run kn (P := X.P) hm (by omega) (y := len) (by omega) .slice3Alen
    have u1 := run_underlying' (X.tok _ _ hi') w
    have u2 := run_sizeOf' (X.tok _ _ hie) w
    rw [hd] at u1
    have hS := ((hb.take q.toNat).drop p.toNat).toS
    by_cases hmp : m.toNat = p.toNat
    · refine ⟨.slice (some b) (q.toNat - p.toNat) (m.toNat - p.toNat), ?_, .closed (.sl (by simp; omega) (by omega) (by rw [List.drop_of_length_le (by simp; omega)]; exact .nil))⟩
      rw [hmp] at e2 e3 ⊢
      simp [execOp, Instr.sliceAt, u1, u2, ex, Instr.sureAddr, Instr.sliceBounds, e1, e2, e3]
    · refine ⟨.slice (some (b.add (p.toNat * ie.size))) (q.toNat - p.toNat) (m.toNat - p.toNat), ?_, .closed (.sl (by simp; omega) (by omega) (by rw [h1, Nat.mul_one]; exact hS))⟩
      simp [execOp, Instr.sliceAt, u1, u2, ex, Instr.sureAddr, Instr.sliceBounds, e1, e2, e3, hmp]) ht hk
end
end Go.Am
