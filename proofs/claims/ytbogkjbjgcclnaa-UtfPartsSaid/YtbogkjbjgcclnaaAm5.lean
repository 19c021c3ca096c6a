/- A small program logic over the kit's wp. Part 5: the rules of the operations in a region. -/
import Derived.Test.YtbogkjbjgcclnaaAm4
namespace Go.Am
open Go.RowKit
section
variable {X : Prg} {ops : Array Oper} {rest : List Oper} {op : Op} {ty : TypeId} {pos : String} {after : Array Edge} {t : Nat} {d : Dat} {sl : List (Nat × Dat)} {bx : List Box} {n : Nat} {Q : Exit → St → Prop}

theorem Rep.kn {G : Gh} {a : Act} {w : World} {β : List (Option Nat)} {ok : Nat → Prop} (hr : Rep G ⟨sl, bx, n⟩ a w β ok) : Kn sl a w β ok := fun _ _ h => ev_enc hr h

/-- An operation of no effect, told by content alone. -/
theorem TL.pure (h : pureOp (lkT X.tab) op sl = some d) (ht : Nat.blt t n = true) (hk : TL X ops rest ⟨(t, d) :: sl, bx, n⟩ Q) :
    TL X ops ({ dst := some t, op := op, type := ty, pos := pos, after := after, guard := none } :: rest) ⟨sl, bx, n⟩ Q := fun G a w β ok hr => by
  obtain ⟨v, h1, h2⟩ := pureOp_run hr.kn h (some t) ty pos after none
  exact wp_value rfl h1 (hk G _ w β ok (hr.put ht h2))
/-- The same, its value spelled otherwise. -/
theorem TL.pure' {d' : Dat} (h : pureOp (lkT X.tab) op sl = some d) (he : d = d') (ht : Nat.blt t n = true) (hk : TL X ops rest ⟨(t, d') :: sl, bx, n⟩ Q) :
    TL X ops ({ dst := some t, op := op, type := ty, pos := pos, after := after, guard := none } :: rest) ⟨sl, bx, n⟩ Q := by
  subst he; exact TL.pure h ht hk
/-- Any operation whose value can be told, of no effect. -/
theorem TL.run (h : ∀ (a : Act) (w : World) (β : List (Option Nat)) (ok : Nat → Prop), Kn sl a w β ok → RunV X op a w β ok d) (ht : Nat.blt t n = true) (hk : TL X ops rest ⟨(t, d) :: sl, bx, n⟩ Q) :
    TL X ops ({ dst := some t, op := op, type := ty, pos := pos, after := after, guard := none } :: rest) ⟨sl, bx, n⟩ Q := fun G a w β ok hr => by
  obtain ⟨v, h1, h2⟩ := h a w β ok hr.kn (some t) ty pos after none
  exact wp_value rfl h1 (hk G _ w β ok (hr.put ht h2))

/-- Fewer slots. -/
def only : List Nat → List (Nat × Dat) → List (Nat × Dat) → Option (List (Nat × Dat))
  | [], _, acc => some acc
  | k :: ks, sl, acc => match lk sl k with | some d => only ks sl ((k, d) :: acc) | none => none
theorem only_lk : ∀ (ks : List Nat) (sl acc sl' : List (Nat × Dat)), only ks sl acc = some sl' → (∀ t d, lk acc t = some d → lk sl t = some d) → ∀ t d, lk sl' t = some d → lk sl t = some d
  | [], sl, acc, sl', h, ha => by
    simp only [only, Option.some.injEq] at h; subst h; exact ha
  | k :: ks, sl, acc, sl', h, ha => by
    simp only [only] at h
    split at h
    · rename_i d hd
      refine only_lk ks sl _ sl' h (fun t e he => ?_)
      rw [lk_cons] at he
      split at he
      · rename_i e'; subst e'; rw [hd]; exact he
      · exact ha t e he
    · cases h
theorem TL.only {l : List Oper} {sl' : List (Nat × Dat)} (ks : List Nat) (h : only ks sl [] = some sl') (hk : TL X ops l ⟨sl', bx, n⟩ Q) : TL X ops l ⟨sl, bx, n⟩ Q :=
  fun G a w β ok hr => hk G a w β ok (hr.forget (only_lk ks sl [] sl' h (fun _ _ h => by simp [lk] at h)))
theorem T.only {c : Code} {sl' : List (Nat × Dat)} (ks : List Nat) (h : Go.Am.only ks sl [] = some sl') (hk : T X c ⟨sl', bx, n⟩ Q) : T X c ⟨sl, bx, n⟩ Q :=
  fun G a w β ok hr => hk G a w β ok (hr.forget (only_lk ks sl [] sl' h (fun _ _ h => by simp [lk] at h)))

/-! ### elements and parts -/
theorem TL.indexAddr {xt : TypeId} {x ix : Operand} {i : TI} {e : TypeId} {ie : TI} {l : List Dat} {k : IntKind} {j : Int}
    (hi : lkT X.tab xt = some i) (hd : i.desc = .slice e) (hie : lkT X.tab e = some ie) (hx : ev sl x = some (.sl ie.size l)) (hj : ev sl ix = some (.val (.int k j)))
    (h0 : 0 ≤ j) (d : Dat) (hl : l[j.toNat]? = some d) (ht : Nat.blt t n = true) (hk : TL X ops rest ⟨(t, .nod d.cells) :: sl, bx, n⟩ Q) :
    TL X ops ({ dst := some t, op := .indexAddr xt x ix, type := ty, pos := pos, after := after, guard := none } :: rest) ⟨sl, bx, n⟩ Q :=
  TL.run (d := .nod d.cells) (fun a w β ok kn dst ty pos after g => by
    have ex := (kn x _ hx).sl_inv
    have ej := (kn ix _ hj).val_inv.1
    have hlt : j.toNat < l.length := (List.getElem?_eq_some_iff.1 hl).1
    rcases ex with ⟨rfl, _⟩ | ⟨p, c, ex, hc, es⟩
    · simp at hl
    · have u1 := run_underlying' (X.tok _ _ hi) w
      have u2 := run_sizeOf' (X.tok _ _ hie) w
      rw [hd] at u1
      have hjl : 0 ≤ j ∧ j < (l.length : Int) := ⟨h0, by omega⟩
      exact ⟨.pointer (some (p.add (j.toNat * ie.size))), by simp [execOp, Instr.indexAt, asIntOf, ex, ej, u1, u2, hjl], .closed (.nod (es.get _ hl).2)⟩) ht hk

theorem TL.indexStr {xt : TypeId} {x ix : Operand} {i : TI} {s : ByteArray} {k : IntKind} {j : Int}
    (hx : ev sl x = some (.val (.string s))) (hj : ev sl ix = some (.val (.int k j))) (hi : lkT X.tab xt = some i) (hd : i.desc = .string)
    (h0 : 0 ≤ j) (b : UInt8) (hl : s.data.toList[j.toNat]? = some b) (ht : Nat.blt t n = true) (hk : TL X ops rest ⟨(t, .val (.int .u8 b.toNat)) :: sl, bx, n⟩ Q) :
    TL X ops ({ dst := some t, op := .index xt x ix, type := ty, pos := pos, after := after, guard := none } :: rest) ⟨sl, bx, n⟩ Q :=
  TL.run (d := .val (.int .u8 b.toNat)) (fun a w β ok kn dst ty pos after g => by
    have ex := (kn x _ hx).val_inv.1
    have ej := (kn ix _ hj).val_inv.1
    have hl' : s[j.toNat]? = some b := by
      obtain ⟨h1, h2⟩ := List.getElem?_eq_some_iff.1 hl
      have h1' : j.toNat < s.size := by simpa using h1
      rw [getElem?_pos s j.toNat h1']
      congr 1
    have u1 := run_underlying' (X.tok _ _ hi) w
    rw [hd] at u1
    exact ⟨.int .u8 b.toNat, by simp [execOp, Instr.index, asIntOf, ex, ej, u1, h0, hl'], .closed (.val rfl)⟩) ht hk
end
end Go.Am
