/- A small program logic over the kit's wp. Part 8: slices, strings, bytes; steps of the state alone. -/
import Derived.Test.YtbogkjbjgcclnaaAm7
import Derived.Lib.ConvBytes
import Derived.Laws.BytesString
import Derived.Laws.AppendOwn
namespace Go.Am
open Go.RowKit Go.Lib
section
variable {X : Prg} {ops : Array Oper} {rest : List Oper} {op : Op} {ty : TypeId} {pos : String} {after : Array Edge} {t : Nat} {d : Dat} {sl : List (Nat × Dat)} {bx : List Box} {n : Nat} {Q : Exit → St → Prop}
  {w : World} {ok : Nat → Prop} {β : List (Option Nat)}

/-! ### a slice of a slice -/
/-- A bound: none, or a number that fits. -/
inductive Bd (sl : List (Nat × Dat)) : Option Operand → Nat → Nat → Prop
  | none {m : Nat} : Bd sl none m m
  | some {x : Operand} {k : IntKind} {j : Int} {m : Nat} (h : ev sl x = some (.val (.int k j))) (h0 : 0 ≤ j) : Bd sl (some x) m j.toNat
theorem bound_run {a : Act} (kn : Kn sl a w β ok) {P : Program} {x : Operand} {k : IntKind} {j : Int} (h : ev sl x = some (.val (.int k j))) (h0 : 0 ≤ j) {y : Nat} (hy : j.toNat ≤ y) (code : BoundsCode) : (Instr.sliceBound (a.eval x) y code).run P w = .ok j.toNat w := by
  have e := (kn x _ h).val_inv.1
  have : 0 ≤ j ∧ j ≤ (y : Int) := ⟨h0, by omega⟩
  simp [Instr.sliceBound, e, asIntOf, this]
theorem bounds_run {a : Act} (kn : Kn sl a w β ok) {P : Program} {lo hi : Option Operand} {i j len cap : Nat} (hlo : Bd sl lo 0 i) (hhi : Bd sl hi len j) (hij : i ≤ j) (hj : j ≤ len) (hc : len ≤ cap) (b : Bool) :
    (Instr.sliceBounds b len cap (lo.map a.eval) (hi.map a.eval) none).run P w = .ok (i, j, cap) w := by
  cases hlo <;> cases hhi
  · simp [Instr.sliceBounds]
  · rename_i x k q h h0
    have e := bound_run kn (P := P) h h0 (y := cap) (by omega) (if b then .sliceAcap else .sliceAlen)
    simp [Instr.sliceBounds, e]
  · rename_i x k q h h0
    have e := bound_run kn (P := P) h h0 (y := j) (by omega) .sliceB
    simp [Instr.sliceBounds, e]
  · rename_i x k q h h0 x' k' q' h' h0'
    have e := bound_run kn (P := P) h h0 (y := q'.toNat) hij .sliceB
    have e' := bound_run kn (P := P) h' h0' (y := cap) (by omega) (if b then .sliceAcap else .sliceAlen)
    simp [Instr.sliceBounds, e, e']
theorem TL.slice {xt : TypeId} {x : Operand} {lo hi : Option Operand} {i : TI} {e : TypeId} {ie : TI} {l : List Dat} (p q : Nat)
    (hi' : lkT X.tab xt = some i) (hd : i.desc = .slice e) (hie : lkT X.tab e = some ie) (hx : ev sl x = some (.sl ie.size l)) (hlo : Bd sl lo 0 p) (hhi : Bd sl hi l.length q) (hpq : p ≤ q) (hq : q ≤ l.length) (ht : Nat.blt t n = true)
    {l' : List Dat} (hl' : (l.take q).drop p = l') (hk : TL X ops rest ⟨(t, .sl ie.size l') :: sl, bx, n⟩ Q) :
    TL X ops ({ dst := some t, op := .slice xt x lo hi none, type := ty, pos := pos, after := after, guard := none } :: rest) ⟨sl, bx, n⟩ Q :=
  TL.run (d := .sl ie.size l') (fun a w β ok kn dst ty pos after g => by
    subst hl'
    have u1 := run_underlying' (X.tok _ _ hi') w
    have u2 := run_sizeOf' (X.tok _ _ hie) w
    rw [hd] at u1
    rcases (kn x _ hx).sl_inv with ⟨rfl, ex⟩ | ⟨pa, c, ex, hc, es⟩
    · have hb := bounds_run (P := X.P) kn hlo hhi hpq hq (Nat.le_refl _) true
      simp at hq
      subst hq
      have : p = 0 := by omega
      subst this
      simp only [List.length_nil] at hb
      refine ⟨.slice none 0 0, ?_, .closed (by simpa using Enc0.slnil)⟩
      simp [execOp, Instr.sliceAt, Instr.slice, u1, u2, ex, hb]
    · have hb := bounds_run (P := X.P) kn hlo hhi hpq hq hc true
      by_cases hcp : c = p
      · have hq' : q = p := by omega
        subst hcp hq'
        refine ⟨.slice (some pa) 0 0, ?_, .closed (.sl (by simp) (Nat.le_refl _) (by rw [List.drop_of_length_le (by simp; omega)]; exact .nil))⟩
        simp [execOp, Instr.sliceAt, Instr.slice, u1, u2, ex, hb]
      · refine ⟨.slice (some (pa.add (p * ie.size))) (q - p) (c - p), ?_, .closed (.sl (by simp; omega) (by omega) ((es.take q).drop p))⟩
        simp [execOp, Instr.sliceAt, Instr.slice, u1, u2, ex, hb, hcp]) ht hk
theorem TL.sliceStr {xt : TypeId} {x : Operand} {lo hi : Option Operand} {i : TI} {s : ByteArray} (p q : Nat)
    (hx : ev sl x = some (.val (.string s))) (hi' : lkT X.tab xt = some i) (hd : i.desc = .string) (hlo : Bd sl lo 0 p) (hhi : Bd sl hi s.size q) (hpq : p ≤ q) (hq : q ≤ s.size) (ht : Nat.blt t n = true)
    (hk : TL X ops rest ⟨(t, .val (.string (s.extract p q))) :: sl, bx, n⟩ Q) :
    TL X ops ({ dst := some t, op := .slice xt x lo hi none, type := ty, pos := pos, after := after, guard := none } :: rest) ⟨sl, bx, n⟩ Q :=
  TL.run (d := .val (.string (s.extract p q))) (fun a w β ok kn dst ty pos after g => by
    have u1 := run_underlying' (X.tok _ _ hi') w
    rw [hd] at u1
    have ex := (kn x _ hx).val_inv.1
    have hb := bounds_run (P := X.P) kn hlo hhi hpq hq (Nat.le_refl _) false
    exact ⟨_, by simp [execOp, Instr.sliceAt, Instr.slice, u1, ex, hb], .closed (.val rfl)⟩) ht hk
theorem TL.concat {t1 t2 : TypeId} {x y : Operand} {r s : ByteArray} (hx : ev sl x = some (.val (.string r))) (hy : ev sl y = some (.val (.string s))) (hb : r.size + s.size ≤ 9223372036854775807) (ht : Nat.blt t n = true)
    (hk : TL X ops rest ⟨(t, .val (.string (r ++ s))) :: sl, bx, n⟩ Q) :
    TL X ops ({ dst := some t, op := .binOp .add t1 x y t2, type := ty, pos := pos, after := after, guard := none } :: rest) ⟨sl, bx, n⟩ Q :=
  TL.run (d := .val (.string (r ++ s))) (fun a w β ok kn dst ty pos after g => by
    have ex := (kn x _ hx).val_inv.1
    have ey := (kn y _ hy).val_inv.1
    have hg := eqGuard_free (P := X.P) .add t1 x y (.string r) (.string s) w rfl
    have h' : (r.size : Int) + (s.size : Int) ≤ 9223372036854775807 := by omega
    exact ⟨.string (r ++ s), by simp [execOp, ex, ey, hg, binOp, Op.stringOp, h'], .closed (.val rfl)⟩) ht hk

/-! ### bytes and strings -/
def byteD (b : UInt8) : Dat := .val (.int .u8 b.toNat)
theorem TL.toBytes {st dt : TypeId} {x : Operand} {i1 i2 ie : TI} {e : TypeId} {s : ByteArray} (hx : ev sl x = some (.val (.string s))) (h1 : lkT X.tab st = some i1) (hd1 : i1.desc = .string) (h2 : lkT X.tab dt = some i2) (hd2 : i2.desc = .slice e)
    (h3 : lkT X.tab e = some ie) (hd3 : ie.desc = .int .u8) (ht : Nat.blt t n = true) (hk : TL X ops rest ⟨(t, .sl 1 (s.data.toList.map byteD)) :: sl, bx, n⟩ Q) :
    TL X ops ({ dst := some t, op := .convert st dt x, type := ty, pos := pos, after := after, guard := none } :: rest) ⟨sl, bx, n⟩ Q := fun G a w β ok hr => by
  have ex := (hr.kn x _ hx).val_inv.1
  have u1 := (X.tok _ _ h1).desc
  have u2 := (X.tok _ _ h2).desc
  have u3 := (X.tok _ _ h3).desc
  rw [hd1] at u1; rw [hd2] at u2; rw [hd3] at u3
  have hrun := Go.Lib.run_convert_string_bytes (P := X.P) w st dt e s u1 u2 u3
  have hc : Chg w (bytesWorld w e s) (fun _ => False) := ⟨rfl, rfl, rfl, by rw [bytesWorld_size]; omega, fun b hb _ => bytesWorld_at_old w e s b hb⟩
  have hr' := (hr.grow hc).addOk (ok' := fun b => ok b ∨ b = w.heap.size) (fun _ h => .inl h) (fun b hb => hb.elim .inl fun e' => .inr ⟨by rw [e', bytesWorld_size]; omega, by rw [e']; exact hr.gsz, fun k hk => by
    have := (hr.blt k b hk).1; omega⟩)
  have hES : ∀ (l : List UInt8) (off : Nat), (∀ j b, l[j]? = some b → (bytesWorld w e s).cell? ⟨w.heap.size, off + j, none⟩ = some (.int .u8 b.toNat)) → EncS (bytesWorld w e s) (fun b => ok b ∨ b = w.heap.size) 1 ⟨w.heap.size, off, none⟩ (l.map byteD) := by
    intro l
    induction l with
    | nil => intro off _; exact .nil
    | cons b l ih =>
      intro off h
      refine .cons rfl (.cons (.inr rfl) rfl (h 0 b rfl) rfl (.val rfl) .nil) ?_
      rw [addr_add]
      exact ih (off + 1) (fun j c hc => by
        have := h (j + 1) c (by simpa using hc)
        rwa [show off + 1 + j = off + (j + 1) by omega])
  refine wp_value (w1 := bytesWorld w e s) rfl ?_ (hk G _ _ β _ (hr'.put ht (.closed (.sl (n := s.size) (by simp) (grownCap_ge w s.size 0 e) (hES _ 0 (fun j b hj => ?_))))))
  · simp [execOp, ex, hrun]
  · have hlt : j < s.size := by
      have := (List.getElem?_eq_some_iff.1 hj).1; simpa using this
    rw [Nat.zero_add, bytesWorld_cell w e s j hlt]
    simp [List.getD_eq_getElem?_getD, hj]

theorem foldl_push (l : List UInt8) : ∀ acc : ByteArray, (l.map fun b => ((b.toNat : Nat) : Int)).foldl (fun r n => r.push (UInt8.ofNat n.toNat)) acc = ⟨(acc.data.toList ++ l).toArray⟩ := by
  induction l with
  | nil => intro acc; simp
  | cons b l ih =>
    intro acc
    simp only [List.map_cons, List.foldl_cons, ih]
    simp [ByteArray.push]
theorem EncS.bytes {a : Addr} : ∀ {bs : List UInt8}, EncS w ok 1 a (bs.map byteD) → ∀ j v, (bs.map fun b => Value.int .u8 b.toNat)[j]? = some v → w.cell? (a.add j) = some v
  | bs, h, j, v, hj => by
    simp only [List.getElem?_map, Option.map_eq_some_iff] at hj
    obtain ⟨b, hb, rfl⟩ := hj
    have := (h.get j (d := byteD b) (by simp [hb])).2
    rw [Nat.mul_one] at this
    cases this with
    | cons hb hs hc h1 h hr =>
      cases h with
      | val h => exact hc
theorem TL.toStr {st dt : TypeId} {x : Operand} {i1 i2 ie : TI} {e : TypeId} {bs : List UInt8} (hx : ev sl x = some (.sl 1 (bs.map byteD))) (h1 : lkT X.tab st = some i1) (hd1 : i1.desc = .slice e) (h2 : lkT X.tab dt = some i2) (hd2 : i2.desc = .string)
    (h3 : lkT X.tab e = some ie) (hd3 : ie.desc = .int .u8) (ht : Nat.blt t n = true) (hk : TL X ops rest ⟨(t, .val (.string ⟨bs.toArray⟩)) :: sl, bx, n⟩ Q) :
    TL X ops ({ dst := some t, op := .convert st dt x, type := ty, pos := pos, after := after, guard := none } :: rest) ⟨sl, bx, n⟩ Q :=
  TL.run (d := .val (.string ⟨bs.toArray⟩)) (fun a w β ok kn dst ty pos after g => by
    have u1 := run_underlying' (X.tok _ _ h1) w
    have u2 := run_underlying' (X.tok _ _ h2) w
    have u3 := run_underlying' (X.tok _ _ h3) w
    rw [hd1] at u1; rw [hd2] at u2; rw [hd3] at u3
    refine ⟨.string ⟨bs.toArray⟩, ?_, .closed (.val rfl)⟩
    rcases (kn x _ hx).sl_inv with ⟨h0, ex⟩ | ⟨pa, c, ex, hc, es⟩
    · have : bs = [] := by simpa using h0
      subst this
      simp [execOp, convert, u1, u2, u3, ex, Conv.bytesToString]
      rfl
    · have hl := loadCells_all X.P (w := w) (n := bs.length) (a := pa) (vs := bs.map fun b => Value.int .u8 b.toNat) (by simp) es.bytes
      have hrun := run_bytesToString (P := X.P) w pa bs.length c (bs.map fun b => ((b.toNat : Nat) : Int)) (by rw [hl]; simp)
      rw [foldl_push] at hrun
      simp at ex
      simp [execOp, convert, u1, u2, u3, ex, hrun]) ht hk

/-! ### steps of the state alone -/
def Gst (S S' : St) : Prop := ∀ G a w β ok, Rep G S a w β ok → ∃ β' ok', Rep G S' a w β' ok'
theorem T.ghost {c : Code} {S S' : St} (g : Gst S S') (h : T X c S' Q) : T X c S Q := fun G a w β ok hr => let ⟨β', ok', hr'⟩ := g G a w β ok hr; h G a w β' ok' hr'
theorem TL.ghost {l : List Oper} {S S' : St} (g : Gst S S') (h : TL X ops l S' Q) : TL X ops l S Q := fun G a w β ok hr => let ⟨β', ok', hr'⟩ := g G a w β ok hr; h G a w β' ok' hr'
theorem Gst.trans {S S' S'' : St} (g : Gst S S') (g' : Gst S' S'') : Gst S S'' := fun G a w β ok hr => let ⟨β', ok', hr'⟩ := g G a w β ok hr; g' G a w β' ok' hr'
theorem Gst.only {sl' : List (Nat × Dat)} (ks : List Nat) (h : only ks sl [] = some sl') : Gst ⟨sl, bx, n⟩ ⟨sl', bx, n⟩ := fun _ _ _ β ok hr => ⟨β, ok, hr.forget (only_lk ks sl [] sl' h (fun _ _ h => by simp [lk] at h))⟩
/-- A slot's content, spelled otherwise. -/
theorem Gst.recast {d' : Dat} (hl : lk sl t = some d) (h : ∀ w ok β v, Enc w ok β d v → Enc w ok β d' v) : Gst ⟨sl, bx, n⟩ ⟨(t, d') :: sl, bx, n⟩ := fun G a w β ok hr => by
  refine ⟨β, ok, { hr.toRepB with hd := hr.hd, hs := hr.hs, sl := ?_ }⟩
  intro s e hs
  rw [lk_cons] at hs
  split at hs
  · rename_i e'; subst e'
    obtain rfl := Option.some.inj hs
    exact ⟨(hr.sl _ _ hl).1, h _ _ _ _ (hr.sl _ _ hl).2⟩
  · exact hr.sl s e hs
theorem Enc.nil_sl {sz : Nat} {v : Value} (h : Enc w ok β (.val (.slice none 0 0)) v) : Enc w ok β (.sl sz []) v := by
  rw [h.val_inv.1]; exact .closed .slnil
theorem Gst.nilSl (sz : Nat) (hl : lk sl t = some (.val (.slice none 0 0))) : Gst ⟨sl, bx, n⟩ ⟨(t, .sl sz []) :: sl, bx, n⟩ := Gst.recast hl (fun _ _ _ _ h => h.nil_sl)
end
end Go.Am
