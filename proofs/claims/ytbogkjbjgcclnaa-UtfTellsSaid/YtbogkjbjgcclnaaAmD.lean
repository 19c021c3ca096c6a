/- A small program logic over the kit's wp. Part 13: slices that are made of values. -/
import Derived.Test.YtbogkjbjgcclnaaAmC
namespace Go.Am
open Go.RowKit
section
variable {X : Prg} {ops : Array Oper} {rest : List Oper} {op : Op} {ty : TypeId} {pos : String} {after : Array Edge} {t : Nat} {d : Dat} {sl : List (Nat × Dat)} {bx : List Box} {n : Nat} {Q : Exit → St → Prop}
  {w : World} {ok : Nat → Prop} {β : List (Option Nat)}
theorem EncC.flat {sz : Nat} : ∀ {ds : List Dat} {a : Addr}, EncC w ok a (ds.flatMap Dat.cells) → (∀ d ∈ ds, d.cells.length = sz) → EncS w ok sz a ds
  | [], _, _, _ => .nil
  | d :: ds, a, h, hz => by
    have hd := hz d List.mem_cons_self
    simp only [List.flatMap_cons] at h
    have h1 := h.take d.cells.length
    have h2 := h.drop d.cells.length
    rw [List.take_left] at h1
    rw [List.drop_left] at h2
    rw [hd] at h2
    exact .cons hd h1 (EncC.flat h2 (fun e he => hz e (List.mem_cons_of_mem _ he)))
/-- The parts of a literal, each in its place. -/
def partsK (sz : Nat) (S : List (Nat × Dat)) : Nat → List (Nat × Operand) → Option (List Dat)
  | _, [] => some []
  | j, (i, x) :: r => match ev S x with
    | some d => match Nat.beq i j && (clo d && (live d && Nat.beq d.cells.length sz)) with
      | true => match partsK sz S (j + 1) r with
        | some ds => some (d :: ds)
        | none => none
      | false => none
    | none => none
theorem partsK_run {a : Act} (kn : Kn sl a w β ok) {sz : Nat} : ∀ {parts : List (Nat × Operand)} {j : Nat} {ds : List Dat} (cells : List Value), partsK sz sl j parts = some ds → cells.length = (j + parts.length) * sz →
    ∃ vs : List Value, Instr.fill (fun i => some (i * sz, sz)) cells.toArray (parts.map fun (i, x) => (i, a.eval x)) = some (cells.take (j * sz) ++ vs).toArray ∧ EncL w ok (ds.flatMap Dat.cells) vs ∧ (∀ v ∈ vs, one v = true) ∧ (∀ d ∈ ds, d.cells.length = sz) ∧ ds.length = parts.length
  | [], j, ds, cells, h, hc => by
    simp only [partsK, Option.some.injEq] at h; subst h
    exact ⟨[], by simp [Instr.fill]; exact (List.take_of_length_le (by simp at hc; omega)).symm, .nil, by simp, by simp, rfl⟩
  | (i, x) :: r, j, ds, cells, h, hc => by
    simp only [partsK] at h
    split at h
    · rename_i d hd
      split at h
      · rename_i hb
        simp only [Bool.and_eq_true] at hb
        obtain ⟨h1, h2, h3, h4⟩ := hb
        have hij := Nat.eq_of_beq_eq_true h1
        subst hij
        split at h
        · rename_i ds' hds
          obtain rfl := Option.some.inj h
          obtain ⟨us, e1, e2, e3⟩ := ((kn x d hd).cells h2).resolve_right (fun ⟨e, he⟩ => by subst he; simp [live] at h3)
          have hsz : us.length = sz := e2.length ▸ Nat.eq_of_beq_eq_true h4
          have hlen : cells.length = i * sz + (sz + r.length * sz) := by rw [hc]; simp only [List.length_cons]; rw [Nat.add_mul, Nat.add_mul]; omega
          have hfold : (us.toArray.zipIdx.foldl (fun cs (p : Value × Nat) => cs.setIfInBounds (i * sz + p.2) p.1) cells.toArray) = (cells.take (i * sz) ++ us ++ cells.drop (i * sz + us.length)).toArray := by
            apply Array.toList_inj.1
            have := foldl_set us cells.toArray (i * sz) 0 (by simp; omega)
            simpa using this
          obtain ⟨vs, g1, g2, g3, g4, g5⟩ := partsK_run kn (cells.take (i * sz) ++ us ++ cells.drop (i * sz + us.length)) hds (by simp only [List.length_append, List.length_take, List.length_drop]; rw [Nat.add_mul, Nat.add_mul]; omega)
          have htake : (cells.take (i * sz) ++ us ++ cells.drop (i * sz + us.length)).take ((i + 1) * sz) = cells.take (i * sz) ++ us := by
            rw [List.take_append_of_le_length (by simp; rw [Nat.add_mul]; omega), List.take_of_length_le (by simp; rw [Nat.add_mul]; omega)]
          rw [htake] at g1
          refine ⟨us ++ vs, ?_, by simpa using e2.append g2, fun v hv => ?_, fun e he => ?_, by simp [g5]⟩
          · show Instr.fill _ cells.toArray ((i, a.eval x) :: r.map fun (i, x) => (i, a.eval x)) = _
            unfold Instr.fill
            dsimp only
            rw [e1, if_neg (by simp; omega)]
            rw [← List.append_assoc]
            exact (congrArg (fun z => Instr.fill _ z (r.map fun (i, x) => (i, a.eval x))) hfold).trans g1
          · rcases List.mem_append.1 hv with hv | hv
            · exact e3 v hv
            · exact g3 v hv
          · rcases List.mem_cons.1 he with rfl | he
            · exact Nat.eq_of_beq_eq_true h4
            · exact g4 e he
        · cases h
      · cases h
    · cases h
/-- '[]T{..}' that nobody writes later. -/
theorem TL.lit {st : TypeId} {len sz : Nat} {parts : Array (Nat × Operand)} {i ie : TI} {e : TypeId} {ds : List Dat} (hi : lkT X.tab st = some i) (hd : i.desc = .slice e) (hie : lkT X.tab e = some ie) (hsz : ie.size = sz) (hlen : parts.toList.length = len) (hsm : Nat.ble (len * sz) 16777216 = true)
    (hp : partsK sz sl 0 parts.toList = some ds) (ht : Nat.blt t n = true) (hk : TL X ops rest ⟨(t, .sl sz ds) :: sl, bx, n⟩ Q) :
    TL X ops ({ dst := some t, op := .buildSlice st len parts, type := ty, pos := pos, after := after, guard := none } :: rest) ⟨sl, bx, n⟩ Q := fun G a w β ok hr => by
  subst hsz
  have u1 := run_underlying' (X.tok _ _ hi) w
  have u2 := run_sizeOf' (X.tok _ _ hie) w
  have u3 := run_zeroValue' (X.tok _ _ hie) w
  rw [hd] at u1
  have hsm' : ¬ (len * ie.size > 2 ^ 24) := by have := Nat.le_of_ble_eq_true hsm; omega
  let zs : Array Value := (Array.range (len * ie.size)).map fun q => ie.zero.cells[q % ie.zero.cells.size]!
  obtain ⟨vs, g1, g2, g3, g4, g5⟩ := partsK_run hr.kn zs.toList hp (by simp [zs, hlen])
  simp only [Nat.zero_mul, List.take_zero, List.nil_append] at g1
  have hr' := hr.newOk (.cells vs.toArray e (0, 0))
  have g2' : EncL (w.alloc (.cells vs.toArray e (0, 0))) (fun b => ok b ∨ b = w.heap.size) (ds.flatMap Dat.cells) vs := g2.mono ⟨fun _ h => .inl h, fun b hb => Below.heap_alloc w _ b (hr.okf b hb).1⟩
  have hC := EncL.toC (alloc_new w _) (.inr rfl) 0 g2' g3 (fun j v hv => by simpa using hv)
  refine wp_value (v := .slice (some ⟨w.heap.size, 0, none⟩) len len) (w1 := w.alloc (.cells vs.toArray e (0, 0))) rfl ?_ (hk G _ _ _ _ (hr'.put ht (.closed (.sl (by rw [g5, hlen]) (Nat.le_refl _) (hC.flat g4)))))
  have g1' : Instr.fill (fun q => some (q * ie.size, ie.size)) zs (parts.toList.map fun x => (x.1, a.eval x.2)) = some vs.toArray := by simpa using g1
  by_cases h0 : len * ie.size = 0
  · have hz0 : zs = #[] := by
      apply Array.toList_inj.1
      apply List.length_eq_zero_iff.1
      simp [zs, h0]
    rw [hz0] at g1'
    simp only [execOp, Instr.buildSlice]
    simp [u1, u2, h0, newRow, newObj]
    have e0 : (Array.map (fun _ : Nat => (default : Value)) (Array.range 0)) = #[] := by simp
    rw [e0, g1']
    rfl
  · simp only [execOp, Instr.buildSlice]
    simp [u1, u2, u3, hsm', h0, newRow, newObj]
    simp only [zs] at g1'
    rw [g1']
    rfl
/-! ### a region of open order, operation by operation -/
def OpsD (X : Prg) (l : List Oper) (vals : List Dat) (base : List (Nat × Dat)) (n : Nat) : Nat → List Oper → Prop
  | _, [] => True
  | i, o :: os => OpD X l vals base n i o ∧ OpsD X l vals base n (i + 1) os
theorem OpsD.get {X : Prg} {l : List Oper} {vals : List Dat} {base : List (Nat × Dat)} {n : Nat} : ∀ {os : List Oper} {k i : Nat} {o : Oper}, OpsD X l vals base n k os → os[i]? = some o → OpD X l vals base n (k + i) o
  | [], _, _, _, _, h => by simp at h
  | _ :: _, _, 0, _, h, hi => by
    simp only [List.getElem?_cons_zero, Option.some.injEq] at hi
    subst hi
    exact h.1
  | _ :: os, k, i + 1, o, h, hi => by
    have := OpsD.get h.2 (i := i) (by simpa using hi)
    rwa [show k + 1 + i = k + (i + 1) by omega] at this
theorem T.drawn {X : Prg} {l : List Oper} {base : List (Nat × Dat)} {n id : Nat} {Q : Exit → St → Prop} (vals : List Dat) {sl' : List (Nat × Dat)} (hm : X.P.follows .mixedOrders = true) (hok : drawOk l = true) (hlen : vals.length = l.length)
    (hops : OpsD X l vals base n 0 l) (hsl : ∀ t d, lk sl' t = some d → slOf l vals base (fun _ => true) t = some d) (h : Q .normal ⟨sl', [], n⟩) : T X (.region id l.toArray true) ⟨base, [], n⟩ Q :=
  T.draw hm hok hlen (fun i o hi => by have := hops.get hi; rwa [Nat.zero_add] at this) hsl h
theorem OpD.mk {X : Prg} {l : List Oper} {vals : List Dat} {base : List (Nat × Dat)} {n i t : Nat} {d : Dat} {o : Oper} (ht : o.dst = some t) (hd : vals[i]? = some d)
    (h : TL X l.toArray [o] ⟨knownAt l vals base o, [], n⟩ (fun e S => e = .normal ∧ lk S.sl t = some d ∧ S.bx = [] ∧ S.n = n)) : OpD X l vals base n i o := fun t' d' ht' hd' => by
  obtain rfl := Option.some.inj (ht.symm.trans ht')
  obtain rfl := Option.some.inj (hd.symm.trans hd')
  exact h
theorem Lk.one {l : List Oper} {vals : List Dat} {base : List (Nat × Dat)} {k : Nat} {e : Dat} (h : slOf l vals base (fun _ => true) k = some e) : ∀ t d, lk [(k, e)] t = some d → slOf l vals base (fun _ => true) t = some d := fun t d ht => by
  cases hb : Nat.beq k t
  · rw [lk, hb] at ht; cases ht
  · rw [lk, hb] at ht
    obtain rfl := Nat.eq_of_beq_eq_true hb
    obtain rfl := Option.some.inj ht
    exact h
/-! ### the walk of a law, for its row -/
theorem CallE.below {X : Prg} {f : FuncId} {ds : List Dat} {vs : List Value} {w : World} {ok : Nat → Prop} {b : Value} (h : CallE X f ds (.val b)) (hok : ∀ k, ok k → k < w.heap.size) (he : EncB w ok [] ds vs) :
    Calls X.P f vs.toArray w fun e w' => e = .returned b ∧ Below w.heap.size w w' :=
  (h w vs [] ok { len := rfl, bxs := fun _ _ _ hb => by simp at hb, inj := fun _ _ _ hb => by simp at hb, okf := fun b hb => ⟨hok b hb, fun k hk => by simp at hk⟩, blt := fun _ _ hb => by simp at hb, prot := fun _ _ _ => rfl, gsz := Nat.le_refl _, os := rfl, out := rfl, tape := rfl, ok0 := fun _ hb => hb, org := fun _ hb => .inl hb } he).mono
    fun e w' ⟨v, r, bx', β', ok', h1, h2, h3, h4⟩ => by
      subst h4; subst h1
      refine ⟨?_, ⟨h2.os, h2.tape, h2.out, h2.gsz, fun k hk => h2.prot k hk (fun ⟨_, hx⟩ => by simp at hx)⟩⟩
      rw [h3.val_inv.1]
end
end Go.Am
