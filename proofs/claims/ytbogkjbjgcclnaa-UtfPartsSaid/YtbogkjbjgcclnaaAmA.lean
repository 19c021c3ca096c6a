/- A small program logic over the kit's wp. Part 10: struct values, arrays, giving a variable up for writing, slices that are made. -/
import Derived.Test.YtbogkjbjgcclnaaAm9
namespace Go.Am
open Go.RowKit
section
variable {X : Prg} {ops : Array Oper} {rest : List Oper} {op : Op} {ty : TypeId} {pos : String} {after : Array Edge} {t : Nat} {d : Dat} {sl : List (Nat × Dat)} {bx : List Box} {n : Nat} {Q : Exit → St → Prop}
  {w : World} {ok : Nat → Prop} {β : List (Option Nat)}

def live : Dat → Bool
  | .dead | .tup _ => false
  | _ => true
theorem live_ne {d : Dat} (h : live d = true) : d ≠ .dead ∧ isTup d = false := by cases d <;> simp [live, isTup] at h ⊢
theorem TL.store' {e : TypeId} {x y : Operand} {i : TI} {k off : Nat} {cs cs' : List Dat} {be : TypeId} (hx : ev sl x = some (.ptr k off)) (hy : ev sl y = some d) (hl : live d = true) (hi : lkT X.tab e = some i)
    (hb : atBox bx k = some (cs, be)) (hz : Nat.beq d.cells.length i.size = true) (hd : spliceK off d.cells cs some = some cs') {bx' : List Box} (hbx : setK k (.var cs' be) bx some = some bx') (hk : TL X ops rest ⟨sl, bx', n⟩ Q) :
    TL X ops ({ dst := none, op := .store e x y, type := ty, pos := pos, after := after, guard := none } :: rest) ⟨sl, bx, n⟩ Q := by
  have h' := setK_eq _ _ _ _ _ hbx
  obtain rfl := Option.some.inj h'
  exact TL.store hx hy (live_ne hl).1 (live_ne hl).2 hi hb hz hd rfl hk
theorem TL.alloc' {e : TypeId} {i : TI} {cs : List Dat} (hi : lkT X.tab e = some i) (hz : zcells i.zero.cells.toList = some cs) {bx' : List Box} (hbx : appK bx (.var cs e) some = some bx') (ht : Nat.blt t n = true) (hk : TL X ops rest ⟨(t, .ptr bx.length 0) :: sl, bx', n⟩ Q) :
    TL X ops ({ dst := some t, op := .alloc e, type := ty, pos := pos, after := after, guard := none } :: rest) ⟨sl, bx, n⟩ Q := by
  obtain rfl := Option.some.inj (appK_eq _ _ _ _ hbx)
  exact TL.alloc hi hz ht hk
theorem TL.boxImm' {e : TypeId} {x : Operand} (hx : ev sl x = some d) (hc : clo d = true) (hl : live d = true) (ht : Nat.blt t n = true) (hk : TL X ops rest ⟨(t, .nod d.cells) :: sl, bx, n⟩ Q) :
    TL X ops ({ dst := some t, op := .box e x, type := ty, pos := pos, after := after, guard := none } :: rest) ⟨sl, bx, n⟩ Q := TL.boxImm hx hc (live_ne hl).2 ht hk
theorem TL.boxVar' {e : TypeId} {x : Operand} (hx : ev sl x = some d) (hl : live d = true) {bx' : List Box} (hbx : appK bx (.var d.cells e) some = some bx') (ht : Nat.blt t n = true) (hk : TL X ops rest ⟨(t, .ptr bx.length 0) :: sl, bx', n⟩ Q) :
    TL X ops ({ dst := some t, op := .box e x, type := ty, pos := pos, after := after, guard := none } :: rest) ⟨sl, bx, n⟩ Q := by
  obtain rfl := Option.some.inj (appK_eq _ _ _ _ hbx)
  exact TL.boxVar hx (live_ne hl).1 (live_ne hl).2 ht hk

/-! ### a struct, put together -/
def buildK (tt : TypeId → Option TI) (fields : Array Field) (S : List (Nat × Dat)) : List (Nat × Operand) → List Dat → Option (List Dat)
  | [], cs => some cs
  | (i, x) :: r, cs => match fields[i]? with
    | some f => match tt f.type, ev S x with
      | some ti, some d => match live d && Nat.beq d.cells.length ti.size with
        | true => match spliceK f.offset d.cells cs some with
          | some cs' => buildK tt fields S r cs'
          | none => none
        | false => none
      | _, _ => none
    | none => none
theorem foldl_set : ∀ (us : List Value) (cs : Array Value) (off i : Nat), off + i + us.length ≤ cs.size →
    ((us.zipIdx i).foldl (fun cs (p : Value × Nat) => cs.setIfInBounds (off + p.2) p.1) cs).toList = cs.toList.take (off + i) ++ us ++ cs.toList.drop (off + i + us.length)
  | [], cs, off, i, h => by simp
  | u :: us, cs, off, i, h => by
    have := foldl_set us (cs.setIfInBounds (off + i) u) off (i + 1) (by simp at h ⊢; omega)
    simp only [List.zipIdx_cons, List.foldl_cons]
    rw [this]
    have hlt : off + i < cs.toList.length := by simp at h ⊢; omega
    simp only [Array.toList_setIfInBounds]
    rw [List.take_set, List.drop_set]
    simp only [List.length_cons]
    rw [if_pos (by omega), show off + (i + 1) = off + i + 1 by omega, List.take_succ_eq_append_getElem hlt]
    rw [List.set_append_right _ _ (by simp; omega)]
    simp [Nat.min_eq_left (Nat.le_of_lt (by simpa using hlt))]
    congr 1; omega
theorem buildK_run {P : Prg} {fields : Array Field} {a : Act} (kn : Kn sl a w β ok) (place : Nat → Option (Nat × Nat)) (hp : ∀ (i : Nat) (f : Field) (ti : TI), fields[i]? = some f → lkT P.tab f.type = some ti → place i = some (f.offset, ti.size)) :
    ∀ {parts : List (Nat × Operand)} {cs cs' : List Dat} {vs : List Value}, buildK (lkT P.tab) fields sl parts cs = some cs' → EncB w ok β cs vs → (∀ v ∈ vs, one v = true) →
      ∃ vs' : List Value, Instr.fill place vs.toArray (parts.map fun (i, x) => (i, a.eval x)) = some vs'.toArray ∧ EncB w ok β cs' vs' ∧ ∀ v ∈ vs', one v = true
  | [], cs, cs', vs, h, he, h1 => by
    simp only [buildK, Option.some.injEq] at h; subst h
    exact ⟨vs, by simp [Instr.fill], he, h1⟩
  | (i, x) :: r, cs, cs', vs, h, he, h1 => by
    simp only [buildK] at h
    split at h
    · rename_i f hf
      split at h
      · rename_i ti d hti hd
        split at h
        · rename_i hb
          simp only [Bool.and_eq_true] at hb
          split at h
          · rename_i cs1 hs
            obtain ⟨us, e1, e2, e3⟩ := (kn x d hd).cellsB (live_ne hb.1).1 (live_ne hb.1).2
            have hs' := spliceK_eq _ _ _ _ _ hs
            have hs2 := Option.some.inj hs'.2
            have hl := he.length
            have hl2 := e2.length
            have hsz : us.length = ti.size := hl2 ▸ Nat.eq_of_beq_eq_true hb.2
            have henc : EncB w ok β cs1 (vs.take f.offset ++ us ++ vs.drop (f.offset + us.length)) := by
              rw [← hs2, hl2]
              exact ((he.take _).append e2).append (he.drop _)
            have h1' : ∀ v ∈ vs.take f.offset ++ us ++ vs.drop (f.offset + us.length), one v = true := fun v hv => by
              simp only [List.append_assoc, List.mem_append] at hv
              rcases hv with hv | hv | hv
              · exact h1 v (List.mem_of_mem_take hv)
              · exact e3 v hv
              · exact h1 v (List.mem_of_mem_drop hv)
            obtain ⟨vs', g1, g2, g3⟩ := buildK_run kn place hp h henc h1'
            refine ⟨vs', ?_, g2, g3⟩
            have hfold : (us.toArray.zipIdx.foldl (fun cs (p : Value × Nat) => cs.setIfInBounds (f.offset + p.2) p.1) vs.toArray) = (vs.take f.offset ++ us ++ vs.drop (f.offset + us.length)).toArray := by
              apply Array.toList_inj.1
              have := foldl_set us vs.toArray f.offset 0 (by simp; omega)
              simpa using this
            show Instr.fill place vs.toArray ((i, a.eval x) :: r.map fun (i, x) => (i, a.eval x)) = some vs'.toArray
            unfold Instr.fill
            rw [hp i f ti hf hti]
            dsimp only
            rw [e1, if_neg (by simp; omega)]
            exact (congrArg (fun z => Instr.fill place z (r.map fun (i, x) => (i, a.eval x))) hfold).trans g1
          · cases h
        · cases h
      · cases h
    · cases h
theorem mapM_places {P : Prg} (w : World) : ∀ (fs : List Field), (∀ f ∈ fs, ∃ ti, lkT P.tab f.type = some ti) → ∃ ps : List (Nat × Nat), (fs.mapM (fun f : Field => Prod.mk f.offset <$> sizeOf f.type)).run P.P w = .ok ps w ∧ ∀ (i : Nat) (f : Field) (ti : TI), fs[i]? = some f → lkT P.tab f.type = some ti → ps[i]? = some (f.offset, ti.size)
  | [], _ => ⟨[], by simp, by simp⟩
  | f :: fs, h => by
    obtain ⟨ti, hti⟩ := h f List.mem_cons_self
    obtain ⟨ps, h1, h2⟩ := mapM_places w fs (fun g hg => h g (List.mem_cons_of_mem _ hg))
    have u := run_sizeOf' (P.tok _ _ hti) w
    refine ⟨(f.offset, ti.size) :: ps, by simp [List.mapM_cons, u, h1], ?_⟩
    intro i g tj hg htj
    cases i with
    | zero =>
      simp at hg; subst hg
      rw [hti] at htj
      obtain rfl := Option.some.inj htj
      rfl
    | succ i => exact h2 i g tj (by simpa using hg) htj
/-- All fields' types are told. -/
def fieldsOk (tt : TypeId → Option TI) : List Field → Bool
  | [] => true
  | f :: r => match tt f.type with | some _ => fieldsOk tt r | none => false
theorem fieldsOk_mem {P : Prg} : ∀ {fs : List Field}, fieldsOk (lkT P.tab) fs = true → ∀ f ∈ fs, ∃ ti, lkT P.tab f.type = some ti
  | f :: r, h, g, hg => by
    simp only [fieldsOk] at h
    split at h
    · rename_i ti hti
      rcases List.mem_cons.1 hg with rfl | hg
      · exact ⟨ti, hti⟩
      · exact fieldsOk_mem h g hg
    · cases h
theorem TL.build {st : TypeId} {parts : Array (Nat × Operand)} {i : TI} {fields : Array Field} {zs cs : List Dat} (hi : lkT X.tab st = some i) (hd : i.desc = .struct fields) (hok : fieldsOk (lkT X.tab) fields.toList = true) (hz : zcells i.zero.cells.toList = some zs)
    (hb : buildK (lkT X.tab) fields sl parts.toList zs = some cs) (ht : Nat.blt t n = true) (hk : TL X ops rest ⟨(t, .agg cs) :: sl, bx, n⟩ Q) :
    TL X ops ({ dst := some t, op := .build st parts, type := ty, pos := pos, after := after, guard := none } :: rest) ⟨sl, bx, n⟩ Q :=
  TL.run (d := .agg cs) (fun a w β ok kn dst ty pos after g => by
    have u1 := run_underlying' (X.tok _ _ hi) w
    have u2 := run_zeroValue' (X.tok _ _ hi) w
    rw [hd] at u1
    have hz' := zcells_enc w ok hz
    obtain ⟨ps, h1, h2⟩ := mapM_places (P := X) w fields.toList (fieldsOk_mem hok)
    obtain ⟨vs', h3, h4, h5⟩ := buildK_run (P := X) kn (fun i => ps[i]?) (fun i f ti hf hti => h2 i f ti (by simpa using hf) hti) hb (EncB.of (β := β) hz'.1) hz'.2
    refine ⟨.agg vs'.toArray, ?_, .agg h5 h4⟩
    have hm : (fields.mapM (fun f : Field => Prod.mk f.offset <$> sizeOf f.type)).run X.P w = .ok ps.toArray w := by
      obtain ⟨fs⟩ := fields
      simp only at h1
      simp [h1]
    have e0 : i.zero.cells = i.zero.cells.toList.toArray := by simp
    rw [← e0] at h3
    have h3' : Instr.fill (fun x => ps[x]?) i.zero.cells (List.map (fun x => (x.fst, a.eval x.snd)) parts.toList) = some vs'.toArray := h3
    simp only [execOp, Instr.build]
    simp at hm ⊢
    simp [u1, u2, hm, h3']) ht hk
end
end Go.Am
