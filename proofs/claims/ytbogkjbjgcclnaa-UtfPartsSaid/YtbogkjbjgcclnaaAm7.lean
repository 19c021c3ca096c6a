/- A small program logic over the kit's wp. Part 7: calls, coming back, guards, slices, strings. -/
import Derived.Test.YtbogkjbjgcclnaaAm6
namespace Go.Am
open Go.RowKit
section
variable {X : Prg} {ops : Array Oper} {rest : List Oper} {op : Op} {ty : TypeId} {pos : String} {after : Array Edge} {t : Nat} {d : Dat} {sl : List (Nat × Dat)} {bx : List Box} {n : Nat} {Q : Exit → St → Prop}
  {w : World} {ok : Nat → Prop} {β : List (Option Nat)}

/-! ### entering, coming back -/
def idxK : Nat → List Dat → List (Nat × Dat) → Option (List (Nat × Dat))
  | _, [], acc => some acc
  | i, d :: ds, acc => idxK (i + 1) ds ((i, d) :: acc)
theorem idxK_lk : ∀ (ds : List Dat) (i : Nat) (acc sl : List (Nat × Dat)), idxK i ds acc = some sl → ∀ t d, lk sl t = some d → lk acc t = some d ∨ (i ≤ t ∧ ds[t - i]? = some d)
  | [], i, acc, sl, h, t, d, hl => by
    simp only [idxK, Option.some.injEq] at h; subst h; exact .inl hl
  | e :: ds, i, acc, sl, h, t, d, hl => by
    rcases idxK_lk ds (i + 1) _ sl h t d hl with h1 | ⟨h1, h2⟩
    · rw [lk_cons] at h1
      split at h1
      · rename_i e'; subst e'; exact .inr ⟨Nat.le_refl _, by simpa using h1⟩
      · exact .inl h1
    · refine .inr ⟨by omega, ?_⟩
      rw [show t - i = (t - (i + 1)) + 1 by omega]; simpa using h2

/-- A result. -/
def resV (tt : TypeId → Option TI) (S : St) : ResultVar → Option Dat
  | .tmp t => lk S.sl t
  | .cell a t => match tt t, lk S.sl a with
    | some i, some (.nod cs) => partD i cs
    | some i, some (.ptr k off) => match atBox S.bx k with
      | some (cs, _) => dropK off cs fun r => partD i r
      | none => none
    | _, _ => none
def resL (tt : TypeId → Option TI) (S : St) : List ResultVar → Option (List Dat)
  | [] => some []
  | r :: rs => match resV tt S r, resL tt S rs with
    | some d, some ds => some (d :: ds)
    | _, _ => none
def pack : List Dat → Dat
  | [d] => d
  | ds => .tup ds
def Post (X : Prg) (rs : List ResultVar) (Q : Dat → List Box → Prop) : Exit → St → Prop
  | .normal, S | .ret, S => ∃ ds, resL (lkT X.tab) S rs = some ds ∧ Q (pack ds) S.bx
  | _, _ => False
theorem T.retPost {rs : List ResultVar} {R : Dat → List Box → Prop} {S : St} {ds : List Dat} (h : resL (lkT X.tab) S rs = some ds) (hq : R (pack ds) S.bx) : Post X rs R .ret S := ⟨ds, h, hq⟩
theorem T.endPost {rs : List ResultVar} {R : Dat → List Box → Prop} {S : St} {ds : List Dat} (h : resL (lkT X.tab) S rs = some ds) (hq : R (pack ds) S.bx) : Post X rs R .normal S := ⟨ds, h, hq⟩
def resRun (tmps : Array Value) : ResultVar → Sem Value
  | .tmp t => pure (tmps.getD t undef)
  | .cell a t => do loadVar t (← asAddr (tmps.getD a undef))
theorem results_eq (fn : Func) (tmps : Array Value) : results fn tmps = (do
    let vs ← fn.results.mapM (resRun tmps)
    pure (if h : vs.size = 1 then vs[0] else .tuple vs)) := by
  unfold results
  congr 1
theorem resV_run {G : Gh} {S : St} {a : Act} {w : World} (hr : Rep G S a w β ok) {r : ResultVar} (h : resV (lkT X.tab) S r = some d) : ∃ v, (resRun a.tmps r).run X.P w = .ok v w ∧ Enc w ok β d v := by
  cases r with
  | tmp t => exact ⟨_, rfl, (hr.sl t d h).2⟩
  | cell p e =>
    simp only [resV] at h
    split at h
    · rename_i i cs hi hp
      obtain ⟨q, e1, e2⟩ := (hr.sl p _ hp).2.nod_inv
      obtain ⟨vs, e3, e4, e5⟩ := e2.loads
      have hp := partD_run h (EncB.of (β := β) e3) e4
      have u2 := run_sizeOf' (X.tok _ _ hi) w
      have u3 := run_isAgg' (X.tok _ _ hi) w
      cases ha : i.isAgg with
      | true =>
        rw [ha] at hp u3
        obtain ⟨m, _, rfl, hle, he⟩ := hp
        have hl := e3.length
        refine ⟨_, ?_, he⟩
        have := loadCells_all X.P (w := w) (n := i.size) (a := q) (vs := vs.take i.size) (by rw [List.length_take]; omega) (fun j v hv => e5 j v (by
          rw [List.getElem?_take] at hv
          split at hv
          · exact hv
          · cases hv))
        simp [resRun, e1, asAddr, loadVar, u3, u2, this]
      | false =>
        rw [ha] at hp u3
        obtain ⟨v, r, rfl, he⟩ := hp
        have h0 := e5 0 v rfl
        rw [add_zero'] at h0
        exact ⟨v, by simp [resRun, e1, asAddr, loadVar, u3, Go.load, Sem.run, h0], he⟩
    · rename_i i k off hi hp
      split at h
      · rename_i cs be hb
        obtain ⟨b, e1, e2⟩ := (hr.sl p _ hp).2.ptr_inv
        obtain ⟨b', vs, e3, e4, e5, e6⟩ := (hr.bxs k _ _ (atBox_get hb) e2).var_inv
        obtain rfl := Option.some.inj e3
        have h' := dropK_eq _ _ _ _ h
        have hp := partD_run h'.2 (e5.drop off) (fun v hv => e6 v (List.mem_of_mem_drop hv))
        have u2 := run_sizeOf' (X.tok _ _ hi) w
        have u3 := run_isAgg' (X.tok _ _ hi) w
        have hl := e5.length
        have hcell : ∀ j v, (vs.drop off)[j]? = some v → w.cell? ((⟨b, off, none⟩ : Addr).add j) = some v := fun j v hv => by
          rw [addr_add, cell_blk e4]; simpa using hv
        cases ha : i.isAgg with
        | true =>
          rw [ha] at hp u3
          obtain ⟨m, _, rfl, hle, he⟩ := hp
          refine ⟨_, ?_, he⟩
          have := loadCells_all X.P (w := w) (n := i.size) (a := ⟨b, off, none⟩) (vs := (vs.drop off).take i.size) (by simp at hle ⊢; omega) (fun j v hv => hcell j v (by
            rw [List.getElem?_take] at hv
            split at hv
            · exact hv
            · cases hv))
          simp [resRun, e1, asAddr, loadVar, u3, u2, this]
        | false =>
          rw [ha] at hp u3
          obtain ⟨v, r, hv, he⟩ := hp
          have h0 := hcell 0 v (by rw [hv]; rfl)
          rw [add_zero'] at h0
          exact ⟨v, by simp [resRun, e1, asAddr, loadVar, u3, Go.load, Sem.run, h0], he⟩
      · cases h
    · cases h
theorem resMap_run {G : Gh} {S : St} {a : Act} {w : World} (hr : Rep G S a w β ok) : ∀ {rs : List ResultVar} {ds : List Dat}, resL (lkT X.tab) S rs = some ds → ∃ vs : List Value, (rs.mapM (resRun a.tmps)).run X.P w = .ok vs w ∧ EncB w ok β ds vs
  | [], ds, h => by simp [resL] at h; subst h; exact ⟨[], by simp, .nil⟩
  | r :: rs, ds, h => by
    simp only [resL] at h
    split at h
    · rename_i d ds' h1 h2
      obtain rfl := Option.some.inj h
      obtain ⟨v, h3, h4⟩ := resV_run hr h1
      obtain ⟨vs, h5, h6⟩ := resMap_run hr h2
      exact ⟨v :: vs, by simp [List.mapM_cons, h3, h5], .cons h4 h6⟩
    · cases h
theorem results_run {G : Gh} {S : St} {a : Act} {w : World} (hr : Rep G S a w β ok) {fn : Func} {rs : List ResultVar} (hrs : fn.results = rs.toArray) {ds : List Dat} (h : resL (lkT X.tab) S rs = some ds) : ∃ v, (results fn a.tmps).run X.P w = .ok v w ∧ Enc w ok β (pack ds) v := by
  obtain ⟨vs, h1, h2⟩ := resMap_run hr h
  rw [results_eq, hrs]
  cases h2 with
  | nil => exact ⟨.tuple #[], by simp [h1], .tup .nil⟩
  | cons hd hr2 =>
    cases hr2 with
    | nil => exact ⟨_, by simp [h1], hd⟩
    | cons hd2 hr3 => exact ⟨.tuple (_ :: _ :: _).toArray, by simp [h1], .tup (.cons hd (.cons hd2 hr3))⟩

theorem CallT.mk {f : FuncId} {fn : Func} {c : Code} {args : List Dat} {R : Dat → List Box → Prop} (hf : X.P.funcs[f]? = some fn) (hb : fn.body = some c) {rs : List ResultVar} (hrs : fn.results = rs.toArray) {m : Nat} (hn : fn.ntmps = m)
    (ha : Nat.ble args.length m = true) {sl : List (Nat × Dat)} (hsl : idxK 0 args [] = some sl) (h : T X c ⟨sl, bx, m⟩ (Post X rs R)) : CallT X f args bx R := by
  intro w vs β ok hr he
  have ha' : args.length ≤ m := Nat.le_of_ble_eq_true ha
  have hl := he.length
  refine calls_of_wp hf hb (wp_mono (h (Gh.of w β ok) _ w β ok { hr with hd := rfl, hs := ?_, sl := ?_ }) ?_)
  · simp [hn]; omega
  · intro t d ht
    rcases idxK_lk args 0 [] sl hsl t d ht with h1 | ⟨_, h1⟩
    · simp [lk] at h1
    · obtain ⟨v, h2, h3⟩ := he.get _ h1
      have hlt : t < vs.length := by
        have := (List.getElem?_eq_some_iff.1 h2).1; simpa using this
      refine ⟨?_, ?_⟩
      · show t < m
        omega
      · have : (vs.toArray ++ Array.replicate (fn.ntmps - vs.toArray.size) undef).getD t undef = v := by
          rw [Array.getD_eq_getD_getElem?, Array.getElem?_append_left (by simpa using hlt)]
          simp only [Nat.sub_zero] at h2
          simp [h2]
        rw [this]; exact h3
  · intro e a' w' ⟨S', β', ok', h1, h2⟩
    cases e <;> simp only [Post] at h2
    case normal =>
      obtain ⟨ds, h3, h4⟩ := h2
      obtain ⟨v, h5, h6⟩ := results_run h1 hrs h3
      exact ⟨h1.hd, v, h5, v, _, _, β', ok', rfl, h1.toRepB, h6, h4⟩
    case ret =>
      obtain ⟨ds, h3, h4⟩ := h2
      obtain ⟨v, h5, h6⟩ := results_run h1 hrs h3
      exact ⟨h1.hd, v, h5, v, _, _, β', ok', rfl, h1.toRepB, h6, h4⟩

/-! ### calls without boxes -/
def evs (S : List (Nat × Dat)) : List Operand → Option (List Dat)
  | [] => some []
  | x :: xs => match ev S x, evs S xs with
    | some d, some ds => some (d :: ds)
    | _, _ => none
theorem evs_enc {a : Act} (kn : Kn sl a w β ok) : ∀ {xs : List Operand} {ds : List Dat}, evs sl xs = some ds → EncB w ok β ds (xs.map a.eval)
  | [], ds, h => by simp [evs] at h; subst h; exact .nil
  | x :: xs, ds, h => by
    simp only [evs] at h
    split at h
    · rename_i d ds' h1 h2
      obtain rfl := Option.some.inj h
      exact .cons (kn x d h1) (evs_enc kn h2)
    · cases h
theorem RepB.start {G : Gh} (hr : RepB G bx w β ok) : RepB (Gh.of w [] ok) [] w [] ok where
  len := rfl
  bxs := fun k b o h => by simp at h
  inj := fun k k' b h => by simp at h
  okf := fun b hb => ⟨(hr.okf b hb).1, fun k h => by simp at h⟩
  blt := fun k b h => by simp at h
  prot := fun _ _ _ => rfl
  gsz := Nat.le_refl _
  os := rfl
  out := rfl
  tape := rfl
  ok0 := fun _ h => h
  org := fun _ h => .inl h
theorem callv_run {P : Program} {f : FuncId} {fn : Func} {as : Array Operand} {ats : Array TypeId} {dst : Option Tmp} {g : Option (Nat × Bool)} (hf : P.funcs[f]? = some fn) (hname : (fn.name == "runtime.NumGoroutine") = false) (hb : fn.body.isSome = true) (a : Act) (w : World) :
    (execOp a.eval { dst := dst, op := .call { callee := .value (.func f), args := as, argTypes := ats }, type := ty, pos := pos, after := after, guard := g }).run P w = .ok (.enter f (as.map a.eval)) w := by
  have h1 : fn.name ≠ "runtime.NumGoroutine" := by simpa using hname
  obtain ⟨c, hc⟩ := Option.isSome_iff_exists.1 hb
  simp [execOp, resolve, Deferred.ofValue, invoke, Act.eval, callFunc, hf, h1, hc]
/-- A Go function with a body. -/
def IsFn (X : Prg) (f : FuncId) : Prop := ∃ fn, X.P.funcs[f]? = some fn ∧ (fn.name == "runtime.NumGoroutine") = false ∧ fn.body.isSome = true
/-- What a call without boxes leaves. -/
theorem Rep.behind {G : Gh} {a : Act} {w' : World} {bx' : List Box} {β' : List (Option Nat)} {ok' : Nat → Prop} (hr : Rep G ⟨sl, bx, n⟩ a w β ok) (h : RepB (Gh.of w [] ok) bx' w' β' ok') : Rep G ⟨sl, bx, n⟩ a w' β ok' := by
  have hchg : Chg w w' (fun _ => False) := ⟨h.os, h.out, h.tape, h.gsz, fun b hb _ => h.prot b hb (fun ⟨k, hk⟩ => by simp at hk)⟩
  refine (hr.grow hchg).addOk h.ok0 (fun b hb => ?_)
  rcases h.org b hb with h1 | h1 | ⟨k, hk⟩
  · exact .inl h1
  · refine .inr ⟨(h.okf b hb).1, Nat.le_trans hr.gsz h1, fun k hk => ?_⟩
    have := (hr.blt k b hk).1
    have : w.heap.size ≤ b := h1
    omega
  · simp at hk
theorem wp_call {P : Program} {Qm : Exit → Act → World → Prop} {a : Act} {f : FuncId} {args : Array Value} {o : Oper} (hg : o.guard = none) (hrun : (execOp a.eval o).run P w = .ok (.enter f args) w)
    (h : Calls P f args w fun e w' => ∃ v, e = .returned v ∧ wpList P ops Qm rest (a.put o.dst v) w') : wpList P ops Qm (o :: rest) a w := by
  refine wpList_plain hg fun K hK => ?_
  unfold Oper.wp
  rw [hrun, Oper.upon_enter]
  exact h.mono fun e w'' ⟨v, he, hk⟩ => by subst he; exact hK _ _ hk
theorem TL.call {f : FuncId} {as : Array Operand} {ats : Array TypeId} {ds : List Dat} {R : Dat → List Box → Prop} (hfn : IsFn X f)
    (hc : CallT X f ds [] R) (ha : evs sl as.toList = some ds) (hcl : cloL ds = true) (ht : Nat.blt t n = true) (hk : ∀ r b, R r b → clo r = true ∧ TL X ops rest ⟨(t, r) :: sl, bx, n⟩ Q) :
    TL X ops ({ dst := some t, op := .call { callee := .value (.func f), args := as, argTypes := ats }, type := ty, pos := pos, after := after, guard := none } :: rest) ⟨sl, bx, n⟩ Q := fun G a w β ok hr => by
  have he := evs_enc hr.kn ha
  obtain ⟨fn, hf, hname, hb⟩ := hfn
  refine wp_call rfl (callv_run hf hname hb a w) ?_
  have hcall := hc w (as.toList.map a.eval) [] ok hr.toRepB.start (EncB.of (he.clo hcl))
  rw [show (as.toList.map a.eval).toArray = as.map a.eval from Array.toList_inj.1 (by simp)] at hcall
  refine hcall.mono fun e w' ⟨v, r, bx', β', ok', h1, h2, h3, h4⟩ => ⟨v, h1, ?_⟩
  obtain ⟨h5, h6⟩ := hk r bx' h4
  exact h6 G _ w' β ok' ((hr.behind h2).put ht (.closed (h3.clo h5)))

/-! ### guards -/
theorem TL.on {o : Oper} {j : Nat} {b : Bool} {oj : Oper} {tj : Nat} {S : St} (hg : o.guard = some (j, b)) (hj : ops[j]? = some oj) (hd : oj.dst = some tj) (hv : lk S.sl tj = some (.val (.bool b))) (hk : TL X ops ({ o with guard := none } :: rest) S Q) : TL X ops (o :: rest) S Q := fun G a w β ok hr => by
  have h1 := (hr.sl tj _ hv)
  have h2 := h1.2.bool_inv
  have hlt : tj < a.tmps.size := Nat.lt_of_lt_of_le h1.1 hr.hs
  have hy : yielded ops a.tmps j = some b := by
    unfold yielded
    have : a.tmps[tj]? = some (.bool b) := by
      rw [Array.getD_eq_getD_getElem?, Array.getElem?_eq_getElem hlt] at h2
      rw [Array.getElem?_eq_getElem hlt]; exact congrArg some h2
    simp [hj, hd, this]
  have h3 := hk G a w β ok hr
  unfold wpList at h3 ⊢
  have hw : Region.wanted o (yielded ops a.tmps) = true := by simp [Region.wanted, hg, hy]
  rw [if_pos hw]
  rw [if_pos (by simp [Region.wanted])] at h3
  exact h3
theorem TL.off {o : Oper} {j : Nat} {b : Bool} {oj : Oper} {tj : Nat} (hg : o.guard = some (j, !b)) (hj : ops[j]? = some oj) (hd : oj.dst = some tj) (hv : lk sl tj = some (.val (.bool b))) (hdst : o.dst = some t) (ht : Nat.blt t n = true) (hk : TL X ops rest ⟨(t, .tup []) :: sl, bx, n⟩ Q) : TL X ops (o :: rest) ⟨sl, bx, n⟩ Q := fun G a w β ok hr => by
  have h1 := (hr.sl tj _ hv)
  have h2 := h1.2.bool_inv
  have hlt : tj < a.tmps.size := Nat.lt_of_lt_of_le h1.1 hr.hs
  have hy : yielded ops a.tmps j = some b := by
    unfold yielded
    have : a.tmps[tj]? = some (.bool b) := by
      rw [Array.getD_eq_getD_getElem?, Array.getElem?_eq_getElem hlt] at h2
      rw [Array.getElem?_eq_getElem hlt]; exact congrArg some h2
    simp [hj, hd, this]
  unfold wpList
  have hw : Region.wanted o (yielded ops a.tmps) = false := by simp [Region.wanted, hg, hy]
  rw [if_neg (by simp [hw]), hdst]
  exact hk G _ w β ok (hr.put ht (.closed (.tup (vs := []) .nil)))
/-- The guard's own operation was passed over. -/
theorem TL.offU {o : Oper} {j : Nat} {b : Bool} {oj : Oper} {tj : Nat} (hg : o.guard = some (j, b)) (hj : ops[j]? = some oj) (hd : oj.dst = some tj) (hv : lk sl tj = some (.tup [])) (hdst : o.dst = some t) (ht : Nat.blt t n = true) (hk : TL X ops rest ⟨(t, .tup []) :: sl, bx, n⟩ Q) : TL X ops (o :: rest) ⟨sl, bx, n⟩ Q := fun G a w β ok hr => by
  have h1 := (hr.sl tj _ hv)
  obtain ⟨vs, h2, h3⟩ := h1.2.tup_inv
  cases h3
  have hlt : tj < a.tmps.size := Nat.lt_of_lt_of_le h1.1 hr.hs
  have hy : yielded ops a.tmps j = none := by
    unfold yielded
    have : a.tmps[tj]? = some (.tuple #[]) := by
      rw [Array.getD_eq_getD_getElem?, Array.getElem?_eq_getElem hlt] at h2
      rw [Array.getElem?_eq_getElem hlt]; exact congrArg some h2
    simp [hj, hd, this]
  unfold wpList
  have hw : Region.wanted o (yielded ops a.tmps) = false := by simp [Region.wanted, hg, hy]
  rw [if_neg (by simp [hw]), hdst]
  exact hk G _ w β ok (hr.put ht (.closed (.tup (vs := []) .nil)))
/-- A Bool slot's value is known otherwise. -/
theorem TL.known {l : List Oper} {b b' : Bool} (hl : lk sl t = some (.val (.bool b))) (hb : b = b') (hk : TL X ops l ⟨(t, .val (.bool b')) :: sl, bx, n⟩ Q) : TL X ops l ⟨sl, bx, n⟩ Q := fun G a w β ok hr => by
  subst hb
  refine hk G a w β ok (hr.forget (fun s d hs => ?_))
  rw [lk_cons] at hs
  split at hs
  · rename_i e; subst e; rw [hl]; exact hs
  · exact hs
/-- A guard that is not known: both ways. -/
theorem TL.guard {o : Oper} {j : Nat} {b c : Bool} {oj : Oper} {tj : Nat} (hg : o.guard = some (j, c)) (hj : ops[j]? = some oj) (hd : oj.dst = some tj) (hv : lk sl tj = some (.val (.bool b))) (hdst : o.dst = some t) (ht : Nat.blt t n = true)
    (h1 : b = c → TL X ops ({ o with guard := none } :: rest) ⟨(tj, .val (.bool c)) :: sl, bx, n⟩ Q) (h2 : b = !c → TL X ops rest ⟨(t, .tup []) :: (tj, .val (.bool !c)) :: sl, bx, n⟩ Q) : TL X ops (o :: rest) ⟨sl, bx, n⟩ Q := by
  by_cases h : b = c
  · refine TL.known hv h (TL.on hg hj hd ?_ (h1 h))
    show lk ((tj, _) :: sl) tj = _
    rw [lk_cons, if_pos rfl]
  · have h' : b = !c := by cases b <;> cases c <;> simp at h ⊢
    refine TL.known hv h' (TL.off (b := !c) (by simpa using hg) hj hd ?_ hdst ht (h2 h'))
    rw [lk_cons, if_pos rfl]
theorem TL.offT {o : Oper} {j : Nat} {oj : Oper} {tj : Nat} (hg : o.guard = some (j, true)) (hj : ops[j]? = some oj) (hd : oj.dst = some tj) (hv : lk sl tj = some (.val (.bool false))) (hdst : o.dst = some t) (ht : Nat.blt t n = true) (hk : TL X ops rest ⟨(t, .tup []) :: sl, bx, n⟩ Q) : TL X ops (o :: rest) ⟨sl, bx, n⟩ Q := TL.off (b := false) hg hj hd hv hdst ht hk
theorem TL.offF {o : Oper} {j : Nat} {oj : Oper} {tj : Nat} (hg : o.guard = some (j, false)) (hj : ops[j]? = some oj) (hd : oj.dst = some tj) (hv : lk sl tj = some (.val (.bool true))) (hdst : o.dst = some t) (ht : Nat.blt t n = true) (hk : TL X ops rest ⟨(t, .tup []) :: sl, bx, n⟩ Q) : TL X ops (o :: rest) ⟨sl, bx, n⟩ Q := TL.off (b := true) hg hj hd hv hdst ht hk
theorem TL.pickT {c x y : Operand} (hc : ev sl c = some (.val (.bool true))) (hx : ev sl x = some d) (ht : Nat.blt t n = true) (hk : TL X ops rest ⟨(t, d) :: sl, bx, n⟩ Q) :
    TL X ops ({ dst := some t, op := .pick c x y, type := ty, pos := pos, after := after, guard := none } :: rest) ⟨sl, bx, n⟩ Q :=
  TL.run (d := d) (fun a w β ok kn dst ty pos after g => ⟨a.eval x, by simp [execOp, (kn c _ hc).bool_inv, asBool], kn x _ hx⟩) ht hk
theorem TL.pickF {c x y : Operand} (hc : ev sl c = some (.val (.bool false))) (hy : ev sl y = some d) (ht : Nat.blt t n = true) (hk : TL X ops rest ⟨(t, d) :: sl, bx, n⟩ Q) :
    TL X ops ({ dst := some t, op := .pick c x y, type := ty, pos := pos, after := after, guard := none } :: rest) ⟨sl, bx, n⟩ Q :=
  TL.run (d := d) (fun a w β ok kn dst ty pos after g => ⟨a.eval y, by simp [execOp, (kn c _ hc).bool_inv, asBool], kn y _ hy⟩) ht hk

theorem TL.pickS {c x y : Operand} {b p q : Bool} (hc : ev sl c = some (.val (.bool b))) (hx : ev sl x = some (.val (.bool p))) (hy : ev sl y = some (.val (.bool q))) (ht : Nat.blt t n = true) (hk : TL X ops rest ⟨(t, .val (.bool (bif b then p else q))) :: sl, bx, n⟩ Q) :
    TL X ops ({ dst := some t, op := .pick c x y, type := ty, pos := pos, after := after, guard := none } :: rest) ⟨sl, bx, n⟩ Q :=
  TL.run (d := .val (.bool (bif b then p else q))) (fun a w β ok kn dst ty pos after g => ⟨.bool (bif b then p else q), by cases b <;> simp [execOp, (kn c _ hc).bool_inv, (kn x _ hx).bool_inv, (kn y _ hy).bool_inv, asBool], .closed (.val rfl)⟩) ht hk

/-! ### tests, as propositions -/
theorem T.condT {x y : Code} (hc : lk sl t = some (.val (.bool true))) (h : T X x ⟨sl, bx, n⟩ Q) : T X (.cond (.tmp t) x y) ⟨sl, bx, n⟩ Q := T.cond hc (fun _ => h) (fun h => by cases h)
theorem T.condF {x y : Code} (hc : lk sl t = some (.val (.bool false))) (h : T X y ⟨sl, bx, n⟩ Q) : T X (.cond (.tmp t) x y) ⟨sl, bx, n⟩ Q := T.cond hc (fun h => by cases h) (fun _ => h)
theorem T.condD {x y : Code} {p : Prop} [Decidable p] (hc : lk sl t = some (.val (.bool (decide p)))) (ht : p → T X x ⟨sl, bx, n⟩ Q) (hf : ¬ p → T X y ⟨sl, bx, n⟩ Q) : T X (.cond (.tmp t) x y) ⟨sl, bx, n⟩ Q :=
  T.cond hc (fun h => ht (of_decide_eq_true h)) (fun h => hf (of_decide_eq_false h))
theorem T.condE {x y : Code} {a b : Int} (hc : lk sl t = some (.val (.bool (a == b)))) (ht : a = b → T X x ⟨sl, bx, n⟩ Q) (hf : ¬ a = b → T X y ⟨sl, bx, n⟩ Q) : T X (.cond (.tmp t) x y) ⟨sl, bx, n⟩ Q :=
  T.cond hc (fun h => ht (beq_iff_eq.1 h)) (fun h => hf (beq_eq_false_iff_ne.1 h))
theorem T.condNe {x y : Code} {a b : Int} (hc : lk sl t = some (.val (.bool (a != b)))) (ht : ¬ a = b → T X x ⟨sl, bx, n⟩ Q) (hf : a = b → T X y ⟨sl, bx, n⟩ Q) : T X (.cond (.tmp t) x y) ⟨sl, bx, n⟩ Q :=
  T.cond hc (fun h => ht (bne_iff_ne.1 h)) (fun h => hf (by simpa using h))
theorem T.condN {x y : Code} {b : Bool} (hc : lk sl t = some (.val (.bool !b))) (ht : b = false → T X x ⟨sl, bx, n⟩ Q) (hf : b = true → T X y ⟨sl, bx, n⟩ Q) : T X (.cond (.tmp t) x y) ⟨sl, bx, n⟩ Q :=
  T.cond hc (fun h => ht (by simpa using h)) (fun h => hf (by simpa using h))
/-- A guard's slot, settled. -/
theorem TL.split {l : List Oper} {b : Bool} (hv : lk sl t = some (.val (.bool b))) (h1 : b = true → TL X ops l ⟨(t, .val (.bool true)) :: sl, bx, n⟩ Q) (h2 : b = false → TL X ops l ⟨(t, .val (.bool false)) :: sl, bx, n⟩ Q) : TL X ops l ⟨sl, bx, n⟩ Q := by
  cases h : b
  · exact TL.known hv h (h2 h)
  · exact TL.known hv h (h1 h)
theorem TL.gD {o : Oper} {j : Nat} {c : Bool} {oj : Oper} {tj : Nat} {p : Prop} [Decidable p] (_hg : o.guard = some (j, c)) (_hj : ops[j]? = some oj) (_hd : oj.dst = some tj) (hv : lk sl tj = some (.val (.bool (decide p))))
    (h1 : p → TL X ops (o :: rest) ⟨(tj, .val (.bool true)) :: sl, bx, n⟩ Q) (h2 : ¬ p → TL X ops (o :: rest) ⟨(tj, .val (.bool false)) :: sl, bx, n⟩ Q) : TL X ops (o :: rest) ⟨sl, bx, n⟩ Q :=
  TL.split hv (fun h => h1 (of_decide_eq_true h)) (fun h => h2 (of_decide_eq_false h))
theorem TL.gE {o : Oper} {j : Nat} {c : Bool} {oj : Oper} {tj : Nat} {x y : Int} (_hg : o.guard = some (j, c)) (_hj : ops[j]? = some oj) (_hd : oj.dst = some tj) (hv : lk sl tj = some (.val (.bool (x == y))))
    (h1 : x = y → TL X ops (o :: rest) ⟨(tj, .val (.bool true)) :: sl, bx, n⟩ Q) (h2 : ¬ x = y → TL X ops (o :: rest) ⟨(tj, .val (.bool false)) :: sl, bx, n⟩ Q) : TL X ops (o :: rest) ⟨sl, bx, n⟩ Q :=
  TL.split hv (fun h => h1 (beq_iff_eq.1 h)) (fun h => h2 (beq_eq_false_iff_ne.1 h))
theorem TL.gNe {o : Oper} {j : Nat} {c : Bool} {oj : Oper} {tj : Nat} {x y : Int} (_hg : o.guard = some (j, c)) (_hj : ops[j]? = some oj) (_hd : oj.dst = some tj) (hv : lk sl tj = some (.val (.bool (x != y))))
    (h1 : ¬ x = y → TL X ops (o :: rest) ⟨(tj, .val (.bool true)) :: sl, bx, n⟩ Q) (h2 : x = y → TL X ops (o :: rest) ⟨(tj, .val (.bool false)) :: sl, bx, n⟩ Q) : TL X ops (o :: rest) ⟨sl, bx, n⟩ Q :=
  TL.split hv (fun h => h1 (bne_iff_ne.1 h)) (fun h => h2 (by simpa using h))
theorem TL.gN {o : Oper} {j : Nat} {c : Bool} {oj : Oper} {tj : Nat} {b : Bool} (_hg : o.guard = some (j, c)) (_hj : ops[j]? = some oj) (_hd : oj.dst = some tj) (hv : lk sl tj = some (.val (.bool !b)))
    (h1 : b = false → TL X ops (o :: rest) ⟨(tj, .val (.bool true)) :: sl, bx, n⟩ Q) (h2 : b = true → TL X ops (o :: rest) ⟨(tj, .val (.bool false)) :: sl, bx, n⟩ Q) : TL X ops (o :: rest) ⟨sl, bx, n⟩ Q :=
  TL.split hv (fun h => h1 (by simpa using h)) (fun h => h2 (by simpa using h))
theorem TL.gB {o : Oper} {j : Nat} {c : Bool} {oj : Oper} {tj : Nat} {b : Bool} (_hg : o.guard = some (j, c)) (_hj : ops[j]? = some oj) (_hd : oj.dst = some tj) (hv : lk sl tj = some (.val (.bool b)))
    (h1 : b = true → TL X ops (o :: rest) ⟨(tj, .val (.bool true)) :: sl, bx, n⟩ Q) (h2 : b = false → TL X ops (o :: rest) ⟨(tj, .val (.bool false)) :: sl, bx, n⟩ Q) : TL X ops (o :: rest) ⟨sl, bx, n⟩ Q :=
  TL.split hv h1 h2
end
end Go.Am
