/- A small program logic over the kit's wp. Part 1: states, what they say of the machine, the judgements, and the rules of the code's forms. -/
import Derived.Test.YtbogkjbjgcclnaaAm0
namespace Go.Am

/-- What is known of a type. -/
structure TI where
  desc : TypeDesc
  size : Nat
  bytes : Nat
  zero : Value

def lkT : List (TypeId × TI) → TypeId → Option TI
  | [], _ => none
  | (i, x) :: r, t => bif Nat.beq i t then some x else lkT r t

/-- A type of the program is as the table has it. -/
structure TOk (P : Program) (t : TypeId) (i : TI) : Prop where
  desc : P.underlying t = some i.desc
  info : ∃ x, P.info? t = some x ∧ x.size = i.size ∧ x.bytes = i.bytes ∧ x.zero = some i.zero

structure Prg where
  P : Program
  tab : List (TypeId × TI)
  tok : ∀ t i, lkT tab t = some i → TOk P t i

def lk : List (Nat × Dat) → Nat → Option Dat
  | [], _ => none
  | (i, d) :: r, t => bif Nat.beq i t then some d else lk r t

theorem lk_cons (i : Nat) (d : Dat) (r : List (Nat × Dat)) (t : Nat) : lk ((i, d) :: r) t = if i = t then some d else lk r t := by
  simp only [lk]
  by_cases h : i = t
  · subst h; simp [Nat.beq_refl]
  · have : Nat.beq i t = false := by
      cases hb : Nat.beq i t
      · rfl
      · exact absurd (Nat.eq_of_beq_eq_true hb) h
    simp [h, this]

inductive Box where
  | var (cs : List Dat) (t : TypeId)
  | arr (l : List Dat) (sz : Nat) (e : TypeId)
  | gone
instance : Inhabited Box := ⟨.gone⟩

structure St where
  sl : List (Nat × Dat)
  bx : List Box
  n : Nat

/-- The memory of a box. -/
inductive BoxOk (w : World) (ok : Nat → Prop) (β : List (Option Nat)) : Option Nat → Box → Prop
  | var {b : Nat} {cs : List Dat} {vs : List Value} {t : TypeId} (hb : w.heap[b]? = some (.cells vs.toArray t (0, 0))) (h : EncB w ok β cs vs) (h1 : ∀ v ∈ vs, one v = true) : BoxOk w ok β (some b) (.var cs t)
  | anil {sz : Nat} {e : TypeId} : BoxOk w ok β none (.arr [] sz e)
  | arr {b sz : Nat} {e : TypeId} {l : List Dat} {vs us : List Value} (hb : w.heap[b]? = some (.cells (vs ++ us).toArray e (0, 0))) (h : EncL w ok (l.flatMap Dat.cells) vs) (h1 : ∀ v ∈ vs, one v = true) (hz : ∀ d ∈ l, d.cells.length = sz) : BoxOk w ok β (some b) (.arr l sz e)
  | gone {o : Option Nat} : BoxOk w ok β o .gone

/-- What stays as it was when the function began: the world then, what could be leaned on, what was handed over. -/
structure Gh where
  w0 : World
  ok0 : Nat → Prop
  own0 : Nat → Prop

structure RepB (G : Gh) (bx : List Box) (w : World) (β : List (Option Nat)) (ok : Nat → Prop) : Prop where
  len : β.length = bx.length
  bxs : ∀ (k : Nat) (b : Box) (o : Option Nat), bx[k]? = some b → β[k]? = some o → BoxOk w ok β o b
  inj : ∀ (k k' b : Nat), β[k]? = some (some b) → β[k']? = some (some b) → k = k'
  okf : ∀ b, ok b → b < w.heap.size ∧ ∀ k : Nat, β[k]? ≠ some (some b)
  blt : ∀ (k b : Nat), β[k]? = some (some b) → b < w.heap.size ∧ (G.w0.heap.size ≤ b ∨ G.own0 b)
  prot : ∀ b, b < G.w0.heap.size → ¬ G.own0 b → w.heap[b]? = G.w0.heap[b]?
  gsz : G.w0.heap.size ≤ w.heap.size
  os : w.os = G.w0.os
  out : w.output = G.w0.output
  tape : w.tape = G.w0.tape
  ok0 : ∀ b, G.ok0 b → ok b
  org : ∀ b, ok b → G.ok0 b ∨ G.w0.heap.size ≤ b ∨ G.own0 b

structure Rep (G : Gh) (S : St) (a : Act) (w : World) (β : List (Option Nat)) (ok : Nat → Prop) : Prop extends RepB G S.bx w β ok where
  hd : a.defers = []
  hs : S.n ≤ a.tmps.size
  sl : ∀ (t : Nat) (d : Dat), lk S.sl t = some d → t < S.n ∧ Enc w ok β d (a.tmps.getD t undef)

def Lift (G : Gh) (Q : Exit → St → Prop) : Exit → Act → World → Prop := fun e a w => ∃ S β ok, Rep G S a w β ok ∧ Q e S

def T (X : Prg) (c : Code) (S : St) (Q : Exit → St → Prop) : Prop := ∀ G a w β ok, Rep G S a w β ok → c.wp X.P (Lift G Q) a w
def TL (X : Prg) (ops : Array Oper) (l : List Oper) (S : St) (Q : Exit → St → Prop) : Prop := ∀ G a w β ok, Rep G S a w β ok → wpList X.P ops (Lift G Q) l a w

def Gh.of (w : World) (β : List (Option Nat)) (ok : Nat → Prop) : Gh := { w0 := w, ok0 := ok, own0 := fun b => ∃ k : Nat, β[k]? = some (some b) }

/-- A call of a Go function: arguments and boxes; what comes of it. -/
def CallT (X : Prg) (f : FuncId) (args : List Dat) (bx : List Box) (Q : Dat → List Box → Prop) : Prop :=
  ∀ w vs β ok, RepB (Gh.of w β ok) bx w β ok → EncB w ok β args vs →
    Calls X.P f vs.toArray w fun e w' => ∃ v r bx' β' ok', e = .returned v ∧ RepB (Gh.of w β ok) bx' w' β' ok' ∧ Enc w' ok' β' r v ∧ Q r bx'

theorem CallT.mono {X : Prg} {f : FuncId} {args : List Dat} {bx : List Box} {Q Q' : Dat → List Box → Prop} (h : CallT X f args bx Q) (hq : ∀ r b, Q r b → Q' r b) : CallT X f args bx Q' :=
  fun w vs β ok hr he => (h w vs β ok hr he).mono fun _ _ ⟨v, r, bx', β', ok', h1, h2, h3, h4⟩ => ⟨v, r, bx', β', ok', h1, h2, h3, hq _ _ h4⟩

section rules
variable {X : Prg} {S : St} {Q : Exit → St → Prop}

theorem T.mono {c : Code} {Q' : Exit → St → Prop} (h : T X c S Q) (hq : ∀ e S, Q e S → Q' e S) : T X c S Q' :=
  fun G a w β ok hr => wp_mono (h G a w β ok hr) fun _ _ _ ⟨S', β', ok', h1, h2⟩ => ⟨S', β', ok', h1, hq _ _ h2⟩
abbrev Then (X : Prg) (y : Code) (Q : Exit → St → Prop) : Exit → St → Prop
  | .normal, S => T X y S Q
  | e, S => Q e S
theorem T.seq {x y : Code} (h : T X x S (Then X y Q)) : T X (.seq x y) S Q := fun G a w β ok hr =>
  wp_seq (wp_mono (h G a w β ok hr) fun e a' w' ⟨S', β', ok', h1, h2⟩ => by
    cases e with
    | normal => exact h2 G a' w' β' ok' h1
    | _ => exact ⟨S', β', ok', h1, h2⟩)
theorem T.skip (h : Q .normal S) : T X .skip S Q := fun _ _ _ β ok hr => wp_skip ⟨S, β, ok, hr, h⟩
theorem T.label {l : Nat} (h : Q .normal S) : T X (.label l) S Q := fun _ _ _ β ok hr => wp_label ⟨S, β, ok, hr, h⟩
theorem T.exit {id : Nat} (h : Q (.exit id) S) : T X (.exit id) S Q := fun _ _ _ β ok hr => wp_exit ⟨S, β, ok, hr, h⟩
theorem T.goto {l : Nat} (h : Q (.goto l) S) : T X (.goto l) S Q := fun _ _ _ β ok hr => wp_goto ⟨S, β, ok, hr, h⟩
theorem T.ret (h : Q .ret S) : T X .ret S Q := fun _ _ _ β ok hr => wp_ret ⟨S, β, ok, hr, h⟩
abbrev InBlock (id : Nat) (Q : Exit → St → Prop) : Exit → St → Prop
  | .exit id', S => if id' = id then Q .normal S else Q (.exit id') S
  | e, S => Q e S
theorem T.block {id : Nat} {c : Code} (h : T X c S (InBlock id Q)) : T X (.block id c) S Q := fun G a w β ok hr =>
  wp_block (wp_mono (h G a w β ok hr) fun e a' w' ⟨S', β', ok', h1, h2⟩ => by
    cases e with
    | exit id' =>
      simp only [InBlock] at h2
      simp only [Exit.inBlock]
      split
      · rename_i hi; rw [if_pos hi] at h2; exact ⟨S', β', ok', h1, h2⟩
      · rename_i hi; rw [if_neg hi] at h2; exact ⟨S', β', ok', h1, h2⟩
    | _ => exact ⟨S', β', ok', h1, h2⟩)
/-- The slot of a test holds a Bool. -/
theorem T.cond {t : Nat} {x y : Code} {b : Bool} (hc : lk S.sl t = some (.val (.bool b))) (ht : b = true → T X x S Q) (hf : b = false → T X y S Q) : T X (.cond (.tmp t) x y) S Q := fun G a w β ok hr => by
  have hv : a.eval (.tmp t) = .bool b := by
    have := (hr.sl t _ hc).2
    show a.tmps.getD t undef = _
    generalize a.tmps.getD t undef = v at this
    cases this with
    | closed h => cases h with | val h => rfl
  exact wp_cond_split hv (fun h => ht h G a w β ok hr) (fun h => hf h G a w β ok hr)
abbrev LoopQ (I : St → Prop) (μ : St → Nat) (S : St) (Q : Exit → St → Prop) : Exit → St → Prop
  | .normal, S' => I S' ∧ μ S' < μ S
  | e, S' => Q e S'
theorem T.loop {c : Code} (I : St → Prop) (μ : St → Nat) (h0 : I S)
    (round : ∀ S, I S → T X c S (LoopQ I μ S Q)) : T X (.loop c) S Q := fun G a w β ok hr => by
  -- the measure of a machine state: the least one of the states that it may be
  let J : Act → World → Prop := fun a w => ∃ S β ok, Rep G S a w β ok ∧ I S
  let M : Act → World → Nat → Prop := fun a w n => ∃ S β ok, Rep G S a w β ok ∧ I S ∧ μ S = n
  have key : ∀ n a w, M a w n → ∀ (b : Frame) (k : List Item) (cs : List Frame), ∃ e a' w', Lift G Q e a' w' ∧ Arrives X.P (lone (b.at a (.code c :: .inLoop c :: k)) cs w) b k cs e a' w' := by
    intro n
    induction n using Nat.strongRecOn with
    | _ n ih =>
      intro a w ⟨S, β, ok, hr, hI, hn⟩ b k cs
      obtain ⟨e, a₁, w₁, hq, harr⟩ := round S hI G a w β ok hr b (.inLoop c :: k) cs
      obtain ⟨S₁, β₁, ok₁, hr₁, hq⟩ := hq
      cases e with
      | normal =>
        obtain ⟨hI₁, hlt⟩ := hq
        obtain ⟨e₂, a₂, w₂, hq₂, harr₂⟩ := ih (μ S₁) (hn ▸ hlt) a₁ w₁ ⟨S₁, β₁, ok₁, hr₁, hI₁, rfl⟩ b k cs
        exact ⟨e₂, a₂, w₂, hq₂, .of_steps (Steps.trans harr (.one step_inLoop)) harr₂⟩
      | exit id => exact ⟨_, a₁, w₁, ⟨S₁, β₁, ok₁, hr₁, hq⟩, .pass (x := .inLoop c) rfl (fun _ _ => .inl (by simp)) harr⟩
      | goto l => exact ⟨_, a₁, w₁, ⟨S₁, β₁, ok₁, hr₁, hq⟩, .pass (x := .inLoop c) rfl (fun _ _ => .inl (by simp)) harr⟩
      | ret => exact ⟨_, a₁, w₁, ⟨S₁, β₁, ok₁, hr₁, hq⟩, .pass (x := .inLoop c) rfl (fun _ _ => .inl (by simp)) harr⟩
      | panic ch => exact ⟨_, a₁, w₁, ⟨S₁, β₁, ok₁, hr₁, hq⟩, .pass (x := .inLoop c) rfl (fun _ _ => .inl (by simp)) harr⟩
      | outgrown => exact ⟨_, a₁, w₁, ⟨S₁, β₁, ok₁, hr₁, hq⟩, .pass (x := .inLoop c) rfl (fun _ _ => .inl (by simp)) harr⟩
  intro b k cs
  obtain ⟨e, a', w', hq, harr⟩ := key _ a w ⟨S, β, ok, hr, h0, rfl⟩ b k cs
  exact ⟨e, a', w', hq, .of_steps (.one step_loop) harr⟩

/-! ### a region in the text's order -/
theorem T.region {id : Nat} {l : List Oper} (h : TL X l.toArray l S Q) : T X (.region id l.toArray false) S Q := fun G a w β ok hr =>
  wp_region_lit (h G a w β ok hr)
theorem TL.nil {ops : Array Oper} (h : Q .normal S) : TL X ops [] S Q := fun _ _ _ β ok hr => wpList_nil ⟨S, β, ok, hr, h⟩

theorem TL.done {ops : Array Oper} {y : Code} (h : T X y S Q) : TL X ops [] S (Then X y Q) := TL.nil h
theorem T.skipDone {y : Code} (h : T X y S Q) : T X .skip S (Then X y Q) := T.skip h
theorem TL.doneB {ops : Array Oper} {id : Nat} {y : Code} (h : T X y S Q) : TL X ops [] S (InBlock id (Then X y Q)) := TL.nil h
theorem T.skipDoneB {id : Nat} {y : Code} (h : T X y S Q) : T X .skip S (InBlock id (Then X y Q)) := T.skip h

theorem getD_set_self {ts : Array Value} {t : Nat} {v u : Value} (h : t < ts.size) : (ts.setIfInBounds t v).getD t u = v := by
  simp [Array.getD_eq_getD_getElem?, h]
theorem getD_set_ne {ts : Array Value} {t s : Nat} {v u : Value} (h : t ≠ s) : (ts.setIfInBounds t v).getD s u = ts.getD s u := by
  simp [Array.getD_eq_getD_getElem?, h]

/-- A slot is filled. -/
theorem Rep.put {G : Gh} {a : Act} {w : World} {β : List (Option Nat)} {ok : Nat → Prop} {t : Nat} {d : Dat} {v : Value} (hr : Rep G S a w β ok) (ht : Nat.blt t S.n = true) (he : Enc w ok β d v) :
    Rep G { S with sl := (t, d) :: S.sl } (a.put (some t) v) w β ok := by
  have ht' : t < S.n := by simpa [Nat.blt_eq] using ht
  refine { hr.toRepB with hd := hr.hd, hs := ?_, sl := ?_ }
  · simpa [Act.put] using hr.hs
  · intro s d' hl
    rw [lk_cons] at hl
    simp only [Act.put]
    by_cases h : t = s
    · subst h
      rw [if_pos rfl] at hl
      obtain rfl := Option.some.inj hl
      refine ⟨ht', ?_⟩
      rw [getD_set_self (Nat.lt_of_lt_of_le ht' hr.hs)]; exact he
    · rw [if_neg h] at hl
      rw [getD_set_ne h]
      exact hr.sl s d' hl

theorem wp_value {P : Program} {ops : Array Oper} {Q : Exit → Act → World → Prop} {a : Act} {w w1 : World} {rest : List Oper} {o : Oper} {v : Value} (hg : o.guard = none)
    (hrun : (execOp a.eval o).run P w = .ok (.value v) w1) (h : wpList P ops Q rest (a.put o.dst v) w1) : wpList P ops Q (o :: rest) a w := by
  refine wpList_plain hg fun K hK => ?_
  unfold Oper.wp
  rw [hrun]
  exact hK _ _ h
theorem wp_skipv {P : Program} {ops : Array Oper} {Q : Exit → Act → World → Prop} {a : Act} {w w1 : World} {rest : List Oper} {o : Oper} (hg : o.guard = none)
    (hrun : (execOp a.eval o).run P w = .ok .skip w1) (h : wpList P ops Q rest (a.put o.dst undef) w1) : wpList P ops Q (o :: rest) a w := by
  refine wpList_plain hg fun K hK => ?_
  unfold Oper.wp
  rw [hrun]
  exact hK _ _ h

/-- What a state says of an operand. -/
def ev (S : List (Nat × Dat)) : Operand → Option Dat
  | .tmp t => lk S t
  | .const v => bif simple v then some (.val v) else none
  | .func f => some (.fn (.func f) [] [])
  | .global _ => none
theorem ev_enc {G : Gh} {a : Act} {w : World} {β : List (Option Nat)} {ok : Nat → Prop} (hr : Rep G S a w β ok) {x : Operand} {d : Dat} (h : ev S.sl x = some d) : Enc w ok β d (a.eval x) := by
  unfold ev at h
  split at h
  · exact (hr.sl _ _ h).2
  · rename_i v
    cases hv : simple v with
    | true => rw [hv] at h; obtain rfl := Option.some.inj h; exact .closed (.val hv)
    | false => rw [hv] at h; cases h
  · obtain rfl := Option.some.inj h
    exact .closed (.fn (vs := []) (us := []) .nil .nil)
  · cases h

/-- An operation of no effect: its value, told by its operands' content. -/
theorem TL.val_ {ops : Array Oper} {rest : List Oper} {op : Op} {ty : TypeId} {pos : String} {after : Array Edge} {t : Nat} {d : Dat}
    (ht : Nat.blt t S.n = true)
    (hrun : ∀ G a w β ok, Rep G S a w β ok → ∃ v, (execOp a.eval { dst := some t, op := op, type := ty, pos := pos, after := after, guard := none }).run X.P w = .ok (.value v) w ∧ Enc w ok β d v)
    (h : TL X ops rest { S with sl := (t, d) :: S.sl } Q) :
    TL X ops ({ dst := some t, op := op, type := ty, pos := pos, after := after, guard := none } :: rest) S Q := fun G a w β ok hr => by
  obtain ⟨v, h1, h2⟩ := hrun G a w β ok hr
  exact wp_value rfl h1 (h G _ w β ok (hr.put ht h2))
end rules
end Go.Am
namespace Go.Am
inductive AllT (P : Program) : List (TypeId × TI) → Prop
  | nil : AllT P []
  | cons {t : TypeId} {i : TI} {r : List (TypeId × TI)} (h : TOk P t i) (hr : AllT P r) : AllT P ((t, i) :: r)
theorem AllT.lkT {P : Program} {l : List (TypeId × TI)} (h : AllT P l) (t : TypeId) (i : TI) (hl : Go.Am.lkT l t = some i) : TOk P t i := by
  induction h with
  | nil => simp [Go.Am.lkT] at hl
  | cons h hr ih =>
    rename_i t' i' r
    simp only [Go.Am.lkT] at hl
    cases hb : Nat.beq t' t with
    | true =>
      rw [hb] at hl
      obtain rfl := Option.some.inj hl
      have := Nat.eq_of_beq_eq_true hb
      subst this; exact h
    | false => rw [hb] at hl; exact ih hl
end Go.Am
