/- A small program logic over the kit's wp. Part 12: a region of open order, where no box is at hand: each operation is shown once, out of what it looks at. -/
import Derived.Test.YtbogkjbjgcclnaaAmB
import Derived.Orders
namespace Go.Am
open Go.RowKit
section
variable {P : Program} {o : Oper} {a : Act} {w : World} {K K' : Act → World → Prop} {Q Q' : Exit → Act → World → Prop}
theorem wp_conv (h : o.wp P a w K Q) (hk : ∀ a' w', K a' w' → ((∃ v, a' = a.put o.dst v) ∨ a'.defers ≠ []) → K' a' w') (hq : ∀ e a w, e ≠ .normal → Q e a w → False) : o.wp P a w K' Q' := by
  unfold Oper.wp at *
  generalize (execOp a.eval o).run P w = r at *
  cases r with
  | ok n w' =>
    cases n <;> simp only [Oper.upon] at h ⊢
    case value v => exact hk _ _ h (.inl ⟨v, rfl⟩)
    case skip => exact hk _ _ h (.inl ⟨undef, rfl⟩)
    case defer d => exact hk _ _ h (.inr (by cases hd : o.dst <;> simp [Act.put]))
    case enter f args =>
      refine Calls.mono h (fun e w'' he => ?_)
      cases e with
      | returned v => exact hk _ _ he (.inl ⟨v, rfl⟩)
      | panicked c => exact (hq _ _ _ (by simp) he).elim
      | outgrown => obtain ⟨a₀, w₀, h'⟩ := he; exact (hq _ _ _ (by simp) h').elim
    case row row args => exact Rows.mono h (fun v w'' he => hk _ _ he (.inl ⟨v, rfl⟩))
  | halt x w' =>
    cases x <;> simp only [Oper.upon] at h ⊢
    case panic v => exact (hq _ _ _ (by simp) h).elim
end

/-- The slots at which an operation looks. -/
def looks (l : List Oper) (o : Oper) : List Nat :=
  (o.op.operands.toList.filterMap fun | .tmp t => some t | _ => none) ++ (match o.guard with | some (g, _) => (match l[g]? with | some og => og.dst.toList | none => []) | none => [])
def binding (o : Oper) : List Nat := (o.after.toList.filter fun e => Region.binds .any e).map fun e => e.on
/-- Which operation writes a slot. -/
def writer (l : List Oper) (t : Nat) : Option Nat := l.findIdx? fun o => o.dst == some t
/-- What is known when operation i comes up. -/
def knownAt (l : List Oper) (vals : List Dat) (base : List (Nat × Dat)) (o : Oper) : List (Nat × Dat) :=
  (looks l o).filterMap fun t => match writer l t with
    | some j => if (binding o).contains j then (vals[j]?).map fun d => (t, d) else (lk base t).map fun d => (t, d)
    | none => (lk base t).map fun d => (t, d)
/-- The slots are written once; what an operation looks at is written ahead of it, or behind it. -/
def drawOk (l : List Oper) : Bool :=
  ((List.range l.length).zip l).all fun (i, o) =>
    (match o.dst with | some t => writer l t == some i | none => false) &&
    (o.after.toList.all fun e => decide (e.on < i)) &&
    (looks l o).all fun t => match writer l t with
      | some j => (binding o).contains j || (match l[j]? with | some oj => (binding oj).contains i | none => false)
      | none => true

section
variable {X : Prg} {n : Nat} {Q : Exit → St → Prop} {l : List Oper} {base : List (Nat × Dat)} {vals : List Dat}

/-- What is known behind the operations that have come up. -/
def slOf (l : List Oper) (vals : List Dat) (base : List (Nat × Dat)) (b : Nat → Bool) (t : Nat) : Option Dat :=
  match writer l t with
  | some j => if b j then vals[j]? else lk base t
  | none => lk base t
structure RepD (G : Gh) (l : List Oper) (vals : List Dat) (base : List (Nat × Dat)) (n : Nat) (b : Nat → Bool) (a : Act) (w : World) (ok : Nat → Prop) : Prop where
  rb : RepB G [] w [] ok
  hd : a.defers = []
  hs : n ≤ a.tmps.size
  sl : ∀ (t : Nat) (d : Dat), slOf l vals base b t = some d → t < n ∧ Enc w ok [] d (a.tmps.getD t undef)

theorem writer_dst {t j : Nat} (h : writer l t = some j) : ∃ o, l[j]? = some o ∧ o.dst = some t := by
  unfold writer at h
  rw [List.findIdx?_eq_some_iff_getElem] at h
  obtain ⟨h1, h2, _⟩ := h
  exact ⟨l[j], List.getElem?_eq_getElem h1, by simpa using h2⟩
theorem drawOk_at (h : drawOk l = true) {i : Nat} {o : Oper} (hi : l[i]? = some o) : (∃ t, o.dst = some t ∧ writer l t = some i) ∧ (∀ e ∈ o.after.toList, e.on < i) ∧
    ∀ t ∈ looks l o, ∀ j, writer l t = some j → (binding o).contains j = true ∨ ∃ oj, l[j]? = some oj ∧ (binding oj).contains i = true := by
  have hlt : i < l.length := (List.getElem?_eq_some_iff.1 hi).1
  have hmem : (i, o) ∈ (List.range l.length).zip l := by
    rw [List.mem_iff_getElem?]
    refine ⟨i, ?_⟩
    rw [List.getElem?_zip_eq_some]
    exact ⟨List.getElem?_range hlt, hi⟩
  have := List.all_eq_true.1 h _ hmem
  simp only [Bool.and_eq_true, List.all_eq_true, decide_eq_true_eq] at this
  obtain ⟨⟨h1, h2⟩, h3⟩ := this
  refine ⟨?_, h2, fun t ht j hj => ?_⟩
  · split at h1
    · rename_i t ht; exact ⟨t, ht, by simpa using h1⟩
    · cases h1
  · have := h3 t ht
    rw [hj] at this
    simp only [Bool.or_eq_true] at this
    rcases this with h | h
    · exact .inl h
    · refine .inr ?_
      split at h
      · rename_i oj hoj; exact ⟨oj, hoj, h⟩
      · cases h

/-- One operation of a region, shown out of what it looks at. -/
def OpD (X : Prg) (l : List Oper) (vals : List Dat) (base : List (Nat × Dat)) (n : Nat) (i : Nat) (o : Oper) : Prop :=
  ∀ t d, o.dst = some t → vals[i]? = some d → TL X l.toArray [o] ⟨knownAt l vals base o, [], n⟩ (fun e S => e = .normal ∧ lk S.sl t = some d ∧ S.bx = [] ∧ S.n = n)

theorem draw_step {G : Gh} {b : Nat → Bool} {a : Act} {w : World} {ok : Nat → Prop} {i : Nat} {o : Oper} (hok : drawOk l = true) (hlen : vals.length = l.length) (hi : l[i]? = some o) (hop : OpD X l vals base n i o)
    (hr : RepD G l vals base n b a w ok) (hb : b i = false) (hpre : ∀ j ∈ binding o, b j = true) (hpost : ∀ j oj, l[j]? = some oj → i ∈ binding oj → b j = false)
    {K : Act → World → Prop} {Qm : Exit → Act → World → Prop} (hK : ∀ a' w' ok', RepD G l vals base n (fun j => if j = i then true else b j) a' w' ok' → K a' w') : wpOp X.P l.toArray Qm i K a w := by
  obtain ⟨⟨t, ht, hw⟩, _, hlook⟩ := drawOk_at hok hi
  have hlt : i < l.length := (List.getElem?_eq_some_iff.1 hi).1
  have hd : vals[i]? = some (vals[i]'(by omega)) := List.getElem?_eq_getElem _
  generalize vals[i]'(by omega) = d at hd
  have hh := hop t d ht hd
  -- what is known
  have hk : Rep (Gh.of w [] ok) ⟨knownAt l vals base o, [], n⟩ a w [] ok := by
    refine { hr.rb.start with hd := hr.hd, hs := hr.hs, sl := fun s e hs => ?_ }
    have hmem : ∀ {m : List (Nat × Dat)} {s : Nat} {e : Dat}, lk m s = some e → (s, e) ∈ m := by
      intro m
      induction m with
      | nil => intro s e h; simp [lk] at h
      | cons p m ih =>
        intro s e h
        obtain ⟨q, f⟩ := p
        rw [lk_cons] at h
        split at h
        · rename_i e'; subst e'; obtain rfl := Option.some.inj h; exact List.mem_cons_self
        · exact List.mem_cons_of_mem _ (ih h)
    have h1 := hmem hs
    unfold knownAt at h1
    rw [List.mem_filterMap] at h1
    obtain ⟨s', hs', h2⟩ := h1
    refine hr.sl s e ?_
    unfold slOf
    split at h2
    · rename_i j hj
      have hs'' : s' = s := by
        split at h2 <;> (rw [Option.map_eq_some_iff] at h2; obtain ⟨_, _, h3⟩ := h2; exact (Prod.mk.inj h3).1)
      subst hs''
      rw [hj]
      dsimp only
      split at h2
      · rename_i hc
        rw [if_pos (hpre j (by simpa using hc))]
        rw [Option.map_eq_some_iff] at h2; obtain ⟨f, h3, h4⟩ := h2; rw [h3, (Prod.mk.inj h4).2]
      · rename_i hc
        rcases hlook s' hs' j hj with h3 | ⟨oj, h3, h4⟩
        · exact absurd h3 hc
        · rw [if_neg (by rw [hpost j oj h3 (by simpa using h4)]; simp)]
          rw [Option.map_eq_some_iff] at h2; obtain ⟨f, h5, h6⟩ := h2; rw [h5, (Prod.mk.inj h6).2]
    · rename_i hj
      rw [Option.map_eq_some_iff] at h2; obtain ⟨f, h3, h4⟩ := h2
      obtain ⟨rfl, rfl⟩ := Prod.mk.inj h4
      rw [hj]; exact h3
  have hrun := hh _ a w [] ok hk
  -- the state behind it
  have hfin : ∀ a' w', Lift (Gh.of w [] ok) (fun e S => e = .normal ∧ lk S.sl t = some d ∧ S.bx = [] ∧ S.n = n) .normal a' w' → ((∃ v, a' = a.put (some t) v) ∨ a'.defers ≠ []) → K a' w' := by
    intro a' w' ⟨S', β', ok', h1, _, h2, h3, h4⟩ hv
    obtain ⟨v, rfl⟩ := hv.resolve_right (by simp [h1.hd])
    have hbx : β' = [] := by
      have := h1.len; rw [h3] at this; exact List.length_eq_zero_iff.1 this
    subst hbx
    have hchg : Chg w w' (fun _ => False) := ⟨h1.os, h1.out, h1.tape, h1.gsz, fun b hb _ => h1.prot b hb (fun ⟨k, hk⟩ => by simp at hk)⟩
    have h5 := h1.sl t d h2
    rw [h4] at h5
    have hrb : RepB G [] w' [] ok' := (hr.rb.grow hchg).addOk h1.ok0 (fun b hb => by
      rcases h1.org b hb with h | h | ⟨k, hk⟩
      · exact .inl h
      · exact .inr ⟨(h1.okf b hb).1, Nat.le_trans hr.rb.gsz h, fun k hk => by simp at hk⟩
      · simp at hk)
    refine hK _ w' ok' { rb := hrb, hd := hr.hd, hs := by simpa [Act.put] using hr.hs, sl := fun s e hs => ?_ }
    have hts : t < a.tmps.size := Nat.lt_of_lt_of_le h5.1 hr.hs
    by_cases hst : s = t
    · subst hst
      unfold slOf at hs
      rw [hw] at hs
      simp only [if_true] at hs
      rw [hd] at hs
      obtain rfl := Option.some.inj hs
      exact h5
    · have hs' : slOf l vals base b s = some e := by
        unfold slOf at hs ⊢
        split at hs
        · rename_i j hj
          have hji : j ≠ i := by
            rintro rfl
            obtain ⟨oj, h6, h7⟩ := writer_dst hj
            rw [hi] at h6
            obtain rfl := Option.some.inj h6
            rw [ht] at h7
            exact hst (Option.some.inj h7).symm
          simpa [hji] using hs
        · exact hs
      have h6 := hr.sl s e hs'
      refine ⟨h6.1, ?_⟩
      have : (a.put (some t) v).tmps.getD s undef = a.tmps.getD s undef := getD_set_ne (Ne.symm hst)
      rw [this]
      exact (h6.2.mono (hr.rb.stay hchg)).mono (RepB.stayOk h1.ok0)
  unfold wpOp
  have hi' : l.toArray[i]? = some o := by simpa using hi
  rw [hi']
  dsimp only
  unfold wpList at hrun
  split
  · rename_i hwt
    rw [if_pos hwt] at hrun
    rcases hrun with hrun | ⟨_, a₀, w₀, S', _, _, _, hno, _⟩
    · refine .inl (wp_conv hrun (fun a' w' h hv => hfin a' w' h (by rwa [ht] at hv)) ?_)
      intro e a' w' hne ⟨S', _, _, _, h, _⟩
      exact hne h
    · cases hno
  · rename_i hwt
    rw [if_neg hwt] at hrun
    exact hfin _ w hrun (.inl ⟨undef, by rw [ht]⟩)

theorem T.draw {id : Nat} (hm : X.P.follows .mixedOrders = true) (hok : drawOk l = true) (hlen : vals.length = l.length) (hops : ∀ i o, l[i]? = some o → OpD X l vals base n i o)
    {sl' : List (Nat × Dat)} (hsl : ∀ t d, lk sl' t = some d → slOf l vals base (fun _ => true) t = some d) (h : Q .normal ⟨sl', [], n⟩) : T X (.region id l.toArray true) ⟨base, [], n⟩ Q := fun G a w β ok hr => by
  have hβ : β = [] := by have := hr.len; exact List.length_eq_zero_iff.1 this
  subst hβ
  have hr0 : RepD G l vals base n (fun _ => false) a { w with drawn := w.drawn + 1 } ok := by
    have hg := hr.grow (w' := { w with drawn := w.drawn + 1 }) ⟨rfl, rfl, rfl, Nat.le_refl _, fun _ _ _ => rfl⟩
    refine { rb := hg.toRepB, hd := hg.hd, hs := hg.hs, sl := fun t d ht => hg.sl t d ?_ }
    unfold slOf at ht
    split at ht
    · rw [if_neg (by simp)] at ht; exact ht
    · exact ht
  refine wp_region_any hm ?_
  have key : ∀ (fuel : Nat) (listed : Array Bool) (a : Act) (w : World) (ok : Nat → Prop), listed.size = l.length → RepD G l vals base n (fun j => listed.getD j true) a w ok →
      (∀ j oj, l[j]? = some oj → listed.getD j true = true → ∀ m ∈ binding oj, listed.getD m true = true) → ((List.range l.length).filter fun j => !listed.getD j true).length ≤ fuel → wpAny X.P .any l.toArray (Lift G Q) fuel listed a w := by
    have hready0 : ∀ listed : Array Bool, listed.size = l.length → Region.ready .any l.toArray listed = [] → ∀ j, j < l.length → listed.getD j true = true := by
      intro listed hsz hr j
      induction j using Nat.strongRecOn with
      | _ j ih =>
        intro hj
        cases hc : listed.getD j true with
        | true => rfl
        | false =>
          have hmem : j ∈ Region.ready .any l.toArray listed := by
            unfold Region.ready
            rw [List.mem_filter]
            refine ⟨by simpa using hj, ?_⟩
            have hj' : l.toArray[j]? = some l[j] := by simp [hj]
            rw [hc, hj']
            simp only [Bool.not_false, Bool.true_and, Option.map_some, Option.getD_some]
            rw [Array.all_eq_true']
            intro e he
            have := (drawOk_at hok (List.getElem?_eq_getElem hj)).2.1 e (by simpa using he)
            have h2 := ih e.on this (by omega)
            have h3 : listed.getD e.on false = true := by
              rw [Array.getD_eq_getD_getElem?] at h2 ⊢
              rw [Array.getElem?_eq_getElem (by omega)] at h2 ⊢
              exact h2
            simp [h3]
          rw [hr] at hmem; cases hmem
    have hdone : ∀ (listed : Array Bool) (a : Act) (w : World) (ok : Nat → Prop), listed.size = l.length → RepD G l vals base n (fun j => listed.getD j true) a w ok → Region.ready .any l.toArray listed = [] → Lift G Q .normal a w := by
      intro listed a w ok hsz hr hre
      refine ⟨⟨sl', [], n⟩, [], ok, { hr.rb with hd := hr.hd, hs := hr.hs, sl := fun t d ht => hr.sl t d ?_ }, h⟩
      have := hsl t d ht
      unfold slOf at this ⊢
      split at this
      · rename_i j hj
        obtain ⟨oj, h1, _⟩ := writer_dst hj
        have h2 := hready0 listed hsz hre j (List.getElem?_eq_some_iff.1 h1).1
        rw [if_pos h2]; simpa using this
      · exact this
    intro fuel
    induction fuel with
    | zero =>
      intro listed a w ok hsz hr hcl hf
      have hall : ∀ j, j < l.length → listed.getD j true = true := by
        intro j hj
        have : ((List.range l.length).filter fun j => !listed.getD j true) = [] := List.length_eq_zero_iff.1 (by omega)
        rw [List.filter_eq_nil_iff] at this
        simpa using this j (by simpa using hj)
      have hre : Region.ready .any l.toArray listed = [] := by
        unfold Region.ready
        rw [List.filter_eq_nil_iff]
        intro j hj
        have := hall j (by simpa using hj)
        simp [this]
      exact ⟨hre, hdone listed a w ok hsz hr hre⟩
    | succ fuel ih =>
      intro listed a w ok hsz hr hcl hf
      refine ⟨fun hre => hdone listed a w ok hsz hr hre, fun i hi => ?_⟩
      unfold Region.ready at hi
      rw [List.mem_filter] at hi
      obtain ⟨hi1, hi2⟩ := hi
      have hlt : i < l.length := by simpa using hi1
      have hli : l[i]? = some l[i] := List.getElem?_eq_getElem hlt
      have hi' : l.toArray[i]? = some l[i] := by simp [hlt]
      rw [hi'] at hi2
      simp only [Option.map_some, Option.getD_some, Bool.and_eq_true, Bool.not_eq_true'] at hi2
      obtain ⟨hnl, hall⟩ := hi2
      rw [Array.all_eq_true'] at hall
      have hpre : ∀ j ∈ binding l[i], listed.getD j true = true := by
        intro j hj
        unfold binding at hj
        rw [List.mem_map] at hj
        obtain ⟨e, he, rfl⟩ := hj
        rw [List.mem_filter] at he
        have := hall e (by simpa using he.1)
        rw [he.2] at this
        simp only [Bool.not_true, Bool.false_or] at this
        have hon := (drawOk_at hok hli).2.1 e he.1
        rw [Array.getD_eq_getD_getElem?] at this ⊢
        rw [Array.getElem?_eq_getElem (by omega)] at this ⊢
        exact this
      refine draw_step hok hlen hli (hops i _ hli) hr hnl hpre (fun j oj hj hm => ?_) (fun a' w' ok' hr' => ih _ a' w' ok' (by simpa using hsz) ?_ ?_ ?_)
      · cases hc : listed.getD j true with
        | false => rfl
        | true => rw [hcl j oj hj hc i hm] at hnl; cases hnl
      · have : (fun j => (listed.setIfInBounds i true).getD j true) = fun j => if j = i then true else listed.getD j true := by
          funext j
          by_cases e : j = i
          · subst e; simp [Array.getD_eq_getD_getElem?, hsz, hlt]
          · rw [if_neg e]; simp [Array.getD_eq_getD_getElem?, Ne.symm e]
        rw [this]; exact hr'
      · intro j oj hj hb m hm
        have hg : ∀ q, (listed.setIfInBounds i true).getD q true = if q = i then true else listed.getD q true := by
          intro q
          by_cases e : q = i
          · subst e; simp [Array.getD_eq_getD_getElem?, hsz, hlt]
          · rw [if_neg e]; simp [Array.getD_eq_getD_getElem?, Ne.symm e]
        rw [hg] at hb ⊢
        split
        · rfl
        · split at hb
          · rename_i e; subst e
            rw [hli] at hj
            obtain rfl := Option.some.inj hj
            exact hpre m hm
          · exact hcl j oj hj hb m hm
      · have hg : ∀ q, (listed.setIfInBounds i true).getD q true = if q = i then true else listed.getD q true := by
          intro q
          by_cases e : q = i
          · subst e; simp [Array.getD_eq_getD_getElem?, hsz, hlt]
          · rw [if_neg e]; simp [Array.getD_eq_getD_getElem?, Ne.symm e]
        have hlt' : ((List.range l.length).filter fun j => !(listed.setIfInBounds i true).getD j true).length < ((List.range l.length).filter fun j => !listed.getD j true).length := by
          have e1 : ((List.range l.length).filter fun j => !(listed.setIfInBounds i true).getD j true) = ((List.range l.length).filter fun j => !listed.getD j true).filter fun j => decide (j ≠ i) := by
            rw [List.filter_filter]
            refine List.filter_congr (fun j _ => ?_)
            rw [hg]
            by_cases e : j = i <;> simp [e]
          rw [e1]
          refine List.length_filter_lt_length_iff_exists.2 ⟨i, ?_, by simp⟩
          rw [List.mem_filter]
          exact ⟨by simpa using hlt, by simp [hnl]⟩
        omega
  refine key _ _ a _ ok (by simp) ?_ ?_ (by
    have := List.length_filter_le (fun j => !(Array.replicate l.toArray.size false).getD j true) (List.range l.length)
    simpa using this)
  · have hr1 : ∀ t d, slOf l vals base (fun j => (Array.replicate l.toArray.size false).getD j true) t = some d → slOf l vals base (fun _ => false) t = some d := by
      intro t d ht
      unfold slOf at ht ⊢
      split at ht
      · rename_i j hj
        obtain ⟨oj, h1, _⟩ := writer_dst hj
        have hlt := (List.getElem?_eq_some_iff.1 h1).1
        rw [if_neg (by simp [Array.getD_eq_getD_getElem?, hlt])] at ht
        simpa using ht
      · exact ht
    exact { rb := hr0.rb, hd := hr0.hd, hs := hr0.hs, sl := fun t d ht => hr0.sl t d (hr1 t d ht) }
  · intro j oj hj hb
    have hlt := (List.getElem?_eq_some_iff.1 hj).1
    simp [Array.getD_eq_getD_getElem?, hlt] at hb
end
end Go.Am
