/- The law WalkGoes. -/
import Derived.Test.YtkmdfaodbiknlaaG0
import Derived.Test.YtkmdfaodbiknlaaG14xa
import Derived.Test.YtkmdfaodbiknlaaG20xa
import Derived.Test.YtkmdfaodbiknlaaTwb
set_option linter.unusedVariables false
namespace Go.Proofs.Ytkmdfaodbiknlaa.S
open Go Go.Sm
abbrev TG := Ex Int (Int ⊕ ((Bool × Int) ⊕ Int))
def toG (n : Int) : Bool ⊕ (Int ⊕ Int) → Int ⊕ TG
  | .inl v => .inr (.ret (.inr (.inl (v, n))))
  | .inr (.inl v) => .inr (.ret (.inr (.inr v)))
  | .inr (.inr v) => .inl v
/-- How many rounds there are. -/
def ansG (most : Nat) (len : Nat) : TG := if 0 < most ∧ most ≤ len then .ret (.inr (.inr (most : Int))) else .brk (len : Int)
theorem goG {r : Int → El → Int → Option (Bool ⊕ (Int ⊕ Int))} (most : Nat) : ∀ (suf : List El) (n : Nat) (i : Int), (most = 0 ∨ n < most) → n + suf.length ≤ 100000 →
    (∀ (m : Nat) (x : El), suf[m]? = some x → r (i + m) x ((n + m : Nat) : Int) = some (if ((n + m + 1 : Nat) : Int) = (most : Int) then .inr (.inl ((n + m + 1 : Nat) : Int)) else .inr (.inr ((n + m + 1 : Nat) : Int)))) →
    goR (fun i x (s : Int) => bnd (r i x s) fun v => some (toG s v)) (fun s => .brk s) suf i (n : Int) = some (ansG most (n + suf.length)) := by
  intro suf
  induction suf with
  | nil =>
    intro n i h1 h2 h3
    unfold goR ansG
    rw [if_neg (by simp; omega)]; rfl
  | cons x suf ih =>
    intro n i h1 h2 h3
    have hx := h3 0 x rfl
    rw [show i + ((0 : Nat) : Int) = i by omega, Nat.add_zero] at hx
    unfold goR
    rw [hx, bnd_some', bnd_some']
    by_cases c : n + 1 = most
    · rw [if_pos (by omega), show toG (n : Int) (Sum.inr (Sum.inl ((n + 1 : Nat) : Int))) = Sum.inr (.ret (.inr (.inr ((n + 1 : Nat) : Int)))) from rfl]
      dsimp only
      unfold ansG
      simp only [List.length_cons]
      rw [if_pos (by omega), c]
    · rw [if_neg (by omega), show toG (n : Int) (Sum.inr (Sum.inr ((n + 1 : Nat) : Int))) = Sum.inl ((n + 1 : Nat) : Int) from rfl]
      dsimp only
      rw [ih (n + 1) (i + 1) (by omega) (by simp only [List.length_cons] at h2; omega) (fun m y hy => by
        have := h3 (m + 1) y (by simpa using hy)
        rw [show i + 1 + (m : Int) = i + ((m + 1 : Nat) : Int) by omega, show n + 1 + m = n + (m + 1) by omega]; exact this)]
      simp only [List.length_cons]
      rw [show n + 1 + suf.length = n + (suf.length + 1) by omega]
theorem goGB {r : Int → El → Int → Option (Bool ⊕ (Int ⊕ Int))} (most : Nat) : ∀ (suf : List El) (n : Nat) (i : Int), (most = 0 ∨ n < most) → n + suf.length ≤ 100000 →
    (∀ (m : Nat) (x : El), suf[m]? = some x → r (i - m) x ((n + m : Nat) : Int) = some (if ((n + m + 1 : Nat) : Int) = (most : Int) then .inr (.inl ((n + m + 1 : Nat) : Int)) else .inr (.inr ((n + m + 1 : Nat) : Int)))) →
    goB (fun i x (s : Int) => bnd (r i x s) fun v => some (toG s v)) (fun s => .brk s) suf i (n : Int) = some (ansG most (n + suf.length)) := by
  intro suf
  induction suf with
  | nil =>
    intro n i h1 h2 h3
    unfold goB ansG
    rw [if_neg (by simp; omega)]; rfl
  | cons x suf ih =>
    intro n i h1 h2 h3
    have hx := h3 0 x rfl
    rw [show i - ((0 : Nat) : Int) = i by omega, Nat.add_zero] at hx
    unfold goB
    rw [hx, bnd_some', bnd_some']
    by_cases c : n + 1 = most
    · rw [if_pos (by omega), show toG (n : Int) (Sum.inr (Sum.inl ((n + 1 : Nat) : Int))) = Sum.inr (.ret (.inr (.inr ((n + 1 : Nat) : Int)))) from rfl]
      dsimp only
      unfold ansG
      simp only [List.length_cons]
      rw [if_pos (by omega), c]
    · rw [if_neg (by omega), show toG (n : Int) (Sum.inr (Sum.inr ((n + 1 : Nat) : Int))) = Sum.inl ((n + 1 : Nat) : Int) from rfl]
      dsimp only
      rw [ih (n + 1) (i - 1) (by omega) (by simp only [List.length_cons] at h2; omega) (fun m y hy => by
        have := h3 (m + 1) y (by simpa using hy)
        rw [show i - 1 - (m : Int) = i - ((m + 1 : Nat) : Int) by omega, show n + 1 + m = n + (m + 1) by omega]; exact this)]
      simp only [List.length_cons]
      rw [show n + 1 + suf.length = n + (suf.length + 1) by omega]
theorem r0_eq (a2 : UInt8) (first n : Nat) (want : List El) (hb : first + want.length ≤ 100000) (hn : n < want.length) : law10_WalkGoes_r0 ((first : Int) + (n : Int)) want[n] a2 false (first : Int) (n : Int) want =
    some (if ((n + 1 : Nat) : Int) = (a2.toNat : Int) then .inr (.inl ((n + 1 : Nat) : Int)) else .inr (.inr ((n + 1 : Nat) : Int))) := by
  unfold law10_WalkGoes_r0
  rw [if_neg (by omega), w64_id (x := (first : Int) + (n : Int)) ⟨by omega, by omega⟩, if_pos rfl, idx_of (List.getElem?_eq_getElem hn), bnd_some', bnd_some', if_neg (by simp), w64_id ⟨by omega, by omega⟩, show (n : Int) + 1 = ((n + 1 : Nat) : Int) by omega]
  by_cases c : ((n + 1 : Nat) : Int) = (a2.toNat : Int)
  · rw [if_pos c, if_pos c]
  · rw [if_neg c, if_neg c]
theorem r1_eq (a2 : UInt8) (first n : Nat) (want : List El) (hb : first + want.length ≤ 100000) (hn : n < want.length) : law10_WalkGoes_r1 ((first : Int) + ((want.length - 1 - n : Nat) : Int)) (want[want.length - 1 - n]'(by omega)) a2 false (first : Int) (n : Int) want =
    some (if ((n + 1 : Nat) : Int) = (a2.toNat : Int) then .inr (.inl ((n + 1 : Nat) : Int)) else .inr (.inr ((n + 1 : Nat) : Int))) := by
  unfold law10_WalkGoes_r1
  rw [w64_id (x := (want.length : Int) - 1) ⟨by omega, by omega⟩, w64_id (x := (want.length : Int) - 1 - (n : Int)) ⟨by omega, by omega⟩, show (want.length : Int) - 1 - (n : Int) = ((want.length - 1 - n : Nat) : Int) by omega,
    if_neg (by omega), w64_id (x := (first : Int) + ((want.length - 1 - n : Nat) : Int)) ⟨by omega, by omega⟩, if_pos rfl, idx_of (List.getElem?_eq_getElem (show want.length - 1 - n < want.length by omega)), bnd_some', bnd_some', if_neg (by simp), w64_id ⟨by omega, by omega⟩, show (n : Int) + 1 = ((n + 1 : Nat) : Int) by omega]
  by_cases c : ((n + 1 : Nat) : Int) = (a2.toNat : Int)
  · rw [if_pos c, if_pos c]
  · rw [if_neg c, if_neg c]
def unG : TG → Int ⊕ ((Bool × Int) ⊕ Int)
  | .brk v => .inl v
  | .ret u => u
theorem range4_eq (a2 : UInt8) {h a b : Nat} {z : Nd} {l : List El} (hr : Rt h z l) (hl : l.length ≤ 400) (hab : a < b) (hb : b ≤ l.length) :
    walk_Range_int_1_4 a2 (a : Int) (b : Int) (some (c_tree_Node_int z)) false (a : Int) 0 ((l.take b).drop a) = some (unG (ansG a2.toNat (b - a))) := by
  have hlow := hr.low (by omega)
  have hwl : ((l.take b).drop a).length = b - a := by rw [List.length_drop, List.length_take]; omega
  obtain ⟨stk, d1, d2, d3⟩ := down_eq (first := 0) (i := a) hr.1 hr.2.1 (by omega) (by omega) (by omega)
  rw [Nat.zero_add, show ((0 : Nat) : Int) = 0 from rfl] at d1
  unfold walk_Range_int_1_4
  rw [if_neg (by omega), root_eq hr, bnd_some']
  dsimp only
  rw [d1, bnd_some']
  have hg := goG (r := fun i x s => law10_WalkGoes_r0 i x a2 false (a : Int) s ((l.take b).drop a)) a2.toNat ((l.take b).drop a) 0 (a : Int) (by omega) (by omega) (fun m x hx => by
    obtain ⟨hm, rfl⟩ := List.getElem?_eq_some_iff.1 hx
    rw [Nat.zero_add]
    exact r0_eq a2 a m _ (by omega) hm)
  rw [Nat.zero_add, hwl, show ((0 : Nat) : Int) = 0 from rfl] at hg
  have hlp := range_loop (f := walk_Range_int_1_4.l1 a2 (b : Int) false (a : Int) ((l.take b).drop a)) (fun i stk (s : Int) => (i, s, stk)) (fun i x (s : Int) => bnd (law10_WalkGoes_r0 i x a2 false (a : Int) s ((l.take b).drop a)) fun v => some (toG s v)) (fun s => .brk s) b hr.2.1 (by omega) (show h ≤ 400 by omega) hb (fun i stk s hi => by
      have e : walk_Range_int_1_4.l1 a2 (b : Int) false (a : Int) ((l.take b).drop a) ((i : Int), s, stk) = if (i : Int) < (b : Int) then rstep stk (fun x st' => bnd (law10_WalkGoes_r0 (i : Int) x a2 false (a : Int) s ((l.take b).drop a)) fun x38 => match x38 with
        | .inl x38 => some (Lp.done (Ex.ret (Sum.inr (Sum.inl (x38, s)))))
        | .inr (.inl x38) => some (Lp.done (Ex.ret (Sum.inr (Sum.inr x38))))
        | .inr (.inr x38) => some (Lp.next (w64 ((i : Int) + 1), x38, st'))) else some (Lp.done (Ex.brk s)) := rfl
      rw [e, if_pos (by omega)]
      congr 1
      funext x st'
      cases law10_WalkGoes_r0 (i : Int) x a2 false (a : Int) s ((l.take b).drop a) with
      | none => rfl
      | some v => rcases v with v | v | v <;> rfl) (fun stk s => by
      have e : walk_Range_int_1_4.l1 a2 (b : Int) false (a : Int) ((l.take b).drop a) ((b : Int), s, stk) = if (b : Int) < (b : Int) then rstep stk (fun x st' => bnd (law10_WalkGoes_r0 (b : Int) x a2 false (a : Int) s ((l.take b).drop a)) fun x38 => match x38 with
        | .inl x38 => some (Lp.done (Ex.ret (Sum.inr (Sum.inl (x38, s)))))
        | .inr (.inl x38) => some (Lp.done (Ex.ret (Sum.inr (Sum.inr x38))))
        | .inr (.inr x38) => some (Lp.next (w64 ((b : Int) + 1), x38, st'))) else some (Lp.done (Ex.brk s)) := rfl
      rw [e, if_neg (by omega)]) (b - a) a stk 0 _ (by omega) d2 hg
  rw [hlp, bnd_some']
  cases ansG a2.toNat (b - a) <;> rfl
theorem back1_eq (a2 : UInt8) {h a b : Nat} {z : Nd} {l : List El} (hr : Rt h z l) (hl : l.length ≤ 400) (hab : a < b) (hb : b ≤ l.length) :
    walk_Back_int_1 a2 (a : Int) (b : Int) (some (c_tree_Node_int z)) false (a : Int) 0 ((l.take b).drop a) = some (unG (ansG a2.toNat (b - a))) := by
  have hlow := hr.low (by omega)
  have hwl : ((l.take b).drop a).length = b - a := by rw [List.length_drop, List.length_take]; omega
  obtain ⟨stk, d1, d2, d3⟩ := down_eq (first := 0) (i := b - 1) hr.1 hr.2.1 (by omega) (by omega) (by omega)
  rw [Nat.zero_add, show ((0 : Nat) : Int) = 0 from rfl, show ((b - 1 : Nat) : Int) = (b : Int) - 1 by omega] at d1
  have hB : Bth h z l stk b := by
    obtain ⟨pre, w, fs, k, hs, h1, h2⟩ := d2.top
    obtain ⟨pre', w', fs', k', hs', h3⟩ := d3
    rw [hs] at hs'
    obtain ⟨rfl, e⟩ := List.append_inj' hs' rfl
    simp only [List.cons.injEq, and_true, walk_frame_int.mk.injEq, Option.some.injEq] at e
    obtain ⟨e1, _, e3⟩ := e
    have := cN_inj _ _ e1
    subst this
    obtain rfl : k = k' := by omega
    obtain ⟨_, _, q⟩ := h2 h3
    rw [show b - 1 + 1 = b by omega] at q
    exact ⟨pre, w, fs, k + 1, by rw [hs, show ((k + 1 : Nat) : Int) - 1 = (k : Int) by omega], q⟩
  unfold walk_Back_int_1
  rw [if_neg (by omega), root_eq hr, bnd_some']
  dsimp only
  rw [w64_id (x := (b : Int) - 1) ⟨by omega, by omega⟩, d1, bnd_some']
  have hg := goGB (r := fun i x s => law10_WalkGoes_r1 i x a2 false (a : Int) s ((l.take b).drop a)) a2.toNat ((l.take b).drop a).reverse 0 ((b : Int) - 1) (by omega) (by rw [List.length_reverse]; omega) (fun m x hx => by
    have hm := (List.getElem?_eq_some_iff.1 hx).1
    rw [List.length_reverse] at hm
    rw [List.getElem?_reverse hm, List.getElem?_eq_getElem (by omega)] at hx
    obtain rfl := Option.some.inj hx
    rw [Nat.zero_add]
    have := r1_eq a2 a m ((l.take b).drop a) (by omega) hm
    rw [show (a : Int) + ((((l.take b).drop a).length - 1 - m : Nat) : Int) = (b : Int) - 1 - (m : Int) by omega] at this
    exact this)
  rw [Nat.zero_add, List.length_reverse, hwl, show ((0 : Nat) : Int) = 0 from rfl] at hg
  have hlp := back_loop (f := walk_Back_int_1.l1 a2 (a : Int) false (a : Int) ((l.take b).drop a)) (fun i stk (s : Int) => (i, s, stk)) (fun i x (s : Int) => bnd (law10_WalkGoes_r1 i x a2 false (a : Int) s ((l.take b).drop a)) fun v => some (toG s v)) (fun s => .brk s) a hr.2.1 (by omega) (show h ≤ 400 by omega) (fun i stk s hi => by
      have e : walk_Back_int_1.l1 a2 (a : Int) false (a : Int) ((l.take b).drop a) ((i : Int), s, stk) = if (i : Int) ≥ (a : Int) then bstep stk (fun x st' => bnd (law10_WalkGoes_r1 (i : Int) x a2 false (a : Int) s ((l.take b).drop a)) fun x38 => match x38 with
        | .inl x38 => some (Lp.done (Ex.ret (Sum.inr (Sum.inl (x38, s)))))
        | .inr (.inl x38) => some (Lp.done (Ex.ret (Sum.inr (Sum.inr x38))))
        | .inr (.inr x38) => some (Lp.next (w64 ((i : Int) - 1), x38, st'))) else some (Lp.done (Ex.brk s)) := rfl
      rw [e, if_pos (by omega)]
      congr 1
      funext x st'
      cases law10_WalkGoes_r1 (i : Int) x a2 false (a : Int) s ((l.take b).drop a) with
      | none => rfl
      | some v => rcases v with v | v | v <;> rfl) (fun stk s => by
      have e : walk_Back_int_1.l1 a2 (a : Int) false (a : Int) ((l.take b).drop a) ((a : Int) - 1, s, stk) = if (a : Int) - 1 ≥ (a : Int) then bstep stk (fun x st' => bnd (law10_WalkGoes_r1 ((a : Int) - 1) x a2 false (a : Int) s ((l.take b).drop a)) fun x38 => match x38 with
        | .inl x38 => some (Lp.done (Ex.ret (Sum.inr (Sum.inl (x38, s)))))
        | .inr (.inl x38) => some (Lp.done (Ex.ret (Sum.inr (Sum.inr x38))))
        | .inr (.inr x38) => some (Lp.next (w64 ((a : Int) - 1 - 1), x38, st'))) else some (Lp.done (Ex.brk s)) := rfl
      rw [e, if_neg (by omega)]) (b - a) b stk 0 _ (by omega) hb hB hg
  rw [hlp, bnd_some']
  cases ansG a2.toNat (b - a) <;> rfl
def cntG (most len : Nat) : Int := if 0 < most ∧ most < len then (most : Int) else (len : Int)
theorem unG_eq (most len : Nat) : (match unG (ansG most len) with | .inl x28 => some (Ex.brk x28) | .inr (.inl x28) => some (Ex.ret x28.1) | .inr (.inr x28) => some (Ex.brk x28) : Option (Ex Int Bool)) = some (.brk (cntG most len)) := by
  unfold ansG cntG
  by_cases c : 0 < most ∧ most ≤ len
  · rw [if_pos c]
    dsimp only [unG]
    by_cases c2 : most < len
    · rw [if_pos ⟨c.1, c2⟩]
    · rw [if_neg (fun h => c2 h.2)]
      congr 2; omega
  · rw [if_neg c, if_neg (by omega)]
    rfl
theorem WalkGoes_holds (a0 : List Int) (a1 : Int × Int) (a2 : UInt8) (w0 : a0.length ≤ maxLen ∧ ∀ a ∈ a0, (Lit.int .i64 a).wf = true) (w1 : (Lit.int .i64 a1.1).wf = true ∧ (Lit.int .i64 a1.2).wf = true) (w2 : True) : law10_WalkGoes a0 a1 a2 = some true := by
  unfold law10_WalkGoes
  rw [few10_eq, bnd_some']
  have hl : (a0.take 300).length ≤ 300 := by simp; omega
  generalize a0.take 300 = l at hl
  obtain ⟨t, t1, t2⟩ := Of_eq l (by omega)
  have hs := st_le l.length a1.1 a1.2
  rw [t1, bnd_some', rSlice_eq l (by omega), bnd_some', rstretch_eq, bnd_some', wRange_eq t l t2, bnd_some', show walk_Back_int t a1.1 a1.2 = walk_Range_int t a1.1 a1.2 from rfl, wRange_eq t l t2, bnd_some']
  generalize stA l.length a1.1 = a at *
  generalize stB l.length a1.1 a1.2 = b at *
  have hwl : ((l.take b).drop a).length = b - a := by rw [List.length_drop, List.length_take]; omega
  have hR : (bnd (walk_Range_int_1_4 a2 (a : Int) (b : Int) t.fRoot false (a : Int) 0 ((l.take b).drop a)) fun x28 => match x28 with | .inl x28 => some (Ex.brk x28) | .inr (.inl x28) => some (Ex.ret x28.1) | .inr (.inr x28) => some (Ex.brk x28) : Option (Ex Int Bool)) = some (.brk (cntG a2.toNat (b - a))) := by
    by_cases c : a = b
    · unfold walk_Range_int_1_4
      rw [if_pos (by rw [c]), bnd_some']
      unfold cntG
      rw [if_neg (by omega), show ((b - a : Nat) : Int) = 0 by omega]
    · rcases t2 with ⟨rfl, rfl⟩ | ⟨h, z, rfl, hr⟩
      · exact absurd (by have h1 := hs.1; have h2 := hs.2; rw [List.length_nil] at h2; omega) c
      · dsimp only
        rw [range4_eq a2 hr (by omega) (by omega) hs.2, bnd_some']
        exact unG_eq _ _
  have hB : (bnd (walk_Back_int_1 a2 (a : Int) (b : Int) t.fRoot false (a : Int) 0 ((l.take b).drop a)) fun x28 => match x28 with | .inl x28 => some (Ex.brk x28) | .inr (.inl x28) => some (Ex.ret x28.1) | .inr (.inr x28) => some (Ex.brk x28) : Option (Ex Int Bool)) = some (.brk (cntG a2.toNat (b - a))) := by
    by_cases c : a = b
    · unfold walk_Back_int_1
      rw [if_pos (by rw [c]), bnd_some']
      unfold cntG
      rw [if_neg (by omega), show ((b - a : Nat) : Int) = 0 by omega]
    · rcases t2 with ⟨rfl, rfl⟩ | ⟨h, z, rfl, hr⟩
      · exact absurd (by have h1 := hs.1; have h2 := hs.2; rw [List.length_nil] at h2; omega) c
      · dsimp only
        rw [back1_eq a2 hr (by omega) (by omega) hs.2, bnd_some']
        exact unG_eq _ _
  have hc : (if (a2.toNat : Int) > 0 then some (decide ((a2.toNat : Int) < (((l.take b).drop a).length : Int))) else some false : Option Bool) = some (decide (0 < a2.toNat ∧ a2.toNat < b - a)) := by
    by_cases c : (a2.toNat : Int) > 0
    · rw [if_pos c, hwl]; congr 1; rw [Bool.eq_iff_iff]; simp; omega
    · rw [if_neg c, decide_eq_false (by omega)]
  have hd : (if decide (0 < a2.toNat ∧ a2.toNat < b - a) = true then some (a2.toNat : Int) else some (((l.take b).drop a).length : Int) : Option Int) = some (cntG a2.toNat (b - a)) := by
    unfold cntG
    by_cases c : 0 < a2.toNat ∧ a2.toNat < b - a
    · rw [if_pos (by simpa using c), if_pos c]
    · rw [if_neg (by simpa using c), if_neg c, hwl]
  have step : ∀ i : Int, 0 ≤ i → i < 2 → law10_WalkGoes.l1 a2 ((l.take b).drop a) ((a : Int), (b : Int)) ((a : Int), (b : Int), t.fRoot) ((a : Int), (b : Int), t.fRoot) i = some (.next (i + 1)) := fun i h0 hi => by
    unfold law10_WalkGoes.l1
    dsimp only
    rw [if_pos hi]
    refine (bnd_eq hR _).trans ?_
    dsimp only
    refine (bnd_eq hB _).trans ?_
    dsimp only
    rw [hc, bnd_some', hd, bnd_some', if_pos rfl, bnd_some', if_neg (by simp), w64_id ⟨by omega, by omega⟩]
  have hlp : loop (law10_WalkGoes.l1 a2 ((l.take b).drop a) ((a : Int), (b : Int)) ((a : Int), (b : Int), t.fRoot) ((a : Int), (b : Int), t.fRoot)) 0 = some (.brk ()) := by
    refine loop_next (step 0 (by omega) (by omega)) (loop_next (step (0 + 1) (by omega) (by omega)) (loop_done ?_))
    unfold law10_WalkGoes.l1
    rw [if_neg (by omega)]
  rw [hlp, bnd_some', wAll_eq t l t2 (by omega), bnd_some', same9_eq _ _ (by omega), bnd_some', decide_eq_true rfl, if_pos rfl, awake10_eq, bnd_some', bnd_some']
end Go.Proofs.Ytkmdfaodbiknlaa.S
