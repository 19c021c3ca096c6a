/- The law LineTypes. -/
import Derived.Test.YtbcbggdgkdfciaaG0
import Derived.Test.YtbcbggdgkdfciaaG2xa
import Derived.Test.YtbcbggdgkdfciaaG3xa
import Derived.Test.YtbcbggdgkdfciaaG3xc
import Derived.Test.YtbcbggdgkdfciaaLin
import Derived.Test.YtbcbggdgkdfciaaFla
import Derived.Test.YtbcbggdgkdfciaaPie2
set_option linter.unusedVariables false
namespace Go.Proofs.Ytbcbggdgkdfciaa.S
open Go Go.Sm
/-! ### how many spans there are -/
theorem canon_step (r : List Int) (y x : Int) : (canon (r ++ [y] ++ [x])).length = (canon (r ++ [y])).length + (if y + 1 = x then 0 else 1) := by
  obtain ⟨L, k, h1, h2⟩ := canon_last r y
  rw [canon_snoc (r ++ [y]) x, h1]
  unfold addI
  rw [addS_snoc (by simp)]
  simp only
  rw [h2]
  split <;> simp
theorem canon_one (x : Int) : (canon [x]).length = 1 := by
  rw [show ([x] : List Int) = [] ++ [x] from rfl, canon_snoc]
  show (addS [] ⟨x, 1⟩).length = 1
  rw [addS_nil (by simp)]; rfl
theorem canon_grow (r : List Int) (x : Int) : (canon r).length ≤ (canon (r ++ [x])).length := by
  induction r using snoc_ind with
  | nil => simp [canon]
  | snoc r y _ => rw [canon_step]; omega
theorem canon_app (a b : List Int) : (canon (a ++ b)).length ≤ (canon a).length + (canon b).length ∧ (canon a).length + (canon b).length ≤ (canon (a ++ b)).length + 1 := by
  induction b using snoc_ind with
  | nil => simp [canon]
  | snoc b x ih =>
    induction b using snoc_ind with
    | nil =>
      rw [List.nil_append, canon_one]
      refine ⟨?_, by have := canon_grow a x; omega⟩
      induction a using snoc_ind with
      | nil => rw [List.nil_append, canon_one]; omega
      | snoc a y _ => rw [canon_step]; split <;> omega
    | snoc b y _ =>
      rw [← List.append_assoc, canon_step b y x, ← List.append_assoc, canon_step (a ++ b) y x]
      rw [← List.append_assoc] at ih
      omega
theorem canon_pos {a : List Int} (h : a ≠ []) : 1 ≤ (canon a).length := by
  induction a using snoc_ind with
  | nil => exact absurd rfl h
  | snoc a x ih =>
    by_cases ha : a = []
    · subst ha; rw [List.nil_append, canon_one]; exact Nat.le_refl _
    · have h1 := ih ha
      have h2 := canon_grow a x
      omega
theorem canon_suffix (a b : List Int) : (canon b).length ≤ (canon (a ++ b)).length := by
  by_cases h : a = []
  · subst h; simp
  · have h1 := (canon_app a b).2
    have h2 := canon_pos h
    omega
theorem canon_edit (r q : List Int) (f t : Nat) (h : f ≤ t) (hq : (canon q).length ≤ 1) : (canon (r.take f ++ q ++ r.drop t)).length ≤ (canon r).length + 2 := by
  have h1 := (canon_app (r.take f ++ q) (r.drop t)).1
  have h2 := (canon_app (r.take f) q).1
  have h3 := (canon_app (r.take f) (r.drop f)).2
  rw [List.take_append_drop] at h3
  have h4 : (canon (r.drop t)).length ≤ (canon (r.drop f)).length := by
    have := canon_suffix ((r.drop f).take (t - f)) ((r.drop f).drop (t - f))
    rw [List.take_append_drop, List.drop_drop, show f + (t - f) = t by omega] at this
    exact this
  omega
theorem canon_exp1 (s : arena_Span) : (canon (exp1 s)).length ≤ 1 := by
  by_cases h : 1 ≤ s.fN
  · rw [exp1_canon h]; exact Nat.le_refl _
  · rw [show exp1 s = [] by unfold exp1; rw [show s.fN.toNat = 0 by omega]; rfl]; simp [canon]
/-! ### bytes of parts -/
theorem bytesAt_cut {r : List Int} {a : List UInt8} (h : InA r a) (n : Nat) : bytesAt a (r.take n) = (bytesAt a r).take n ∧ bytesAt a (r.drop n) = (bytesAt a r).drop n := by
  have e := bytesAt_append a (r.take n) (r.drop n)
  rw [List.take_append_drop] at e
  have hl : (bytesAt a (r.take n)).length = (r.take n).length := bytesAt_in (fun x hx => h x (List.mem_of_mem_take hx))
  have hl2 := bytesAt_in h
  rw [List.length_take] at hl
  by_cases hn : n ≤ r.length
  · have hln : (bytesAt a (r.take n)).length = n := by omega
    constructor
    · rw [e, List.take_append_of_le_length (show n ≤ (bytesAt a (r.take n)).length by omega)]
      exact (List.take_of_length_le (by omega)).symm
    · have : (bytesAt a (r.take n) ++ bytesAt a (r.drop n)).drop n = bytesAt a (r.drop n) := by
        have := List.drop_left (l₁ := bytesAt a (r.take n)) (l₂ := bytesAt a (r.drop n))
        rwa [hln] at this
      rw [e, this]
  · rw [List.take_of_length_le (by omega), List.take_of_length_le (by omega), List.drop_of_length_le (by omega), List.drop_of_length_le (by omega)]
    exact ⟨rfl, rfl⟩
theorem inA_take {r : List Int} {a : List UInt8} (h : InA r a) (n : Nat) : InA (r.take n) a := fun x hx => h x (List.mem_of_mem_take hx)
theorem inA_drop {r : List Int} {a : List UInt8} (h : InA r a) (n : Nat) : InA (r.drop n) a := fun x hx => h x (List.mem_of_mem_drop hx)
theorem inA_cat {r q : List Int} {a : List UInt8} (h : InA r a) (h2 : InA q a) : InA (r ++ q) a := fun x hx => (List.mem_append.1 hx).elim (h x) (h2 x)
theorem len_inB (s : List UInt8) : s.length ∈ allB s := by
  rw [mem_allB]
  have key : ∀ k p, s.length - p ≤ k → p ≤ s.length → isB s p s.length := by
    intro k
    induction k with
    | zero => intro p h1 h2; exact (isB_no (by omega)).2 (by omega)
    | succ k ih =>
      intro p h1 h2
      by_cases hp : p < s.length
      · have := sz_bd hp
        exact (isB_yes hp).2 (.inr (ih _ (by omega) (by omega)))
      · exact (isB_no hp).2 (by omega)
  exact key s.length 0 (by omega) (by omega)
/-- A line behind a key. -/
theorem LKey_eq (r : List Int) (a s : List UInt8) (p : Nat) (k : Int) (hr : InA r a) (ha : a.length ≤ 10000) (hs : bytesAt a r = s) (hsl : s.length ≤ 400) (hp : p ∈ allB s) :
    (400 < (txt s p k).length ∧ line_Line_Key ⟨tOf r, (p : Int)⟩ k a = some (⟨tOf r, (p : Int)⟩, true, 7, a)) ∨
    ((txt s p k).length ≤ 400 ∧ ∃ r' a', line_Line_Key ⟨tOf r, (p : Int)⟩ k a = some (⟨tOf r', ((lastB (txt s p k) (ed s p k).1.2.2.2 : Nat) : Int)⟩, (ed s p k).2, 0, a') ∧ InA r' a' ∧ bytesAt a' r' = txt s p k ∧ (canon r').length ≤ 32 ∧
      ((canon r').length ≤ (canon r).length + 2 ∧ a'.length ≤ a.length + 4 ∨ 32 < (canon r).length + 2 ∧ (canon r').length ≤ 1 ∧ a'.length ≤ a.length + 404)) := by
  have hpl := allB_le hp
  obtain ⟨b1, b2, b3⟩ := ed_bd hpl k
  have hrl : r.length = s.length := by rw [← hs, bytesAt_in hr]
  have hg := inA_good hr (by omega)
  have htl : (txt s p k).length = (ed s p k).1.1 + (ed s p k).1.2.2.1.length + (s.length - (ed s p k).1.2.1) := by
    unfold txt
    simp only [List.length_append, List.length_take, List.length_drop]
    omega
  unfold line_Line_Key
  dsimp only
  rw [Flat_eq (tOf r) r a rfl hr (by omega) (by omega), bnd_some', hs, Plan_eq s p k (by omega) hp, bnd_some', PLen_eq, bnd_some']
  dsimp only
  rw [w64_id (x := (((ed s p k).1.2.1 : Nat) : Int) - (((ed s p k).1.1 : Nat) : Int)) ⟨by omega, by omega⟩, w64_id (x := (r.length : Int) - ((((ed s p k).1.2.1 : Nat) : Int) - (((ed s p k).1.1 : Nat) : Int))) ⟨by omega, by omega⟩, w64_id ⟨by omega, by omega⟩, bnd_some']
  by_cases hbig : 400 < (txt s p k).length
  · rw [if_pos (by omega)]; exact .inl ⟨hbig, rfl⟩
  · refine .inr ⟨by omega, ?_⟩
    rw [if_neg (by omega), Keep_eq _ a (by omega) (by omega), bnd_some']
    obtain ⟨k1, ⟨m, k2⟩, k3⟩ := keepA_spec (ed s p k).1.2.2.1 a (by omega)
    have hkl : (keepA (ed s p k).1.2.2.1 a).2.2.length ≤ a.length + 4 := by
      unfold keepA addA
      repeat' split
      all_goals (dsimp only; try simp only [List.length_append])
      all_goals omega
    rcases k3 with ⟨q1, q2, q3, q4⟩ | ⟨_, q2, _⟩
    · rw [if_pos q1]
      generalize (keepA (ed s p k).1.2.2.1 a).1 = sp at q2 q3 q4
      generalize (keepA (ed s p k).1.2.2.1 a).2.2 = a1 at k1 k2 q2 q3 hkl
      obtain ⟨o1, o2, o3⟩ := Of1_eq sp a1 q3 (by omega)
      have hr1 : InA r a1 := by rw [k2]; exact inA_app hr m
      have hb1 : bytesAt a1 r = s := by rw [k2, bytesAt_app hr, hs]
      generalize hf : (ed s p k).1.1 = f at b1 htl
      generalize ht : (ed s p k).1.2.1 = t at b1 b2 htl
      have hpf : pl r.length (f : Int) = f := by unfold pl; omega
      have hpt : pl r.length (t : Int) = t := by unfold pl; omega
      rw [Delete_eq r hg (by omega), bnd_some', o1, bnd_some', hpf, hpt, show max f t = t by omega]
      have hE : (exp1 sp).length ≤ 4 := by rw [show (exp1 sp).length = sp.fN.toNat from rangeI_len _ _]; omega
      have hr2 : InA (r.take f ++ r.drop t) a1 := inA_cat (inA_take hr1 f) (inA_drop hr1 t)
      have hl2 : (r.take f ++ r.drop t).length = f + (r.length - t) := by simp only [List.length_append, List.length_take, List.length_drop]; omega
      rw [Insert_eq _ _ (inA_good hr2 (by omega)) (inA_good o2 (by omega)) (by omega), bnd_some']
      have hpf2 : pl (r.take f ++ r.drop t).length (f : Int) = f := by unfold pl; rw [hl2]; omega
      have hft : (r.take f).length = f := by rw [List.length_take]; omega
      have e1 : (r.take f ++ r.drop t).take f = r.take f := by rw [List.take_append_of_le_length (by omega), List.take_of_length_le (by omega)]
      have e2 : (r.take f ++ r.drop t).drop f = r.drop t := by
        have := List.drop_left (l₁ := r.take f) (l₂ := r.drop t)
        rwa [hft] at this
      rw [hpf2, e1, e2]
      have hin : InA (r.take f ++ exp1 sp ++ r.drop t) a1 := inA_cat (inA_cat (inA_take hr1 f) o2) (inA_drop hr1 t)
      have hby : bytesAt a1 (r.take f ++ exp1 sp ++ r.drop t) = txt s p k := by
        rw [bytesAt_append, bytesAt_append, (bytesAt_cut hr1 f).1, (bytesAt_cut hr1 t).2, hb1, ← o3, q2]
        unfold txt
        rw [hf, ht]
      have hce := canon_edit r (exp1 sp) f t b1 (canon_exp1 sp)
      generalize r.take f ++ exp1 sp ++ r.drop t = r2 at hin hby hce
      have hr2l : r2.length = (txt s p k).length := by rw [← hby, bytesAt_in hin]
      rcases Tidy_eq r2 a1 hin (by omega) (by omega) with ⟨t1, t2⟩ | ⟨t1, x, a', t2, t3, t4, t5, t6, m', t7⟩ | ⟨t1, t2, t3⟩
      · rw [t2, bnd_some']
        dsimp only
        rw [if_pos rfl, Flat_eq (tOf r2) r2 a1 rfl hin (by omega) (by omega), bnd_some', hby, lbound_eq _ _ (by omega), bnd_some']
        exact ⟨r2, a1, rfl, hin, hby, t1, .inl ⟨hce, hkl⟩⟩
      · have hxl : (exp1 x).length = r2.length := by rw [show (exp1 x).length = x.fN.toNat from rangeI_len _ _]; omega
        rw [t2, bnd_some']
        dsimp only
        rw [if_pos rfl, Flat_eq (tOf (exp1 x)) (exp1 x) a' rfl t3 (by omega) (by omega), bnd_some', t4, hby, lbound_eq _ _ (by omega), bnd_some']
        have hal : a'.length ≤ a1.length + 400 := by
          -- the arena has grown by the text at most
          have hb2 : (bytesAt a1 r2).length ≤ 400 := by rw [hby]; omega
          unfold piece_Text_Tidy at t2
          rw [show (tOf r2).fL = canon r2 from rfl, if_neg (by omega), Flat_eq (tOf r2) r2 a1 rfl hin (by omega) (by omega), bnd_some', Keep_eq _ a1 k1 (by omega), bnd_some'] at t2
          have hk2 : (keepA (bytesAt a1 r2) a1).2.2.length ≤ a1.length + 400 := by
            rw [hby]
            unfold keepA addA
            repeat' split
            all_goals (dsimp only; try simp only [List.length_append])
            all_goals omega
          by_cases hz : (keepA (bytesAt a1 r2) a1).2.1 = 0
          · rw [if_pos hz] at t2
            cases hof : piece_Of [(keepA (bytesAt a1 r2) a1).1] with
            | none => rw [hof] at t2; cases t2
            | some y =>
              rw [hof, bnd_some'] at t2
              have := congrArg (fun z => z.2.2) (Option.some.inj t2)
              dsimp only at this
              rw [← this]; exact hk2
          · rw [if_neg hz] at t2
            have := congrArg (fun z => z.2.2) (Option.some.inj t2)
            dsimp only at this
            rw [← this]; exact hk2
        exact ⟨exp1 x, a', rfl, t3, by rw [t4, hby], by have := canon_exp1 x; omega, .inr ⟨by omega, canon_exp1 x, by omega⟩⟩
      · omega
    · omega
set_option maxRecDepth 20000 in
theorem LineTypes_holds (a0 : List UInt8) (a1 : Bool) (a2 : List Int) (w0 : a0.length ≤ maxLen) (w1 : True) (w2 : a2.length ≤ maxLen ∧ ∀ a ∈ a2, (Lit.int .i64 a).wf = true) : law30_LineTypes a0 a1 a2 = some true := by
  have w2' := w2.1
  simp only [maxLen] at w2'
  unfold law30_LineTypes
  rw [show ((390 : Int)) = ((390 : Nat) : Int) from rfl, cut30_eq, bnd_some']
  generalize hs : a0.take 390 = s
  have hsl : s.length ≤ 390 := by rw [← hs]; simp; omega
  rw [New_eq s (by omega), bnd_some']
  dsimp only
  have hright : rightA ⟨0, (s.length : Int)⟩ s = true := by unfold rightA; simp only [decide_eq_true_eq]; omega
  obtain ⟨o1, o2, o3⟩ := Of1_eq ⟨0, (s.length : Int)⟩ s hright (by omega)
  have hbs : bytesAt s (exp1 ⟨0, (s.length : Int)⟩) = s := by
    rw [← o3]
    unfold bytesA
    rw [if_pos hright]
    simp
  have hel : (exp1 ⟨0, (s.length : Int)⟩).length = s.length := by rw [show (exp1 ⟨0, (s.length : Int)⟩).length = (s.length : Int).toNat from rangeI_len _ _]; omega
  have hc1 := canon_exp1 ⟨0, (s.length : Int)⟩
  rw [o1, bnd_some']
  generalize exp1 ⟨0, (s.length : Int)⟩ = r0 at o2 hbs hel hc1
  have hopen : ∃ p : Nat, line_Open (tOf r0) a1 = some ⟨tOf r0, (p : Int)⟩ ∧ (if a1 = true then some (s.length : Int) else some 0 : Option Int) = some (p : Int) ∧ p ∈ allB s := by
    unfold line_Open
    cases a1 with
    | true => exact ⟨s.length, by rw [if_pos rfl, PLen_eq, bnd_some', hel], by rw [if_pos rfl], len_inB s⟩
    | false => exact ⟨0, by rw [if_neg (by simp)]; rfl, by rw [if_neg (by simp)]; rfl, zero_allB s⟩
  obtain ⟨p0, h1, h2, h3⟩ := hopen
  rw [h1, bnd_some', h2, bnd_some']
  obtain ⟨t, t1, t2⟩ := loop_for (f := law30_LineTypes.l1 a2) (σ := List Int × Nat × List UInt8 × List UInt8) (fun i st => (i, canon st.1, (st.1.length : Int), (st.2.1 : Int), st.2.2.1, (st.2.1 : Int), st.2.2.2)) a2
    (fun pre st => InA st.1 st.2.2.2 ∧ bytesAt st.2.2.2 st.1 = st.2.2.1 ∧ st.2.2.1.length ≤ 400 ∧ st.2.1 ∈ allB st.2.2.1 ∧ pre.length ≤ 60 ∧ ∃ T : Nat, st.2.2.2.length ≤ 390 + 4 * pre.length + 400 * T ∧ (canon st.1).length + 32 * T ≤ 1 + 2 * pre.length)
    (fun t => match t with | .brk _ => True | .ret _ => False)
    (fun pre k suf st hl hI => by
      obtain ⟨r, p, s, a⟩ := st
      obtain ⟨i1, i2, i3, i4, i5, T, i6, i7⟩ := hI
      dsimp only at i1 i2 i3 i4 i5 i6 i7 ⊢
      have hpl : pre.length + 1 ≤ a2.length := by rw [hl]; simp
      unfold law30_LineTypes.l1
      dsimp only
      rw [if_pos (by omega), show idx a2 (pre.length : Int) = some k by rw [hl]; exact idx_at pre k suf, bnd_some']
      by_cases h60 : (pre.length : Int) ≥ 60
      · rw [if_pos h60]; exact .inr ⟨_, rfl, trivial⟩
      · rw [if_neg h60, show (⟨canon r, (r.length : Int)⟩ : piece_Text) = tOf r from rfl]
        rcases LKey_eq r a s p k i1 (by omega) i2 i3 i4 with ⟨z1, z2⟩ | ⟨z1, r', a', z2, z3, z4, z5, z6⟩
        · have hsame := Same_eq r r (by rw [← bytesAt_in i1, i2]; omega)
          rw [z2, bnd_some', refKey_eq s p k (by omega) i4, bnd_some']
          dsimp only
          rw [if_pos (show ((txt s p k).length : Int) > 400 by omega), if_pos rfl, if_pos rfl, hsame, bnd_some', if_pos (by simp), beq_self_eq_true, bnd_some', if_neg (by simp), w64_id ⟨by omega, by omega⟩]
          refine .inl ⟨(r, p, s, a), rfl, i1, i2, i3, i4, by simp; omega, T, by simp; omega, by simp; omega⟩
        · rw [z2, bnd_some', refKey_eq s p k (by omega) i4, bnd_some']
          dsimp only
          have hl' : r'.length ≤ 400 := by rw [← bytesAt_in z3, z4]; omega
          have hal : a'.length ≤ 16384 := by rcases z6 with h | h <;> omega
          rw [if_neg (show ¬ ((txt s p k).length : Int) > 400 by omega), if_pos (by simp), if_pos rfl, Flat_eq (tOf r') r' a' rfl z3 (by omega) (by omega), bnd_some', if_pos z4, if_pos rfl, PSpans_eq _ (by rw [show (tOf r').fL = canon r' from rfl]; omega), bnd_some', show (tOf r').fL = canon r' from rfl, decide_eq_false (by omega), bnd_some', if_neg (by simp), w64_id ⟨by omega, by omega⟩]
          refine .inl ⟨(r', lastB (txt s p k) (ed s p k).1.2.2.2, txt s p k, a'), rfl, z3, z4, z1, lastB_in _ _, by simp; omega, ?_⟩
          rcases z6 with ⟨h1, h2⟩ | ⟨h1, h2, h3⟩
          · exact ⟨T, by simp; omega, by simp; omega⟩
          · exact ⟨T + 1, by simp; omega, by simp; omega⟩)
    (fun st hI => ⟨Ex.brk (), by unfold law30_LineTypes.l1; rw [if_neg (by simp)], trivial⟩) (s0 := (r0, p0, s, s)) ⟨o2, hbs, by dsimp only; omega, h3, by simp, 0, by simp; omega, by simp; omega⟩
  dsimp only at t1
  dsimp only
  rw [show (tOf r0).fL = canon r0 from rfl, show (tOf r0).fN = (r0.length : Int) from rfl, t1, bnd_some']
  cases t with
  | ret v => exact t2.elim
  | brk u => dsimp only; rw [awake30_eq, bnd_some']
end Go.Proofs.Ytbcbggdgkdfciaa.S
