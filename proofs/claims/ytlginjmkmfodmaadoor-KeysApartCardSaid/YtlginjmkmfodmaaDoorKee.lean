/- Texts of keys parsed by the program, and printed, plainly. -/
import Derived.Test.YtlginjmkmfodmaaDoorG1xa
import Derived.Test.YtlginjmkmfodmaaDoorG5xa
import Derived.Test.YtlginjmkmfodmaaDoorKed
set_option linter.unusedVariables false
namespace Go.Proofs.YtlginjmkmfodmaaDoor.S
open Go Go.Sm
theorem sRune_eq (s : List UInt8) (p : Nat) (hp : p < s.length) : sRune s (p : Int) = if 0 ≤ (dec (s.drop p)).1 then (dec (s.drop p)).1 else 65533 := by
  unfold sRune
  rw [Int.toNat_natCast, u8dec s p hp]
  split
  · rename_i h; dsimp only; omega
  · rfl
theorem dec_sz {b : UInt8} {l : List UInt8} : 1 ≤ (dec (b :: l)).2 ∧ (dec (b :: l)).2 ≤ (l.length : Int) + 1 := by
  have := dec_size (bs := b :: l) (by simp)
  simpa using this
theorem sNext_eq (s : List UInt8) (p : Nat) (hp : p < s.length) : sNext s (p : Int) = ((p + (if 0 ≤ (dec (s.drop p)).1 then (dec (s.drop p)).2.toNat else 1) : Nat) : Int) := by
  unfold sNext
  rw [Int.toNat_natCast, u8dec s p hp]
  split <;> rfl
theorem dec_bd {b : UInt8} {l : List UInt8} : (dec (b :: l)).1 ≤ 1114111 := by
  rcases dec_cases b l with h | h
  · omega
  · have := scalar_iff.1 (dec_inv h).1
    omega
/-- One round of the program's loop. -/
noncomputable def pRound {ρ : Type} (er : ρ) (a0 : List UInt8) (s6 : Int × (List Int) × Int) : Option (Lp (Int × (List Int) × Int) (Ex (List Int) ρ)) :=
  if s6.2.2.toNat < a0.length then
    if (s6.2.2.toNat : Int) < s6.1 then
      some (Lp.next (s6.1, s6.2.1, (sNext a0 s6.2.2)))
    else
      bnd (if (sRune a0 s6.2.2) = 60 then
        bnd (cut a0 (s6.2.2.toNat : Int) (a0.length : Int)) fun x18 =>
        bnd (keys_named x18) fun x19 =>
        some (x19.1, x19.2)
      else
        bnd (bnd (utf_Rune a0 (s6.2.2.toNat : Int)) fun x21 =>
        if x21 = (w64 (sRune a0 s6.2.2)) then
          bnd (keys_Types (w64 (sRune a0 s6.2.2))) fun x23 =>
          some (!x23)
        else
          some true : Option Bool) fun t20 =>
        if t20 = true then
          some (0, 0)
        else
          some (w64 (sRune a0 s6.2.2), 0) : Option (Int × Int)) fun t16 =>
      if t16.1 = 0 then
        some (Lp.done (Ex.ret er))
      else
        bnd (app 8 s6.2.1 [t16.1]) fun x26 =>
        some (Lp.next (w64 ((s6.2.2.toNat : Int) + t16.2), x26, (sNext a0 s6.2.2)))
  else
    some (Lp.done (Ex.brk s6.2.1))
theorem pRound_end {ρ : Type} (er : ρ) (s : List UInt8) (q : Int) (out : List Int) (p : Nat) (h : ¬ p < s.length) : pRound er s (q, out, (p : Int)) = some (.done (.brk out)) := by
  unfold pRound
  dsimp only
  rw [Int.toNat_natCast, if_neg h]
theorem pRound_skip {ρ : Type} (er : ρ) (s : List UInt8) (q p : Nat) (out : List Int) (h : p < s.length) (hq : p < q) (ha : (s[p]).toNat < 128) : pRound er s ((q : Int), out, (p : Int)) = some (.next ((q : Int), out, ((p + 1 : Nat) : Int))) := by
  unfold pRound
  dsimp only
  rw [Int.toNat_natCast, if_pos h, if_pos (by omega), sNext_eq s p h, List.drop_eq_getElem_cons h, dec_low ha]
  dsimp only
  rw [if_pos (by omega)]; rfl
theorem getElem_drop0 {s : List UInt8} {p : Nat} (h : p < s.length) : s.drop p = s[p] :: s.drop (p + 1) := List.drop_eq_getElem_cons h
/-- How far the next place lies, and how far what is parsed goes. -/
theorem pRound_tok {ρ : Type} (er : ρ) (s : List UInt8) (q p : Nat) (out : List Int) (hs : s.length ≤ 100000) (h : p < s.length) (hq : q ≤ p) (ho : out.length ≤ p) :
    (tok (s.drop p) = 0 ∧ pRound er s ((q : Int), out, (p : Int)) = some (.done (.ret er))) ∨
    (tok (s.drop p) ≠ 0 ∧ ∃ q' p' : Nat, pRound er s ((q : Int), out, (p : Int)) = some (.next ((q' : Int), out ++ [tok (s.drop p)], (p' : Int))) ∧ p < p' ∧ p' ≤ s.length ∧ q' ≤ s.length ∧
      ((q' ≤ p' ∧ p' = p + (keyT (tok (s.drop p))).length) ∨ (p' ≤ q' ∧ q' = p + (keyT (tok (s.drop p))).length ∧ ∀ j (hj : j < s.length), p' ≤ j → j < q' → (s[j]).toNat < 128))) := by
  have hd := getElem_drop0 h
  have hlen : (s.drop (p + 1)).length = s.length - (p + 1) := List.length_drop
  unfold pRound
  dsimp only
  rw [Int.toNat_natCast, if_pos h, if_neg (by omega), sRune_eq s p h, sNext_eq s p h]
  have hbd := dec_bd (b := s[p]) (l := s.drop (p + 1))
  rw [← hd] at hbd
  by_cases hb : s[p] = 60
  · -- a name
    have hdec : dec (s.drop p) = (60, 1) := by rw [hd, hb, dec_low (by decide)]; rfl
    rw [hdec]
    dsimp only
    rw [if_pos (by decide), drop_cut s _ ⟨by omega, by omega⟩, bnd_some', Int.toNat_natCast]
    have hn : keys_named (s.drop p) = some (tok (s.drop p), if tok (s.drop p) = 0 then 0 else ((keyT (tok (s.drop p))).length : Int)) := by
      rw [hd, hb]; exact named_tok (by omega)
    rw [hn, bnd_some', bnd_some']
    by_cases c : tok (s.drop p) = 0
    · exact .inl ⟨c, by dsimp only; rw [if_pos c]⟩
    · refine .inr ⟨c, p + (keyT (tok (s.drop p))).length, p + 1, ?_, by omega, by omega, ?_, .inr ⟨?_, rfl, ?_⟩⟩
      · dsimp only
        have := keyT_len (tok (s.drop p))
        rw [if_neg c, if_neg c, app_of (by simp; omega), bnd_some', w64_id ⟨by omega, by omega⟩]
        rfl
      · have := tok_len (b := s[p]) (l := s.drop (p + 1)) (by rw [← hd]; exact c)
        rw [← hd] at this; omega
      · have := tok_len (b := s[p]) (l := s.drop (p + 1)) (by rw [← hd]; exact c)
        rw [← hd] at this; omega
      · intro j hj h1 h2
        have hf : tok (s.drop p) = tokF (s.drop p) := by rw [hd, hb]; exact tok_ang
        obtain ⟨_, g2, g3⟩ := tokF_range (s := s.drop p) (by rw [← hf]; exact c)
        rw [← hf] at g2 g3
        have hm := (asc_key g3).1
        have e := List.prefix_iff_eq_take.1 g2
        refine hm _ ?_
        have hx : (s.drop p)[j - p]? = some s[j] := by rw [List.getElem?_drop, show p + (j - p) = j by omega, List.getElem?_eq_getElem hj]
        have hy : (keyT (tok (s.drop p)))[j - p]? = some s[j] := by
          rw [e, List.getElem?_take, if_pos (by omega)]; exact hx
        exact List.mem_of_getElem? hy
  · have htk : tok (s.drop p) = if 0 ≤ (dec (s.drop p)).1 ∧ types (dec (s.drop p)).1 = true then (dec (s.drop p)).1 else 0 := by rw [hd]; exact tok_char hb
    have hR : utf_Rune s (p : Int) = some (dec (s.drop p)).1 := by rw [Rune_eqU s _ (by omega), atS_drop s p h]
    by_cases hv : 0 ≤ (dec (s.drop p)).1
    · have h60 : (dec (s.drop p)).1 ≠ 60 := fun e => by
        rw [hd] at e hv
        obtain ⟨_, r, hr⟩ := dec_inv hv
        rw [e] at hr
        have e60 : putB 60 = [60] := by decide +kernel
        rw [e60] at hr
        exact hb (List.cons.inj hr).1
      rw [if_pos hv, if_neg h60, hR, bnd_some', w64_id ⟨by omega, by omega⟩, if_pos rfl, Types_eqK, bnd_some', bnd_some', if_pos hv]
      by_cases ht : types (dec (s.drop p)).1 = true
      · have hk : tok (s.drop p) = (dec (s.drop p)).1 := by rw [htk, if_pos ⟨hv, ht⟩]
        have h32 : 32 ≤ (dec (s.drop p)).1 := by
          unfold types at ht
          rw [Bool.and_eq_true, decide_eq_true_eq] at ht
          exact ht.1.1
        have hsz := dec_sz (b := s[p]) (l := s.drop (p + 1))
        rw [← hd] at hsz
        have hl : (keyT (tok (s.drop p))).length = (dec (s.drop p)).2.toNat := by
          rw [hk]
          by_cases hr : 127 < (dec (s.drop p)).1
          · rw [keyT_out (.inr hr), if_pos ht]
            have hv' := hv
            rw [hd] at hv'
            obtain ⟨g1, r, g2⟩ := dec_inv hv'
            rw [← hd] at g1 g2
            have g3 := (dec_put g1 r).1
            rw [← g2] at g3
            have := congrArg Prod.snd g3
            dsimp only at this
            omega
          · have hb8 : (s[p]).toNat < 128 := by
              rcases Nat.lt_or_ge (s[p]).toNat 128 with c | c
              · exact c
              · have := dec_high (l := s.drop (p + 1)) c
                rw [← hd] at this; omega
            have hd2 := dec_low (l := s.drop (p + 1)) hb8
            rw [← hd] at hd2
            have hn127 : (dec (s.drop p)).1 ≠ 127 := by
              unfold types at ht
              rw [Bool.and_eq_true, decide_eq_true_eq] at ht
              exact ht.1.2
            rw [hd2] at h32 hr hn127 ⊢
            dsimp only at h32 hr hn127 ⊢
            rw [one_key (by omega) (by omega) hb]; rfl
        refine .inr ⟨by rw [hk]; omega, p, p + (dec (s.drop p)).2.toNat, ?_, by omega, by omega, by omega, .inl ⟨by omega, by rw [hl]⟩⟩
        rw [ht, hk]
        show bnd (some _) _ = _
        rw [bnd_some']
        dsimp only
        rw [if_neg (by omega), app_of (by simp; omega), bnd_some', w64_id ⟨by omega, by omega⟩, Int.add_zero]
      · refine .inl ⟨by rw [htk, if_neg (fun h => ht h.2)], ?_⟩
        rw [Bool.not_eq_true] at ht
        rw [ht]
        show bnd (some _) _ = _
        rw [bnd_some', if_pos rfl]
    · refine .inl ⟨by rw [htk, if_neg (fun h => hv h.1)], ?_⟩
      rw [if_neg hv, if_neg (by decide), hR, bnd_some']
      have hne : ¬ (dec (s.drop p)).1 = w64 65533 := by
        have : w64 65533 = 65533 := by decide
        rw [this]; omega
      rw [if_neg hne, bnd_some', if_pos rfl, bnd_some', if_pos rfl]
theorem pLoop {ρ : Type} (er : ρ) (s : List UInt8) (hs : s.length ≤ 100000) : ∀ (m p q : Nat) (out : List Int), s.length ≤ p + m → p ≤ s.length → q ≤ s.length → (∀ j (hj : j < s.length), p ≤ j → j < q → (s[j]).toNat < 128) → out.length ≤ p →
    loop (pRound er s) ((q : Int), out, (p : Int)) = some (match parse (s.drop (max p q)) with | some l => .brk (out ++ l) | none => .ret er) := by
  intro m
  induction m with
  | zero =>
    intro p q out h1 h2 h3 h4 h5
    have : s.drop (max p q) = [] := List.drop_eq_nil_of_le (by omega)
    rw [this, parse_nil]
    dsimp only
    rw [List.append_nil]
    exact loop_done (pRound_end er s q out p (by omega))
  | succ m ih =>
    intro p q out h1 h2 h3 h4 h5
    by_cases hp : p < s.length
    · by_cases hq : p < q
      · rw [show max p q = max (p + 1) q by omega]
        refine loop_next (pRound_skip er s q p out hp hq (h4 p hp (Nat.le_refl _) hq)) ?_
        exact ih (p + 1) q out (by omega) (by omega) h3 (fun j hj a b => h4 j hj (by omega) b) (by omega)
      · rw [show max p q = p by omega]
        have hd := getElem_drop0 hp
        rcases pRound_tok er s q p out hs hp (by omega) h5 with ⟨c, e⟩ | ⟨c, q', p', e, g1, g2, g3, g4⟩
        · rw [hd] at c
          rw [hd, parse_cons, if_pos c]
          exact loop_done e
        · have hl := tok_len (b := s[p]) (l := s.drop (p + 1)) (by rw [← hd]; exact c)
          rw [← hd] at hl
          have hmax : max p' q' = p + (keyT (tok (s.drop p))).length := by
            rcases g4 with ⟨a, b⟩ | ⟨a, b, _⟩ <;> omega
          have := ih p' q' (out ++ [tok (s.drop p)]) (by omega) g2 g3 (fun j hj a b => by
            rcases g4 with ⟨a', b'⟩ | ⟨_, _, c'⟩
            · omega
            · exact c' j hj a b) (by rw [List.length_append, List.length_singleton]; omega)
          rw [hmax, ← List.drop_drop] at this
          refine loop_next e ?_
          rw [this]
          have hp2 : parse (s.drop p) = (parse ((s.drop p).drop (keyT (tok (s.drop p))).length)).map (tok (s.drop p) :: ·) := by
            have h0 := parse_cons s[p] (s.drop (p + 1))
            rw [← hd] at h0
            rw [h0, if_neg c]
          rw [hp2]
          cases parse (List.drop (keyT (tok (s.drop p))).length (s.drop p)) with
          | none => rfl
          | some l =>
            show some (Ex.brk (out ++ [_] ++ l)) = some (Ex.brk (out ++ (_ :: l)))
            rw [List.append_assoc]; rfl
    · have : s.drop (max p q) = [] := List.drop_eq_nil_of_le (by omega)
      rw [this, parse_nil]
      dsimp only
      rw [List.append_nil]
      exact loop_done (pRound_end er s q out p hp)
theorem Parse_eqK (s : List UInt8) (hs : s.length ≤ 100000) : keys_Parse s = some (match parse s with | some l => (l, 0) | none => ([], 3)) := by
  unfold keys_Parse
  have h := pLoop (([], 3) : List Int × Int) s hs s.length 0 0 [] (by omega) (by omega) (by omega) (fun j hj a b => by omega) (by simp)
  have e : keys_Parse.l1 s = pRound ([], 3) s := rfl
  rw [e]
  rw [show ((0 : Nat) : Int) = 0 from rfl, show max 0 0 = 0 from rfl, List.drop_zero] at h
  rw [h, bnd_some']
  cases parse s <;> rfl
theorem Print_eqK (l : List Int) (hl : l.length ≤ 10000) : keys_Print l = some (l.flatMap keyT) := by
  have blen : ∀ m : List Int, (m.flatMap keyT).length ≤ 7 * m.length := by
    intro m
    induction m with
    | nil => simp
    | cons k m ih =>
      have := keyT_len k
      rw [List.flatMap_cons, List.length_append, List.length_cons]; omega
  unfold keys_Print
  have main : loop (keys_Print.l1 l) (0, []) = some (l.flatMap keyT) := loop_fold (f := keys_Print.l1 l) (fun i acc => (i, acc)) l (fun pre => pre.flatMap keyT) (t := l.flatMap keyT) (fun pre x suf h => by
    unfold keys_Print.l1
    dsimp only
    have hlen : pre.length < l.length := by rw [h]; simp
    have hb := blen pre
    have hk := keyT_len x
    rw [if_pos (by omega), show idx l (pre.length : Int) = some x by rw [h]; exact idx_at pre x suf, bnd_some', Text_eqK, bnd_some']
    unfold strings_Builder_WriteString
    rw [app_of (by omega), bnd_some', bnd_some', w64_id ⟨by omega, by omega⟩]
    dsimp only
    rw [List.flatMap_append]; simp) (by
    unfold keys_Print.l1
    dsimp only
    rw [if_neg (by omega)])
  rw [main]; rfl
theorem refPrint_eqK (l : List Int) (hl : l.length ≤ 10000) : ref22_Print l = some (l.flatMap keyT) := by
  have blen : ∀ m : List Int, (m.flatMap keyT).length ≤ 7 * m.length := by
    intro m
    induction m with
    | nil => simp
    | cons k m ih =>
      have := keyT_len k
      rw [List.flatMap_cons, List.length_append, List.length_cons]; omega
  unfold ref22_Print
  have main : loop (ref22_Print.l1 l) ([], 0) = some (l.flatMap keyT) := loop_fold (f := ref22_Print.l1 l) (fun i acc => (acc, i)) l (fun pre => pre.flatMap keyT) (t := l.flatMap keyT) (fun pre x suf h => by
    unfold ref22_Print.l1
    dsimp only
    have hlen : pre.length < l.length := by rw [h]; simp
    have hb := blen pre
    have hk := keyT_len x
    rw [if_pos (by omega), show idx l (pre.length : Int) = some x by rw [h]; exact idx_at pre x suf, bnd_some', refText_eqK, bnd_some', catS_of (by omega), bnd_some', w64_id ⟨by omega, by omega⟩]
    rw [List.flatMap_append]; simp) (by
    unfold ref22_Print.l1
    dsimp only
    rw [if_neg (by omega)])
  rw [main]; rfl
theorem flat_len7 : ∀ m : List Int, (m.flatMap keyT).length ≤ 7 * m.length
  | [] => by simp
  | k :: m => by
    have := keyT_len k
    have := flat_len7 m
    rw [List.flatMap_cons, List.length_append, List.length_cons]; omega
theorem Same_self (l : List Int) (hl : l.length ≤ 1000000) : ref09_Same l l = some true := by
  unfold ref09_Same
  rw [if_pos rfl]
  obtain ⟨t, h1, h2⟩ := loop_same (f := ref09_Same.l1 l l) () l l rfl (by omega) (fun i => rfl)
  rw [h1, bnd_some']
  cases t with
  | brk u => rfl
  | ret v => exact absurd rfl h2.2
end Go.Proofs.YtlginjmkmfodmaaDoor.S
