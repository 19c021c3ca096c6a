/- Texts of keys parsed: the reference's way and the program's, plainly. -/
import Derived.Test.YtlginjmkmfodmaaDoorG0
import Derived.Test.YtlginjmkmfodmaaDoorG1xa
import Derived.Test.YtlginjmkmfodmaaDoorG2xa
import Derived.Test.YtlginjmkmfodmaaDoorG4xa
import Derived.Test.YtlginjmkmfodmaaDoorKec
set_option linter.unusedVariables false
namespace Go.Proofs.YtlginjmkmfodmaaDoor.S
open Go Go.Sm
theorem ib_yes (r : List UInt8) : ∀ n : List UInt8, (62 : UInt8) ∉ n → Go.Lib.indexByte (n ++ 62 :: r) 62 = (n.length : Int)
  | [], _ => rfl
  | x :: n, h => by
    have ih := ib_yes r n (fun c => h (List.mem_cons_of_mem _ c))
    have hx : (x == 62) = false := beq_eq_false_iff_ne.2 fun e => h (by rw [e]; exact List.mem_cons_self)
    have hy : (((n.length : Nat) : Int) == -1) = false := beq_eq_false_iff_ne.2 (by omega)
    rw [List.cons_append, Go.Lib.indexByte, hx, ih, if_neg (by decide), hy, if_neg (by decide)]
    simp
theorem ib_no : ∀ l : List UInt8, (62 : UInt8) ∉ l → Go.Lib.indexByte l 62 = -1
  | [], _ => rfl
  | x :: n, h => by
    have ih := ib_no n (fun c => h (List.mem_cons_of_mem _ c))
    have hx : (x == 62) = false := beq_eq_false_iff_ne.2 fun e => h (by rw [e]; exact List.mem_cons_self)
    rw [Go.Lib.indexByte, hx, ih]; rfl
theorem ref_idx (n : List UInt8) (r : List UInt8) (h : (62 : UInt8) ∉ n) : sIndexByte (60 :: (n ++ 62 :: r)) 62 = (n.length : Int) + 1 := by
  unfold sIndexByte
  have hy : (((n.length : Nat) : Int) == -1) = false := beq_eq_false_iff_ne.2 (by omega)
  rw [Go.Lib.indexByte, if_neg (by decide), ib_yes r n h, hy, if_neg (by decide)]
theorem ref_idx_no (l : List UInt8) (h : (62 : UInt8) ∉ l) : sIndexByte l 62 < 0 := by
  unfold sIndexByte
  rw [ib_no l h]; decide
theorem take_drop_prefix {t s : List UInt8} (h : t <+: s) : t ++ s.drop t.length = s := by
  obtain ⟨r, rfl⟩ := h
  rw [List.drop_left]
theorem split62 {l : List UInt8} (h : (62 : UInt8) ∈ l) : ∃ n r, l = n ++ 62 :: r ∧ (62 : UInt8) ∉ n := by
  induction l with
  | nil => cases h
  | cons x l ih =>
    by_cases e : x = 62
    · subst e; exact ⟨[], l, rfl, by simp⟩
    · rcases List.mem_cons.1 h with c | c
      · exact absurd c.symm e
      · obtain ⟨n, r, h1, h2⟩ := ih c
        refine ⟨x :: n, r, by rw [h1]; rfl, fun c => ?_⟩
        rcases List.mem_cons.1 c with c | c
        · exact e c.symm
        · exact h2 c
theorem CutPrefix_eq (n : List UInt8) : strings_CutPrefix n [67, 45] = some (if [67, 45] <+: n then (n.drop 2, true) else (n, false)) := by
  unfold strings_CutPrefix internal_stringslite_CutPrefix internal_stringslite_HasPrefix
  have e2 : (([67, 45] : List UInt8).length : Int) = 2 := rfl
  rw [e2]
  by_cases h : (n.length : Int) ≥ 2
  · rw [if_pos h, cut_of ⟨by omega, by omega, by omega⟩, bnd_some', bnd_some', bnd_some']
    have e : (List.drop (0 : Int).toNat (List.take (2 : Int).toNat n)) = n.take 2 := by simp
    rw [e]
    by_cases c : n.take 2 = [67, 45]
    · rw [if_pos (by simpa using c), cut_of ⟨by omega, by omega, by omega⟩, bnd_some', bnd_some', if_pos (List.prefix_iff_eq_take.2 c.symm)]
      have e3 : (List.drop (2 : Int).toNat (List.take ((n.length : Int)).toNat n)) = n.drop 2 := by simp
      rw [e3]
    · rw [if_neg (by simpa using c), bnd_some', if_neg (fun h => c (show List.take 2 n = [67, 45] from ((List.prefix_iff_eq_take (l₁ := [67, 45]) (l₂ := n)).1 h).symm))]
  · rw [if_neg h, bnd_some', bnd_some', if_neg (by decide), bnd_some', if_neg (fun h' => by have := h'.length_le; simp at this; omega)]
theorem refCtrl_get (c : UInt8) : ref22_Ctrl c = some ((ref22_Ctrl c).getD 0) := by
  obtain ⟨v, hv⟩ := Option.isSome_iff_exists.1 (refCtrl_some c)
  rw [hv]; rfl
/-- What stands between < and >. -/
theorem namesLoop (s n : List UInt8) (e : Int) (he : sIndexByte s 62 = e) (h1 : 0 ≤ e ∧ e ≤ 1000000) : loop (keys_named.l1 s n) 0 = some (match tab_keys_names.find? (fun x => decide (x.fText = n)) with | some x => .ret (x.fKey, e + 1) | none => .brk ()) := by
  obtain ⟨t, h2, h3⟩ := loop_for (f := keys_named.l1 s n) (σ := Unit) (fun i _ => i) tab_keys_names (fun pre _ => pre.find? (fun x => decide (x.fText = n)) = none) (· = (match tab_keys_names.find? (fun x => decide (x.fText = n)) with | some x => .ret (x.fKey, e + 1) | none => .brk () : Ex Unit (Int × Int)))
    (fun pre x suf st hl hp => by
      have hn : pre.length < 12 := by
        have : tab_keys_names.length = 12 := rfl
        rw [hl] at this; simp at this; omega
      unfold keys_named.l1
      rw [if_pos (by omega)]
      rw [show idx tab_keys_names (pre.length : Int) = some x by rw [hl]; exact idx_at pre x suf, bnd_some']
      by_cases c : x.fText = n
      · rw [if_pos c]
        refine .inr ⟨_, rfl, ?_⟩
        rw [hl, List.find?_append, hp, Option.none_or, List.find?_cons, decide_eq_true c, he, w64_id ⟨by omega, by omega⟩]
      · rw [if_neg c, w64_id ⟨by omega, by omega⟩]
        refine .inl ⟨(), rfl, ?_⟩
        rw [List.find?_append, hp, Option.none_or, List.find?_cons, decide_eq_false c]; rfl)
    (fun st hp => ⟨_, by unfold keys_named.l1; rw [if_neg (by decide)], by rw [hp]⟩) (s0 := ()) rfl
  rw [h2, h3]
theorem named_ang (n r : List UInt8) (hn : (62 : UInt8) ∉ n) (hl : n.length ≤ 900000) : keys_named (60 :: (n ++ 62 :: r)) = some (innK n, if innK n = 0 then 0 else (n.length : Int) + 2) := by
  have hix := ref_idx n r hn
  unfold keys_named
  rw [hix, if_neg (by omega), cut_of ⟨by omega, by omega, by simp; omega⟩, bnd_some']
  have e1 : (List.drop (1 : Int).toNat (List.take ((n.length : Int) + 1).toNat (60 :: (n ++ 62 :: r)))) = n := by
    rw [show ((n.length : Int) + 1).toNat = n.length + 1 by omega]; simp
  rw [e1, namesLoop _ n _ hix ⟨by omega, by omega⟩, bnd_some']
  have hw : w64 ((n.length : Int) + 1 + 1) = (n.length : Int) + 2 := w64_id ⟨by omega, by omega⟩
  unfold innK
  cases hf : tab_keys_names.find? (fun x => decide (x.fText = n)) with
  | some x =>
    dsimp only
    have := (tabT x (List.mem_of_find?_eq_some hf)).2
    rw [if_neg this]
    congr 2
  | none =>
    dsimp only
    rw [CutPrefix_eq, bnd_some', hw]
    by_cases hp : [67, 45] <+: n
    · rw [if_pos hp]
      dsimp only
      rw [if_pos rfl, bnd_some']
      obtain ⟨m, hm⟩ := hp
      subst hm
      have ed : List.drop 2 ([67, 45] ++ m) = m := rfl
      rw [ed]
      match m with
      | [] => rfl
      | [c] =>
        rw [if_pos (by simp)]
        have ei : idx [c] 0 = some c := rfl
        rw [ei, bnd_some', Ctrl_eqK, refCtrl_get, bnd_some']
        have ec : ctrlK ([67, 45] ++ [c]) = if (ref22_Ctrl c).getD 0 ≠ 0 ∧ keyT ((ref22_Ctrl c).getD 0) = 60 :: (([67, 45] ++ [c]) ++ [62]) then (ref22_Ctrl c).getD 0 else 0 := rfl
        rw [ec]
        by_cases k0 : (ref22_Ctrl c).getD 0 = 0
        · rw [if_pos k0, bnd_some', if_neg (by decide), bnd_some', if_neg (fun h => h.1 k0)]; rfl
        · rw [if_neg k0, Text_eqK, bnd_some', cut_of ⟨by omega, by omega, by simp; omega⟩, bnd_some', bnd_some']
          have e5 : (List.drop (0 : Int).toNat (List.take ((([67, 45] ++ [c] : List UInt8).length : Int) + 2).toNat (60 :: (([67, 45] ++ [c]) ++ 62 :: r)))) = 60 :: (([67, 45] ++ [c]) ++ [62]) := rfl
          rw [e5]
          by_cases kt : keyT ((ref22_Ctrl c).getD 0) = 60 :: (([67, 45] ++ [c]) ++ [62])
          · rw [if_pos (by simpa using kt), bnd_some', if_pos ⟨k0, kt⟩]
            dsimp only
            rw [if_neg k0]
          · rw [if_neg (by simpa using kt), bnd_some', if_neg (fun h => kt h.2)]; rfl
      | c :: d :: m =>
        have : (((c :: d :: m).length : Int) == 1) = false := by simp; omega
        rw [this, if_neg (by decide), bnd_some']
        have ec : ctrlK ([67, 45] ++ c :: d :: m) = 0 := rfl
        rw [ec]; rfl
    · rw [if_neg hp]
      dsimp only
      rw [if_neg (by decide), bnd_some', if_neg (by decide), bnd_some']
      have ec : ctrlK n = 0 := by
        unfold ctrlK
        split
        · exact absurd ⟨_, rfl⟩ hp
        · rfl
      rw [ec]; rfl
theorem named_tok {l : List UInt8} (hl : l.length ≤ 900000) : keys_named (60 :: l) = some (tok (60 :: l), if tok (60 :: l) = 0 then 0 else ((keyT (tok (60 :: l))).length : Int)) := by
  rw [tok_ang]
  by_cases h : (62 : UInt8) ∈ l
  · obtain ⟨n, r, rfl, hn⟩ := split62 h
    rw [named_ang n r hn (by simp at hl; omega), tokF_ang hn]
    by_cases c : innK n = 0
    · rw [if_pos c, if_pos c]
    · rw [if_neg c, if_neg c, (innK_p c).1]
      congr 2; simp; omega
  · have := ref_idx_no (60 :: l) (by
      intro c
      rcases List.mem_cons.1 c with c | c
      · exact absurd c (by decide)
      · exact h c)
    unfold keys_named
    rw [if_pos this, tokF_open h]; rfl
/-! ### a whole text -/
def parseF : Nat → List UInt8 → Option (List Int)
  | _, [] => some []
  | 0, _ :: _ => none
  | n + 1, b :: s => if tok (b :: s) = 0 then none else (parseF n ((b :: s).drop (keyT (tok (b :: s))).length)).map (tok (b :: s) :: ·)
def parse (s : List UInt8) : Option (List Int) := parseF s.length s
theorem tok_len {b : UInt8} {l : List UInt8} (h : tok (b :: l) ≠ 0) : 1 ≤ (keyT (tok (b :: l))).length ∧ (keyT (tok (b :: l))).length ≤ l.length + 1 := by
  obtain ⟨h1, h2, _⟩ := tok_prefix h
  have := h2.length_le
  simp at this
  refine ⟨?_, this⟩
  cases hk : keyT (tok (b :: l)) with
  | nil => exact absurd hk h1
  | cons c t => simp
theorem parseF_fuel : ∀ (n m : Nat) (s : List UInt8), s.length ≤ n → n ≤ m → parseF m s = parseF n s
  | _, _, [], _, _ => by unfold parseF; rfl
  | 0, _, b :: s, h, _ => by simp at h
  | n + 1, 0, b :: s, _, h => by omega
  | n + 1, m + 1, b :: s, h, h' => by
    unfold parseF
    by_cases c : tok (b :: s) = 0
    · rw [if_pos c, if_pos c]
    · rw [if_neg c, if_neg c, parseF_fuel n m _ (by have := tok_len c; rw [List.length_drop]; simp at h ⊢; omega) (by omega)]
theorem parse_nil : parse [] = some [] := rfl
theorem parse_cons (b : UInt8) (s : List UInt8) : parse (b :: s) = if tok (b :: s) = 0 then none else (parse ((b :: s).drop (keyT (tok (b :: s))).length)).map (tok (b :: s) :: ·) := by
  show parseF (s.length + 1) (b :: s) = _
  rw [parseF]
  by_cases c : tok (b :: s) = 0
  · rw [if_pos c, if_pos c]
  · rw [if_neg c, if_neg c]
    unfold parse
    rw [parseF_fuel _ s.length _ (Nat.le_refl _) (by have := tok_len c; rw [List.length_drop]; simp; omega)]
theorem parse_print : ∀ (n : Nat) (s : List UInt8) (l : List Int), s.length ≤ n → parse s = some l → l.flatMap keyT = s ∧ l.length ≤ s.length
  | _, [], l, _, h => by
    rw [parse_nil] at h
    obtain rfl := Option.some.inj h
    exact ⟨rfl, Nat.le_refl _⟩
  | 0, b :: s, l, h, _ => by simp at h
  | n + 1, b :: s, l, hn, h => by
    rw [parse_cons] at h
    by_cases c : tok (b :: s) = 0
    · rw [if_pos c] at h; cases h
    · rw [if_neg c] at h
      obtain ⟨m, h1, rfl⟩ := Option.map_eq_some_iff.1 h
      have hl := tok_len c
      obtain ⟨g1, g2⟩ := parse_print n _ m (by rw [List.length_drop]; simp at hn ⊢; omega) h1
      obtain ⟨_, hp, _⟩ := tok_prefix c
      refine ⟨?_, by rw [List.length_drop] at g2; simp at g2 ⊢; omega⟩
      rw [List.flatMap_cons, g1]
      exact take_drop_prefix hp
theorem parse_flat : ∀ l : List Int, parse (l.flatMap keyT) = some (l.filter isK)
  | [] => rfl
  | k :: l => by
    rw [List.flatMap_cons, List.filter_cons]
    by_cases h : isK k = true
    · rw [if_pos h]
      obtain ⟨h1, h2⟩ := tok_key h (l.flatMap keyT)
      cases hk : keyT k with
      | nil => exact absurd hk h1
      | cons b t =>
        rw [hk] at h2
        rw [List.cons_append] at h2 ⊢
        rw [parse_cons, h2, if_neg (fun e => by subst e; exact h1 rfl), hk]
        have : List.drop (b :: t).length (b :: (t ++ l.flatMap keyT)) = l.flatMap keyT := by
          rw [← List.cons_append]; exact List.drop_left
        rw [this, parse_flat l]; rfl
    · have ho : keyT k = [] := by
        by_cases hr : -6 ≤ k ∧ k ≤ 127
        · obtain ⟨e, hn⟩ := in_range hr
          have : ∀ n : Nat, n < 134 → isK ((n : Int) - 6) = false → keyT ((n : Int) - 6) = [] := by decide +kernel
          have := this (k + 6).toNat hn
          rw [e] at this
          exact this (by simpa using h)
        · rw [keyT_out (by omega)]
          have : ¬ types k = true := fun ht => h (by unfold isK; rw [ht, Bool.or_true])
          rw [if_neg this]
      rw [if_neg h, ho, List.nil_append]; exact parse_flat l
/-! ### the reference's loop -/
theorem pfx_cond (s : List UInt8) (i : Nat) (k : Int) (hs : s.length ≤ 1000000) (hi : i ≤ s.length) (hk : (keyT k).length ≤ 7) :
    (if keyT k = [] then some false else if w64 ((i : Int) + ((keyT k).length : Int)) ≤ (s.length : Int) then bnd (cut s (i : Int) (w64 ((i : Int) + ((keyT k).length : Int)))) fun x => some (x == keyT k) else some false) = some (pfx (s.drop i) k) := by
  rw [w64_id ⟨by omega, by omega⟩]
  by_cases c : keyT k = []
  · rw [if_pos c]; unfold pfx; rw [c]; rfl
  · rw [if_neg c]
    by_cases h : (i : Int) + ((keyT k).length : Int) ≤ (s.length : Int)
    · rw [if_pos h, cut_of ⟨by omega, by omega, h⟩, bnd_some']
      have e : List.drop (i : Int).toNat (List.take ((i : Int) + ((keyT k).length : Int)).toNat s) = (s.drop i).take (keyT k).length := by
        rw [show ((i : Int) + ((keyT k).length : Int)).toNat = i + (keyT k).length by omega, Int.toNat_natCast, List.drop_take]
        congr 1; omega
      rw [e]
      congr 1
      rw [Bool.eq_iff_iff, pfx_iff, List.prefix_iff_eq_take]
      simp only [beq_iff_eq]
      exact ⟨fun h => ⟨c, h.symm⟩, fun h => h.2.symm⟩
    · rw [if_neg h]
      congr 1
      symm
      rw [Bool.eq_false_iff]
      intro hp
      have := (pfx_iff.1 hp).2.length_le
      rw [List.length_drop] at this; omega
theorem keyT_len (k : Int) : (keyT k).length ≤ 7 := by
  by_cases hr : -6 ≤ k ∧ k ≤ 127
  · exact (asc_key hr).2
  · rw [keyT_out (by omega)]
    split
    · rename_i h
      have hs : scalar k = true := by
        unfold types at h
        rw [Bool.and_eq_true] at h; exact h.2
      have := (dec_put hs []).2.2.1
      omega
    · simp
theorem findLoop (s : List UInt8) (i : Nat) (out : List Int) (hs : s.length ≤ 1000000) (hi : i ≤ s.length) : ∀ (m : Nat) (k : Int), k + m = 128 → -6 ≤ k → loop (ref22_Parse.l1 s ((i : Int), out)) (0, k) = some (findK (pfx (s.drop i)) m k)
  | 0, k, h, _ => loop_done (by
    unfold ref22_Parse.l1
    dsimp only
    rw [if_neg (by omega), bnd_some', if_neg (by decide)]; rfl)
  | m + 1, k, h, h6 => by
    have e1 : ref22_Parse.l1 s ((i : Int), out) (0, k) = some (.next (if pfx (s.drop i) k = true then k else 0, k + 1)) := by
      unfold ref22_Parse.l1
      dsimp only
      rw [if_pos (by omega), bnd_some', if_pos (by decide), refText_eqK, bnd_some', pfx_cond s i k hs hi (keyT_len k), bnd_some', w64_id ⟨by omega, by omega⟩]
      split <;> rfl
    unfold findK
    by_cases c : pfx (s.drop i) k = true
    · rw [if_pos c] at e1 ⊢
      refine loop_next e1 (loop_done ?_)
      have k0 : k ≠ 0 := fun e => by subst e; rw [pfx0] at c; cases c
      have : (k == 0) = false := beq_eq_false_iff_ne.2 k0
      unfold ref22_Parse.l1
      dsimp only
      rw [this]
      have e2 : (if k + 1 < 128 then some false else some false) = some false := by split <;> rfl
      rw [e2, bnd_some', if_neg (by decide)]
    · rw [if_neg c] at e1 ⊢
      exact loop_next e1 (findLoop s i out hs hi m (k + 1) (by omega) (by omega))
theorem atS_drop (s : List UInt8) (i : Nat) (h : i < s.length) : atS s (i : Int) = dec (s.drop i) := by
  rw [atS_yes (decide_eq_true (by omega)), Int.toNat_natCast]
theorem refParseL (s : List UInt8) (hs : s.length ≤ 100000) : ∀ (n i : Nat) (out : List Int), s.length ≤ i + n → i ≤ s.length → out.length ≤ i → loop (ref22_Parse.l2 s) ((i : Int), out) = some (match parse (s.drop i) with | some l => .brk (out ++ l) | none => .ret ([], 3)) := by
  intro n
  induction n with
  | zero =>
    intro i out h1 h2 h3
    have : s.drop i = [] := List.drop_eq_nil_of_le (by omega)
    rw [this, parse_nil]
    refine loop_done ?_
    unfold ref22_Parse.l2
    dsimp only
    rw [if_neg (by omega), List.append_nil]
  | succ n ih =>
    intro i out h1 h2 h3
    by_cases hi : i < s.length
    · have hd : s.drop i = s[i] :: s.drop (i + 1) := List.drop_eq_getElem_cons hi
      have body : ref22_Parse.l2 s ((i : Int), out) = if tok (s.drop i) = 0 then some (.done (.ret ([], 3))) else some (.next ((i : Int) + ((keyT (tok (s.drop i))).length : Int), out ++ [tok (s.drop i)])) := by
        unfold ref22_Parse.l2
        dsimp only
        rw [if_pos (by omega), findLoop s i out (by omega) h2 134 (-6) (by omega) (by omega), bnd_some', At_eqU s _ (by omega), bnd_some', atS_drop s i hi]
        show bnd (if tokF (s.drop i) = 0 then _ else _) _ = _
        have e1 : (bnd (if tokF (s.drop i) = 0 then some (decide ((dec (s.drop i)).1 > 127)) else some false) fun t34 => bnd (if t34 = true then some (dec (s.drop i)).1 else some (tokF (s.drop i)) : Option Int) fun t36 => (some t36 : Option Int)) = some (tok (s.drop i)) := by
          unfold tok
          by_cases c : tokF (s.drop i) = 0
          · rw [if_pos c, if_pos c, bnd_some']
            by_cases d : (dec (s.drop i)).1 > 127
            · rw [decide_eq_true d, if_pos rfl, if_pos d]; rfl
            · rw [decide_eq_false d, if_neg (by decide), if_neg d, c]; rfl
          · rw [if_neg c, if_neg c, bnd_some', if_neg (by decide)]; rfl
        have e2 : ∀ {γ : Type} (f : Int → Option γ), (bnd (if tokF (s.drop i) = 0 then some (decide ((dec (s.drop i)).1 > 127)) else some false) fun t34 => bnd (if t34 = true then some (dec (s.drop i)).1 else some (tokF (s.drop i)) : Option Int) f) = f (tok (s.drop i)) := fun {γ} f => by
          cases hx : (if tokF (s.drop i) = 0 then some (decide ((dec (s.drop i)).1 > 127)) else some false) with
          | none => rw [hx] at e1; cases e1
          | some v =>
            rw [hx] at e1
            rw [bnd_some'] at e1 ⊢
            cases hy : (if v = true then some (dec (s.drop i)).1 else some (tokF (s.drop i)) : Option Int) with
            | none => rw [hy] at e1; cases e1
            | some u =>
              rw [hy] at e1
              rw [bnd_some'] at e1 ⊢
              rw [Option.some.inj e1]
        refine (e2 _).trans ?_
        by_cases c : tok (s.drop i) = 0
        · rw [if_pos c, if_pos c]
        · rw [if_neg c, if_neg c, app_of (by simp; omega), bnd_some', refText_eqK, bnd_some']
          have := keyT_len (tok (s.drop i))
          rw [w64_id ⟨by omega, by omega⟩]
      rw [hd] at body ⊢
      rw [parse_cons]
      by_cases c : tok (s[i] :: s.drop (i + 1)) = 0
      · rw [if_pos c] at body ⊢
        exact loop_done body
      · rw [if_neg c] at body ⊢
        have hl := tok_len c
        have hlen : (s.drop (i + 1)).length = s.length - (i + 1) := List.length_drop
        have := ih (i + (keyT (tok (s[i] :: s.drop (i + 1)))).length) (out ++ [tok (s[i] :: s.drop (i + 1))]) (by omega) (by omega) (by rw [List.length_append, List.length_singleton]; omega)
        have e : s.drop (i + (keyT (tok (s[i] :: s.drop (i + 1)))).length) = (s[i] :: s.drop (i + 1)).drop (keyT (tok (s[i] :: s.drop (i + 1)))).length := by rw [← List.drop_drop, hd]
        rw [e] at this
        refine loop_next body ?_
        rw [show ((i : Int) + ((keyT (tok (s[i] :: s.drop (i + 1)))).length : Int)) = ((i + (keyT (tok (s[i] :: s.drop (i + 1)))).length : Nat) : Int) by omega, this]
        cases parse (List.drop (keyT (tok (s[i] :: s.drop (i + 1)))).length (s[i] :: s.drop (i + 1))) with
        | none => rfl
        | some l =>
          show some (Ex.brk (out ++ [_] ++ l)) = some (Ex.brk (out ++ (_ :: l)))
          rw [List.append_assoc]; rfl
    · have : s.drop i = [] := List.drop_eq_nil_of_le (by omega)
      rw [this, parse_nil]
      refine loop_done ?_
      unfold ref22_Parse.l2
      dsimp only
      rw [if_neg (by omega), List.append_nil]
theorem refParse_eq (s : List UInt8) (hs : s.length ≤ 100000) : ref22_Parse s = some (match parse s with | some l => (l, 0) | none => ([], 3)) := by
  unfold ref22_Parse
  have := refParseL s hs s.length 0 [] (by omega) (by omega) (by simp)
  rw [show ((0 : Nat) : Int) = 0 from rfl, List.drop_zero] at this
  rw [this, bnd_some']
  cases parse s <;> rfl
end Go.Proofs.YtlginjmkmfodmaaDoor.S
