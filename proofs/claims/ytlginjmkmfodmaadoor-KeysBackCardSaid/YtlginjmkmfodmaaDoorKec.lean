/- Which key a text begins with: the reference's search, and the program's. -/
import Derived.Test.YtlginjmkmfodmaaDoorG0
import Derived.Test.YtlginjmkmfodmaaDoorG2xa
import Derived.Test.YtlginjmkmfodmaaDoorKeb
set_option linter.unusedVariables false
namespace Go.Proofs.YtlginjmkmfodmaaDoor.S
open Go Go.Sm
def pfx (s : List UInt8) (k : Int) : Bool := !(keyT k).isEmpty && (keyT k).isPrefixOf s
def findK (p : Int → Bool) : Nat → Int → Int
  | 0, _ => 0
  | m + 1, k => if p k = true then k else findK p m (k + 1)
theorem findK_yes {p : Int → Bool} : ∀ {m : Nat} {k : Int}, findK p m k ≠ 0 → p (findK p m k) = true ∧ k ≤ findK p m k ∧ findK p m k < k + m
  | 0, k, h => absurd rfl h
  | m + 1, k, h => by
    unfold findK at h ⊢
    by_cases c : p k = true
    · rw [if_pos c] at h ⊢; exact ⟨c, by omega, by omega⟩
    · rw [if_neg c] at h ⊢
      obtain ⟨h1, h2, h3⟩ := findK_yes h
      exact ⟨h1, by omega, by omega⟩
theorem findK_no {p : Int → Bool} (h0 : p 0 = false) : ∀ {m : Nat} {k : Int}, findK p m k = 0 → ∀ j, k ≤ j → j < k + m → p j = false
  | 0, k, h, j, h1, h2 => by omega
  | m + 1, k, h, j, h1, h2 => by
    unfold findK at h
    by_cases c : p k = true
    · rw [if_pos c] at h
      subst h; rw [h0] at c; cases c
    · rw [if_neg c] at h
      by_cases e : j = k
      · subst e; simpa using c
      · exact findK_no h0 h j (by omega) (by omega)
theorem pfx0 (s : List UInt8) : pfx s 0 = false := rfl
theorem pfx_iff {s : List UInt8} {k : Int} : pfx s k = true ↔ keyT k ≠ [] ∧ keyT k <+: s := by
  unfold pfx
  rw [Bool.and_eq_true, List.isPrefixOf_iff_prefix]
  cases keyT k <;> simp
def tokF (s : List UInt8) : Int := findK (pfx s) 134 (-6)
def tok (s : List UInt8) : Int := if tokF s = 0 then (if (dec s).1 > 127 then (dec s).1 else 0) else tokF s
/-! ### what begins a key's text -/
def mid (t : List UInt8) : List UInt8 := (t.drop 1).dropLast
theorem headB : ((List.range 134).all fun n => match keyT ((n : Int) - 6) with | [] => true | b :: t => decide (b = 60) || (t.isEmpty && decide ((n : Int) - 6 = b.toNat) && decide (32 ≤ b.toNat) && decide (b.toNat < 127))) = true := by decide +kernel
theorem headF (b : UInt8) (hb : b ≠ 60) (n : Nat) (hn : n < 134) (h : (keyT ((n : Int) - 6)).head? = some b) : keyT ((n : Int) - 6) = [b] ∧ ((n : Int) - 6) = b.toNat ∧ 32 ≤ b.toNat ∧ b.toNat < 127 := by
  have := List.all_eq_true.1 headB n (List.mem_range.2 hn)
  cases hk : keyT ((n : Int) - 6) with
  | nil => rw [hk] at h; cases h
  | cons c t =>
    rw [hk] at h this
    obtain rfl : c = b := by simpa using h
    simp only [Bool.or_eq_true, Bool.and_eq_true, decide_eq_true_eq, List.isEmpty_iff] at this
    rcases this with e | ⟨⟨⟨e1, e2⟩, e3⟩, e4⟩
    · exact absurd e hb
    · exact ⟨by rw [e1], e2, e3, e4⟩
theorem oneF : ∀ b : Nat, b < 127 → 32 ≤ b → b ≠ 60 → keyT (b : Int) = [UInt8.ofNat b] := by decide +kernel
theorem angF : ∀ n : Nat, n < 134 → (keyT ((n : Int) - 6)).head? = some 60 → keyT ((n : Int) - 6) = 60 :: (mid (keyT ((n : Int) - 6)) ++ [62]) ∧ (62 : UInt8) ∉ mid (keyT ((n : Int) - 6)) := by decide +kernel
theorem ascF : ∀ n : Nat, n < 134 → (keyT ((n : Int) - 6)).all (fun b => decide (b.toNat < 128)) = true ∧ (keyT ((n : Int) - 6)).length ≤ 7 := by decide +kernel
theorem in_range {k : Int} (h : -6 ≤ k ∧ k ≤ 127) : (((k + 6).toNat : Nat) : Int) - 6 = k ∧ (k + 6).toNat < 134 := by omega
theorem head_key {k : Int} (h : -6 ≤ k ∧ k ≤ 127) {b : UInt8} (hb : b ≠ 60) (hh : (keyT k).head? = some b) : keyT k = [b] ∧ k = b.toNat ∧ 32 ≤ b.toNat ∧ b.toNat < 127 := by
  obtain ⟨e, hn⟩ := in_range h
  have := headF b hb (k + 6).toNat hn
  rw [e] at this
  exact this hh
theorem one_key {b : UInt8} (h1 : 32 ≤ b.toNat) (h2 : b.toNat < 127) (h3 : b ≠ 60) : keyT (b.toNat : Int) = [b] := by
  have := oneF b.toNat h2 h1 (fun c => h3 (by have : b = UInt8.ofNat b.toNat := by simp
                                              rw [this, c]; rfl))
  rwa [UInt8.ofNat_toNat] at this
theorem ang_key {k : Int} (h : -6 ≤ k ∧ k ≤ 127) (hh : (keyT k).head? = some 60) : keyT k = 60 :: (mid (keyT k) ++ [62]) ∧ (62 : UInt8) ∉ mid (keyT k) := by
  obtain ⟨e, hn⟩ := in_range h
  have := angF (k + 6).toNat hn
  rw [e] at this
  exact this hh
theorem asc_key {k : Int} (h : -6 ≤ k ∧ k ≤ 127) : (∀ b ∈ keyT k, b.toNat < 128) ∧ (keyT k).length ≤ 7 := by
  obtain ⟨e, hn⟩ := in_range h
  have := ascF (k + 6).toNat hn
  rw [e] at this
  exact ⟨fun b hb => by have := List.all_eq_true.1 this.1 b hb; simpa using this, this.2⟩
theorem prefix_head {t s : List UInt8} {b : UInt8} (h : t <+: b :: s) (hn : t ≠ []) : t.head? = some b := by
  obtain ⟨r, hr⟩ := h
  cases t with
  | nil => exact absurd rfl hn
  | cons x t => rw [List.cons_append] at hr; rw [(List.cons.inj hr).1]; rfl
theorem tokF_range {s : List UInt8} (h : tokF s ≠ 0) : keyT (tokF s) ≠ [] ∧ keyT (tokF s) <+: s ∧ -6 ≤ tokF s ∧ tokF s ≤ 127 := by
  obtain ⟨h1, h2, h3⟩ := findK_yes h
  obtain ⟨h4, h5⟩ := pfx_iff.1 h1
  exact ⟨h4, h5, h2, by unfold tokF; omega⟩
theorem tokF_none {s : List UInt8} (h : tokF s = 0) {k : Int} (hk : -6 ≤ k ∧ k ≤ 127) (hn : keyT k ≠ []) : ¬ keyT k <+: s := fun hp => by
  have := findK_no (pfx0 s) h k hk.1 (by omega)
  rw [pfx_iff.2 ⟨hn, hp⟩] at this; cases this
theorem tokF_char {b : UInt8} {l : List UInt8} (hb : b ≠ 60) : tokF (b :: l) = if 32 ≤ b.toNat ∧ b.toNat < 127 then (b.toNat : Int) else 0 := by
  by_cases h : tokF (b :: l) = 0
  · rw [h]
    split
    · rename_i c
      have := tokF_none h (k := b.toNat) (by omega) (by rw [one_key c.1 c.2 hb]; simp)
      rw [one_key c.1 c.2 hb] at this
      exact absurd ⟨l, rfl⟩ this
    · rfl
  · obtain ⟨h1, h2, h3⟩ := tokF_range h
    obtain ⟨_, e, c⟩ := head_key h3 hb (prefix_head h2 h1)
    rw [if_pos c]; exact e
theorem tok_char {b : UInt8} {l : List UInt8} (hb : b ≠ 60) : tok (b :: l) = if 0 ≤ (dec (b :: l)).1 ∧ types (dec (b :: l)).1 = true then (dec (b :: l)).1 else 0 := by
  unfold tok
  rw [tokF_char hb]
  by_cases h : b.toNat < 128
  · rw [dec_low h]
    dsimp only
    by_cases c : 32 ≤ b.toNat ∧ b.toNat < 127
    · have e : (if 32 ≤ b.toNat ∧ b.toNat < 127 then (b.toNat : Int) else 0) = b.toNat := if_pos c
      rw [e, if_neg (by omega)]
      have ht : types (b.toNat : Int) = true := by
        unfold types
        rw [decide_eq_true (by omega), scalar_iff.2 (by omega)]; rfl
      rw [if_pos ⟨by omega, ht⟩]
    · have e : (if 32 ≤ b.toNat ∧ b.toNat < 127 then (b.toNat : Int) else 0) = 0 := if_neg c
      rw [e, if_pos rfl, if_neg (by omega)]
      have ht : types (b.toNat : Int) = false := by
        unfold types
        rw [decide_eq_false (by omega)]; rfl
      rw [if_neg (fun h => by rw [ht] at h; exact absurd h.2 (by decide))]
  · have e : (if 32 ≤ b.toNat ∧ b.toNat < 127 then (b.toNat : Int) else 0) = 0 := if_neg (by omega)
    rw [e, if_pos rfl]
    rcases dec_high (l := l) (show 128 ≤ b.toNat by omega) with c | c
    · rw [if_neg (by omega), if_neg (by omega)]
    · have ht : types (dec (b :: l)).1 = true := by
        unfold types
        rw [decide_eq_true (by omega), (dec_inv (by omega)).1]; rfl
      rw [if_pos (by omega), if_pos ⟨by omega, ht⟩]
/-! ### names between < and > -/
noncomputable def ctrlK (n : List UInt8) : Int := match n with
  | [67, 45, c] => if (ref22_Ctrl c).getD 0 ≠ 0 ∧ keyT ((ref22_Ctrl c).getD 0) = 60 :: (n ++ [62]) then (ref22_Ctrl c).getD 0 else 0
  | _ => 0
noncomputable def innK (n : List UInt8) : Int := match tab_keys_names.find? (fun x => decide (x.fText = n)) with
  | some x => x.fKey
  | none => ctrlK n
theorem tabT : ∀ x ∈ tab_keys_names, keyT x.fKey = 60 :: (x.fText ++ [62]) ∧ x.fKey ≠ 0 := by decide +kernel
theorem ctrl_bd : ∀ n : Nat, n < 256 → 0 ≤ (ref22_Ctrl (UInt8.ofNat n)).getD 0 ∧ (ref22_Ctrl (UInt8.ofNat n)).getD 0 ≤ 26 := by decide +kernel
theorem ctrl_rng (c : UInt8) : 0 ≤ (ref22_Ctrl c).getD 0 ∧ (ref22_Ctrl c).getD 0 ≤ 26 := by
  have := ctrl_bd c.toNat c.toNat_lt
  rwa [UInt8.ofNat_toNat] at this
theorem innK_p {n : List UInt8} (h : innK n ≠ 0) : keyT (innK n) = 60 :: (n ++ [62]) ∧ -6 ≤ innK n ∧ innK n ≤ 127 := by
  unfold innK at h ⊢
  split
  · rename_i x hx
    have hm := List.mem_of_find?_eq_some hx
    have he : x.fText = n := by simpa using List.find?_some hx
    have := tab_bd x hm
    exact ⟨by rw [(tabT x hm).1, he], by omega, by omega⟩
  · rename_i hx
    rw [hx] at h
    dsimp only at h
    unfold ctrlK at h ⊢
    split
    · rename_i c
      split
      · rename_i hc
        have := ctrl_rng c
        exact ⟨hc.2, by omega, by omega⟩
      · rename_i hc
        exact absurd (if_neg hc) h
    · rename_i hc
      split at h
      · rename_i c
        exact absurd rfl (hc c)
      · exact absurd rfl h
theorem innF : ∀ n : Nat, n < 134 → (keyT ((n : Int) - 6)).head? = some 60 → innK (mid (keyT ((n : Int) - 6))) = (n : Int) - 6 := by decide +kernel
theorem innK_q {k : Int} (h : -6 ≤ k ∧ k ≤ 127) (hh : (keyT k).head? = some 60) : innK (mid (keyT k)) = k := by
  obtain ⟨e, hn⟩ := in_range h
  have := innF (k + 6).toNat hn
  rw [e] at this
  exact this hh
theorem upto62 : ∀ {n m r : List UInt8}, (62 : UInt8) ∉ n → (62 : UInt8) ∉ m → n ++ [62] <+: m ++ 62 :: r → n = m
  | [], [], r, _, _, _ => rfl
  | [], y :: m, r, _, hm, h => by
    obtain ⟨q, hq⟩ := h
    simp only [List.nil_append, List.cons_append] at hq
    exact absurd (by rw [(List.cons.inj hq).1]; exact List.mem_cons_self) hm
  | x :: n, [], r, hn, _, h => by
    obtain ⟨q, hq⟩ := h
    simp only [List.nil_append, List.cons_append] at hq
    exact absurd (by rw [(List.cons.inj hq).1]; exact List.mem_cons_self) hn
  | x :: n, y :: m, r, hn, hm, h => by
    obtain ⟨q, hq⟩ := h
    simp only [List.cons_append] at hq
    rw [(List.cons.inj hq).1, upto62 (n := n) (m := m) (r := r) (fun c => hn (List.mem_cons_of_mem _ c)) (fun c => hm (List.mem_cons_of_mem _ c)) ⟨q, (List.cons.inj hq).2⟩]
theorem tokF_ang {n r : List UInt8} (hn : (62 : UInt8) ∉ n) : tokF (60 :: (n ++ 62 :: r)) = innK n := by
  by_cases h : tokF (60 :: (n ++ 62 :: r)) = 0
  · rw [h]
    by_cases c : innK n = 0
    · exact c.symm
    · obtain ⟨h1, h2⟩ := innK_p c
      refine absurd ⟨r, ?_⟩ (tokF_none h h2 (by rw [h1]; simp))
      rw [h1]; simp
  · obtain ⟨h1, h2, h3⟩ := tokF_range h
    have hh := prefix_head h2 h1
    obtain ⟨e1, e2⟩ := ang_key h3 hh
    have e3 : mid (keyT (tokF (60 :: (n ++ 62 :: r)))) = n := by
      refine upto62 e2 hn (r := r) ?_
      rw [e1] at h2
      obtain ⟨q, hq⟩ := h2
      exact ⟨q, by simpa using hq⟩
    have := innK_q h3 hh
    rw [e3] at this
    exact this.symm
theorem tokF_open {l : List UInt8} (h : (62 : UInt8) ∉ l) : tokF (60 :: l) = 0 := by
  by_cases c : tokF (60 :: l) = 0
  · exact c
  · obtain ⟨h1, h2, h3⟩ := tokF_range c
    obtain ⟨e1, _⟩ := ang_key h3 (prefix_head h2 h1)
    rw [e1] at h2
    obtain ⟨q, hq⟩ := h2
    refine absurd ?_ h
    have : (62 : UInt8) ∈ 60 :: l := by rw [← hq]; simp
    rcases List.mem_cons.1 this with h | h
    · exact absurd h (by decide)
    · exact h
theorem tok_ang {l : List UInt8} : tok (60 :: l) = tokF (60 :: l) := by
  unfold tok
  split
  · rename_i h
    rw [h, dec_low (by decide)]; rfl
  · rfl
theorem tok_prefix {b : UInt8} {l : List UInt8} (h : tok (b :: l) ≠ 0) : keyT (tok (b :: l)) ≠ [] ∧ keyT (tok (b :: l)) <+: b :: l ∧ (keyT (tok (b :: l))).length ≤ 7 := by
  unfold tok at h ⊢
  by_cases c : tokF (b :: l) = 0
  · rw [if_pos c] at h ⊢
    by_cases d : (dec (b :: l)).1 > 127
    · rw [if_pos d] at h ⊢
      obtain ⟨h1, r, hr⟩ := dec_inv (b := b) (l := l) (by omega)
      have ht : types (dec (b :: l)).1 = true := by
        unfold types
        rw [decide_eq_true (by omega), h1]; rfl
      have := dec_put h1 []
      rw [keyT_out (.inr d), if_pos ht]
      exact ⟨fun e => by rw [e] at this; simp at this, ⟨r, hr.symm⟩, by omega⟩
    · rw [if_neg d] at h; exact absurd rfl h
  · rw [if_neg c] at h ⊢
    obtain ⟨h1, h2, h3⟩ := tokF_range c
    exact ⟨h1, h2, (asc_key h3).2⟩
/-- A key's text, whatever comes behind, begins with that key. -/
theorem tok_key {k : Int} (h : isK k = true) (r : List UInt8) : keyT k ≠ [] ∧ tok (keyT k ++ r) = k := by
  by_cases hr : -6 ≤ k ∧ k ≤ 127
  · have hne : keyT k ≠ [] := by
      obtain ⟨e, hn⟩ := in_range hr
      have : ∀ n : Nat, n < 134 → isK ((n : Int) - 6) = true → keyT ((n : Int) - 6) ≠ [] := by decide +kernel
      have := this (k + 6).toNat hn
      rw [e] at this
      exact this h
    refine ⟨hne, ?_⟩
    have hk0 : k ≠ 0 := fun e => by subst e; exact hne rfl
    cases hk : keyT k with
    | nil => exact absurd hk hne
    | cons b t =>
      by_cases hb : b = 60
      · subst hb
        have hh : (keyT k).head? = some 60 := by rw [hk]; rfl
        obtain ⟨e1, e2⟩ := ang_key hr hh
        rw [← hk, e1, List.cons_append, tok_ang, List.append_assoc]
        show tokF (60 :: (mid (keyT k) ++ 62 :: r)) = k
        rw [tokF_ang e2, innK_q hr hh]
      · obtain ⟨e1, e2, e3⟩ := head_key hr hb (by rw [hk]; rfl)
        rw [List.cons_append, tok_char hb, dec_low (by omega)]
        dsimp only
        have ht : types (b.toNat : Int) = true := by
          unfold types
          rw [decide_eq_true (by omega), scalar_iff.2 (by omega)]; rfl
        rw [if_pos ⟨by omega, ht⟩, e2]
  · have ho : k < -6 ∨ 127 < k := by omega
    have ht : types k = true := by
      unfold isK at h
      rw [decide_eq_false (by omega), decide_eq_false (by omega)] at h
      simpa using h
    have hs : scalar k = true := by
      unfold types at ht
      rw [Bool.and_eq_true] at ht; exact ht.2
    have h32 : 127 < k := by
      have := scalar_iff.1 hs
      omega
    rw [keyT_out ho, if_pos ht]
    obtain ⟨d1, d2, _⟩ := dec_put hs r
    refine ⟨fun e => by rw [e] at d2; simp at d2, ?_⟩
    cases hk : putB k ++ r with
    | nil =>
      have : (putB k ++ r).length = 0 := by rw [hk]; rfl
      rw [List.length_append] at this; omega
    | cons b t =>
      rw [hk] at d1
      have hb : b ≠ 60 := fun e => by
        rw [e, dec_low (by decide)] at d1
        have := congrArg Prod.fst d1
        dsimp only at this
        have e60 : ((60 : UInt8).toNat : Int) = 60 := by decide
        omega
      rw [tok_char hb, d1]
      dsimp only
      rw [if_pos ⟨by omega, ht⟩]
end Go.Proofs.YtlginjmkmfodmaaDoor.S
