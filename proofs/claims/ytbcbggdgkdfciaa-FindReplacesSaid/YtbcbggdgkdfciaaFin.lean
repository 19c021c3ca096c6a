/- Chapter 17: a text's places in another one, as the program tells them, and as the chapter does. -/
import Derived.Test.YtbcbggdgkdfciaaG1xa
import Derived.Test.YtbcbggdgkdfciaaKmp
set_option linter.unusedVariables false
namespace Go.Proofs.Ytbcbggdgkdfciaa.S
open Go Go.Sm
def at8 (l : List UInt8) (i : Nat) : UInt8 := l.getD i 0
theorem at8_of {l : List UInt8} {i : Nat} {x : UInt8} (h : l[i]? = some x) : at8 l i = x := by unfold at8; rw [List.getD_eq_getElem?_getD, h]; rfl
theorem at8_get {l : List UInt8} {i : Nat} (h : i < l.length) : l[i]? = some (at8 l i) := by
  have := List.getElem?_eq_getElem h
  rw [this, at8_of this]
theorem idx8 {l : List UInt8} {i : Nat} (h : i < l.length) : idx l (i : Int) = some (at8 l i) := idx_nat (at8_get h)
theorem u8i {x y : UInt8} : ((x.toNat : Int) = (y.toNat : Int)) ↔ x = y := ⟨fun h => UInt8.toNat_inj.1 (by omega), fun h => by rw [h]⟩
/-- What the table's row has. -/
def TabL (p : List UInt8) (n : Nat) (x : List Int) : Prop := x.length = p.length + 1 ∧ ∃ t : Nat → Nat, TabOk (at8 p) p.length n t ∧ ∀ k, 1 ≤ k → k ≤ n → x[k]? = some ((t k : Nat) : Int)
theorem down_table {p : List UInt8} {x : List Int} (k0 : Int) {j : Nat} (hj : j + 1 < p.length) (hx : TabL p (j + 1) x) {k : Nat} (hk : Dn (at8 p) (shf (at8 p)) p.length j (at8 p (j + 1)) k) :
    ∃ t, loop (find_table.l1 p (k0, ((j + 1 : Nat) : Int), x)) (k : Int) = some t ∧ ∃ k' : Nat, t = (k' : Int) ∧ Dn (at8 p) (shf (at8 p)) p.length j (at8 p (j + 1)) k' ∧ (k' = 0 ∨ at8 p k' = at8 p (j + 1)) := by
  obtain ⟨hl, t, ht, hx⟩ := hx
  refine loop_ind (fun s : Int => ∃ k : Nat, s = (k : Int) ∧ Dn (at8 p) (shf (at8 p)) p.length j (at8 p (j + 1)) k) (fun s => s.toNat) (fun t => ∃ k' : Nat, t = (k' : Int) ∧ Dn (at8 p) (shf (at8 p)) p.length j (at8 p (j + 1)) k' ∧ (k' = 0 ∨ at8 p k' = at8 p (j + 1))) (fun s hs => ?_) ⟨k, rfl, hk⟩
  obtain ⟨k, rfl, hd⟩ := hs
  have hle : k ≤ j := hd.1.1
  unfold find_table.l1
  dsimp only
  by_cases c : k = 0
  · subst c
    refine .inr ⟨_, by rw [if_neg (by omega), bnd_some', if_neg (by simp)], 0, rfl, hd, .inl rfl⟩
  · rw [if_pos (by omega), idx8 hj, bnd_some', idx8 (by omega), bnd_some']
    by_cases e : at8 p k = at8 p (j + 1)
    · refine .inr ⟨(k : Int), ?_, k, rfl, hd, .inr e⟩
      rw [e, bnd_some', if_neg (by simp)]
    · obtain ⟨h1, h2⟩ := dn_step ht hd (by omega) (by omega) (.inr e)
      refine .inl ⟨(t k : Int), ?_, ⟨t k, rfl, h1⟩, by omega⟩
      have hn : ¬ ((at8 p (j + 1)).toNat : Int) = ((at8 p k).toNat : Int) := fun h => e (u8i.1 h).symm
      rw [bnd_some', if_pos (by simpa using hn), idx_nat (hx k (by omega) (by omega)), bnd_some']
theorem down_places {p : List UInt8} {x : List Int} {b : Nat → UInt8} {c : UInt8} {i : Nat} (hx : TabL p p.length x) {k : Nat} (hk : Dn (at8 p) b p.length i c k) :
    ∃ t, loop (find_places_1.l1 p x c) (k : Int) = some t ∧ ∃ k' : Nat, t = (k' : Int) ∧ Dn (at8 p) b p.length i c k' ∧ (k' = 0 ∨ (k' < p.length ∧ at8 p k' = c)) := by
  obtain ⟨hl, t, ht, hx⟩ := hx
  refine loop_ind (fun s : Int => ∃ k : Nat, s = (k : Int) ∧ Dn (at8 p) b p.length i c k) (fun s => s.toNat) (fun t => ∃ k' : Nat, t = (k' : Int) ∧ Dn (at8 p) b p.length i c k' ∧ (k' = 0 ∨ (k' < p.length ∧ at8 p k' = c))) (fun s hs => ?_) ⟨k, rfl, hk⟩
  obtain ⟨k, rfl, hd⟩ := hs
  have hle : k ≤ p.length := hd.1.2.1
  unfold find_places_1.l1
  by_cases c0 : k = 0
  · subst c0
    refine .inr ⟨_, by rw [if_neg (by omega), bnd_some', if_neg (by simp)], 0, rfl, hd, .inl rfl⟩
  · rw [if_pos (by omega)]
    by_cases cm : k = p.length
    · obtain ⟨h1, h2⟩ := dn_step ht hd (by omega) hle (.inl cm)
      refine .inl ⟨(t k : Int), ?_, ⟨t k, rfl, h1⟩, by omega⟩
      rw [if_pos (by omega), bnd_some', if_pos rfl, idx_nat (hx k (by omega) (by omega)), bnd_some']
    · rw [if_neg (by omega), idx8 (by omega), bnd_some']
      by_cases e : at8 p k = c
      · refine .inr ⟨(k : Int), ?_, k, rfl, hd, .inr ⟨by omega, e⟩⟩
        rw [e, bnd_some', if_neg (by simp)]
      · obtain ⟨h1, h2⟩ := dn_step ht hd (by omega) hle (.inr e)
        refine .inl ⟨(t k : Int), ?_, ⟨t k, rfl, h1⟩, by omega⟩
        have hn : ¬ (c.toNat : Int) = ((at8 p k).toNat : Int) := fun h => e (u8i.1 h).symm
        rw [bnd_some', if_pos (by simpa using hn), idx_nat (hx k (by omega) (by omega)), bnd_some']
theorem table_ok {p : List UInt8} (h1 : 1 ≤ p.length) (hb : p.length ≤ 100000) : ∃ x, find_table p = some x ∧ TabL p p.length x := by
  unfold find_table
  have hw : w64 ((p.length : Int) + 1) = ((p.length + 1 : Nat) : Int) := by rw [w64_id ⟨by omega, by omega⟩]; omega
  rw [hw, mkz_of ⟨by omega, by omega⟩, bnd_some', Int.toNat_natCast]
  obtain ⟨x, h2, h3⟩ := loop_ind (f := find_table.l2 p) (fun s : Int × Int × List Int => ∃ (j k : Nat) (x : List Int), s = ((k : Int), ((j + 1 : Nat) : Int), x) ∧ j + 1 ≤ p.length ∧ TabL p (j + 1) x ∧ mxs (at8 p) (shf (at8 p)) p.length j k) (fun s => p.length - s.2.1.toNat) (fun t => TabL p p.length t) (fun s hs => by
    obtain ⟨j, k, x, rfl, hj, hx, hk⟩ := hs
    unfold find_table.l2
    dsimp only
    by_cases c : j + 1 = p.length
    · rw [if_neg (by omega)]
      exact .inr ⟨x, rfl, by rw [← c]; exact hx⟩
    · rw [if_pos (by omega)]
      obtain ⟨t', g1, k', rfl, g2, g3⟩ := down_table (k : Int) (by omega) hx (dn_start hk)
      have hk' : k' ≤ j := g2.1.1
      obtain ⟨g4, g5⟩ := dn_fin (b := shf (at8 p)) (by omega) g2 (g3.imp id fun h => ⟨by omega, h⟩)
      obtain ⟨hl, t, ht, hx⟩ := hx
      have hlt : j + 2 < x.length := by omega
      have hw1 : w64 (((j + 1 : Nat) : Int) + 1) = ((j + 2 : Nat) : Int) := by rw [w64_id ⟨by omega, by omega⟩]; omega
      rw [g1, bnd_some', idx8 (by omega), bnd_some', idx8 (by omega), bnd_some', hw1]
      have hif : (if ((at8 p (j + 1)).toNat : Int) = ((at8 p k').toNat : Int) then some (w64 ((k' : Int) + 1)) else some (k' : Int) : Option Int) = some (((if at8 p k' = shf (at8 p) j then k' + 1 else k' : Nat) : Nat) : Int) := by
        by_cases e : at8 p k' = at8 p (j + 1)
        · have e' : at8 p k' = shf (at8 p) j := e
          rw [if_pos (u8i.2 e.symm), if_pos e', w64_id ⟨by omega, by omega⟩]; rfl
        · have e' : ¬ at8 p k' = shf (at8 p) j := e
          rw [if_neg (fun h => e (u8i.1 h).symm), if_neg e']
      rw [hif, bnd_some', idx_nat (List.getElem?_eq_getElem hlt), bnd_some', Int.toNat_natCast]
      generalize hq : (if at8 p k' = shf (at8 p) j then k' + 1 else k') = q at g5 ⊢
      refine .inl ⟨_, rfl, ⟨j + 1, q, _, rfl, by omega, ⟨by simpa using hl, fun i => if i = j + 2 then q else t i, tab_snoc ht (fun i hi => if_neg (by omega)) (by simpa using g5), fun i hi1 hi2 => ?_⟩, g5⟩, ?_⟩
      · by_cases e : i = j + 2
        · subst e; rw [List.getElem?_set_self hlt]; simp
        · rw [List.getElem?_set_ne (by omega)]; dsimp only; rw [if_neg e, hx i hi1 (by omega)]
      · simp only [Int.toNat_natCast]; omega) (s := (0, 1, List.replicate (p.length + 1) 0)) ⟨0, 0, _, rfl, by omega, ⟨by simp, fun _ => 0, fun k hk1 hk2 => by
        obtain rfl : k = 1 := by omega
        exact mxs_zero _ _ _, fun k hk1 hk2 => by
        obtain rfl : k = 1 := by omega
        rw [List.getElem?_replicate, if_pos (by omega)]; rfl⟩, mxs_zero _ _ _⟩
  rw [h2, bnd_some']
  exact ⟨x, rfl, h3⟩
theorem kstep {p b : List UInt8} {x : List Int} (hx : TabL p p.length x) (hp : 1 ≤ p.length) (hb : p.length ≤ 100000) {i k : Nat} (hi : i < b.length) (hk : mxs (at8 p) (at8 b) p.length i k) :
    ∃ k' : Nat, mxs (at8 p) (at8 b) p.length (i + 1) k' ∧ ∀ (β : Type) (R : Int → Option β), (bnd (idx b (i : Int)) fun x16 => bnd (loop (find_places_1.l1 p x x16) (k : Int) : Option Int) fun t17 => bnd (idx p t17) fun x32 => bnd (if (x16.toNat : Int) = (x32.toNat : Int) then some (w64 (t17 + 1)) else some t17 : Option Int) R) = R (k' : Int) := by
  obtain ⟨t, h1, k', rfl, h2, h3⟩ := down_places hx (dn_start hk (c := at8 b i))
  obtain ⟨h4, h5⟩ := dn_fin (by omega) h2 h3
  refine ⟨_, h5, fun β R => ?_⟩
  rw [idx8 hi, bnd_some', h1, bnd_some', idx8 h4, bnd_some']
  by_cases c : at8 p k' = at8 b i
  · rw [if_pos (u8i.2 c.symm), if_pos c, bnd_some', w64_id ⟨by omega, by omega⟩]; rfl
  · rw [if_neg (fun h => c (u8i.1 h).symm), if_neg c, bnd_some']
def ints (l : List Nat) : List Int := l.map fun n : Nat => (n : Int)
/-- All places. -/
def pl (p b : List UInt8) : List Nat := plc (at8 p) (at8 b) p.length (b.length + 1 - p.length)
theorem ints_append (l m : List Nat) : ints (l ++ m) = ints l ++ ints m := by simp [ints]
theorem plc_len (p b : Nat → UInt8) (m n : Nat) : (plc p b m n).length ≤ n := by
  have := List.length_filter_le (fun i => decide (eqAt p b m i)) (List.range n)
  unfold plc; simpa using this
/-- More places come behind. -/
theorem plc_add (p b : Nat → UInt8) (m a : Nat) : ∀ c : Nat, ∃ r, plc p b m (a + c) = plc p b m a ++ r ∧ ∀ x ∈ r, a ≤ x ∧ x < a + c
  | 0 => ⟨[], by simp, by simp⟩
  | c + 1 => by
    obtain ⟨r, h1, h2⟩ := plc_add p b m a c
    refine ⟨r ++ (if eqAt p b m (a + c) then [a + c] else []), by rw [← Nat.add_assoc, plc_succ, h1, List.append_assoc], fun x hx => ?_⟩
    rcases List.mem_append.1 hx with hx | hx
    · have := h2 x hx; omega
    · split at hx
      · have := List.mem_singleton.1 hx; omega
      · cases hx
theorem plc_le (p b : Nat → UInt8) (m : Nat) {a c : Nat} (h : a ≤ c) : ∃ r, plc p b m c = plc p b m a ++ r ∧ ∀ x ∈ r, a ≤ x ∧ x < c := by
  obtain ⟨r, h1, h2⟩ := plc_add p b m a (c - a)
  rw [show a + (c - a) = c by omega] at h1 h2
  exact ⟨r, h1, h2⟩
/-- What is left of a step: the place that is told. -/
theorem told {i m : Nat} (h : m ≤ i + 1) (hi : i ≤ 100000) : w64 (w64 ((i : Int) + 1) - (m : Int)) = ((i + 1 - m : Nat) : Int) := by
  rw [w64_id (x := (i : Int) + 1) ⟨by omega, by omega⟩, w64_id ⟨by omega, by omega⟩]; omega
theorem wnext {i : Nat} (hi : i ≤ 100000) : w64 ((i : Int) + 1) = ((i + 1 : Nat) : Int) := by rw [w64_id ⟨by omega, by omega⟩]; omega
/-! ### all places -/
theorem every_eq {p b : List UInt8} (hb : b.length ≤ 100000) (hp : p.length ≤ 100000) : find_Every b p = some (if p.length = 0 then [] else ints (pl p b)) := by
  unfold find_Every find_places
  rw [bnd_some']
  dsimp only
  unfold find_places_1
  by_cases c : p.length = 0
  · rw [if_pos (by omega), if_pos c, bnd_some']
  · obtain ⟨x, h1, hx⟩ := table_ok (p := p) (by omega) hp
    rw [if_neg (by omega), if_neg c, h1, bnd_some']
    have hl := loop_eq (f := find_places_1.l2 p b x) (t := Ex.brk (ints (pl p b))) (fun s : Int × Int × List Int => ∃ i k : Nat, s = ((k : Int), (i : Int), ints (plc (at8 p) (at8 b) p.length (i + 1 - p.length))) ∧ i ≤ b.length ∧ mxs (at8 p) (at8 b) p.length i k) (fun s => b.length - s.2.1.toNat) (fun s hs => by
      obtain ⟨i, k, rfl, hi, hk⟩ := hs
      unfold find_places_1.l2
      dsimp only
      by_cases e : i = b.length
      · rw [if_neg (by omega)]
        subst e; exact .inr rfl
      · rw [if_pos (by omega)]
        obtain ⟨k', g1, g2⟩ := kstep hx (by omega) hp (i := i) (by omega) hk
        rw [g2]
        have hn := plc_next (by omega) g1
        have hlen := plc_len (at8 p) (at8 b) p.length (i + 1 - p.length)
        have hg := g1.1.1
        by_cases e2 : k' = p.length
        · rw [if_pos e2] at hn
          rw [if_pos (by omega)]
          unfold find_Every_r0_2
          rw [e2] at hg ⊢
          rw [told hg (by omega), app_of (by simp [ints]; omega), bnd_some', bnd_some', bnd_some']
          dsimp only
          rw [if_neg (by simp), wnext (by omega)]
          refine .inl ⟨_, rfl, ⟨i + 1, p.length, ?_, by omega, e2 ▸ g1⟩, ?_⟩
          · rw [hn, ints_append]; rfl
          · simp only [Int.toNat_natCast]; omega
        · rw [if_neg e2, List.append_nil] at hn
          rw [if_neg (by omega), bnd_some']
          dsimp only
          rw [if_neg (by simp), wnext (by omega)]
          refine .inl ⟨_, rfl, ⟨i + 1, k', by rw [hn], by omega, g1⟩, ?_⟩
          simp only [Int.toNat_natCast]; omega) (s := (0, 0, [])) ⟨0, 0, by
        rw [show 0 + 1 - p.length = 0 by omega]; rfl, by omega, mxs_zero _ _ _⟩
    rw [hl, bnd_some', bnd_some']
end Go.Proofs.Ytbcbggdgkdfciaa.S
