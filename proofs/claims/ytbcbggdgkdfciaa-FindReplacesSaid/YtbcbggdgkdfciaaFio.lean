/- Chapter 17: places apart, the first and the last one, as the program tells them, and as the chapter does. -/
import Derived.Test.YtbcbggdgkdfciaaG1xa
import Derived.Test.YtbcbggdgkdfciaaG2xa
import Derived.Test.YtbcbggdgkdfciaaFin
set_option linter.unusedVariables false
namespace Go.Proofs.Ytbcbggdgkdfciaa.S
open Go Go.Sm
/-! ### as the chapter has them -/
def mt (p b : List UInt8) (i : Nat) : Bool := decide (1 ≤ p.length ∧ i + p.length ≤ b.length ∧ eqAt (at8 p) (at8 b) p.length i)
def plx (p b : List UInt8) (n : Nat) : List Nat := (List.range n).filter (mt p b)
theorem plx_succ (p b : List UInt8) (n : Nat) : plx p b (n + 1) = plx p b n ++ (if mt p b n = true then [n] else []) := by
  unfold plx
  rw [List.range_succ, List.filter_append]
  congr 1
  by_cases c : mt p b n = true
  · simp [c]
  · simp [c]
theorem plx_len (p b : List UInt8) (n : Nat) : (plx p b n).length ≤ n := by
  have := List.length_filter_le (mt p b) (List.range n)
  unfold plx; simpa using this
theorem plx_add (p b : List UInt8) (a : Nat) : ∀ c : Nat, ∃ r, plx p b (a + c) = plx p b a ++ r ∧ ∀ x ∈ r, a ≤ x ∧ x < a + c
  | 0 => ⟨[], by simp, by simp⟩
  | c + 1 => by
    obtain ⟨r, h1, h2⟩ := plx_add p b a c
    refine ⟨r ++ (if mt p b (a + c) = true then [a + c] else []), by rw [← Nat.add_assoc, plx_succ, h1, List.append_assoc], fun x hx => ?_⟩
    rcases List.mem_append.1 hx with hx | hx
    · have := h2 x hx; omega
    · split at hx
      · have := List.mem_singleton.1 hx; omega
      · cases hx
/-- All places, whatever is sought. -/
def all (p b : List UInt8) : List Int := ints (plx p b b.length)
theorem plx_pl (p b : List UInt8) : (if p.length = 0 then [] else ints (pl p b)) = all p b := by
  unfold all
  by_cases c : p.length = 0
  · rw [if_pos c]
    have : plx p b b.length = [] := by
      unfold plx
      rw [List.filter_eq_nil_iff]
      intro a _
      unfold mt
      simp; omega
    rw [this]; rfl
  · rw [if_neg c]
    have key : ∀ i, i ≤ b.length → plx p b i = plc (at8 p) (at8 b) p.length (min i (b.length + 1 - p.length)) := by
      intro i
      induction i with
      | zero => intro _; simp [plx, plc]
      | succ i ih =>
        intro hi
        rw [plx_succ, ih (by omega)]
        by_cases d : i + p.length ≤ b.length
        · rw [show min (i + 1) (b.length + 1 - p.length) = i + 1 by omega, show min i (b.length + 1 - p.length) = i by omega, plc_succ]
          congr 1
          unfold mt
          by_cases e : eqAt (at8 p) (at8 b) p.length i
          · rw [if_pos e, if_pos (decide_eq_true ⟨by omega, d, e⟩)]
          · rw [if_neg e, if_neg (fun h => e (of_decide_eq_true h).2.2)]
        · rw [show min (i + 1) (b.length + 1 - p.length) = min i (b.length + 1 - p.length) by omega]
          unfold mt
          rw [if_neg (fun h => d (of_decide_eq_true h).2.1), List.append_nil]
    rw [key b.length (by omega), show min b.length (b.length + 1 - p.length) = b.length + 1 - p.length by omega]
    rfl
theorem cut_eqAt {p b : List UInt8} {i : Nat} (h : i + p.length ≤ b.length) : (b.take (i + p.length)).drop i = p ↔ eqAt (at8 p) (at8 b) p.length i := by
  have hg : ∀ j, j < p.length → ((b.take (i + p.length)).drop i)[j]? = some (at8 b (i + j)) := fun j hj => by
    rw [List.getElem?_drop, List.getElem?_take_of_lt (by omega), at8_get (by omega)]
  constructor
  · intro e j hj
    have h1 := hg j hj
    rw [e, at8_get hj] at h1
    exact Option.some.inj h1
  · intro e
    refine List.ext_getElem? fun j => ?_
    by_cases hj : j < p.length
    · rw [hg j hj, at8_get hj, e j hj]
    · rw [List.getElem?_eq_none (by simp; omega), List.getElem?_eq_none (by omega)]
theorem refAt_eq {p b : List UInt8} (hb : b.length ≤ 100000) (hp : p.length ≤ 100000) {i : Nat} (hi : i ≤ 100000) : ref17_at b p (i : Int) = some (mt p b i) := by
  unfold ref17_at mt
  by_cases c : p = []
  · rw [if_pos c, bnd_some']
    subst c
    simp
  · have hl : 1 ≤ p.length := by cases p with
      | nil => exact absurd rfl c
      | cons => simp
    have hw : w64 ((i : Int) + (p.length : Int)) = ((i + p.length : Nat) : Int) := by rw [w64_id ⟨by omega, by omega⟩]; omega
    rw [if_neg c, if_pos (by omega), hw]
    by_cases d : i + p.length ≤ b.length
    · rw [if_pos (by omega), cut_of ⟨by omega, by omega, by omega⟩, bnd_some', bnd_some', Int.toNat_natCast, Int.toNat_natCast]
      congr 1
      by_cases e : eqAt (at8 p) (at8 b) p.length i
      · rw [(cut_eqAt d).2 e, decide_eq_true ⟨hl, d, e⟩]; simp
      · rw [decide_eq_false (fun h => e h.2.2)]
        exact beq_eq_false_iff_ne.2 fun h => e ((cut_eqAt d).1 h)
    · rw [if_neg (by omega), bnd_some', decide_eq_false (fun h => d h.2.1)]
theorem refEvery_eq {p b : List UInt8} (hb : b.length ≤ 100000) (hp : p.length ≤ 100000) : ref17_Every b p = some (all p b) := by
  unfold ref17_Every
  have hl := loop_nat (f := ref17_Every.l1 b p) (fun i (s : List Int) => (i, s)) b.length (fun i => ints (plx p b i)) (t := all p b) (fun i hi => by
    unfold ref17_Every.l1
    dsimp only
    have hlen := plx_len p b i
    rw [if_pos (by omega), refAt_eq hb hp (by omega), bnd_some', plx_succ, w64_id ⟨by omega, by omega⟩]
    by_cases c : mt p b i = true
    · rw [if_pos c, if_pos c, app_of (by simp [ints]; omega), bnd_some', bnd_some', ints_append]; rfl
    · rw [if_neg c, if_neg c, bnd_some', List.append_nil]) (by
    unfold ref17_Every.l1
    dsimp only
    rw [if_neg (by omega)]; rfl)
  rw [show loop (ref17_Every.l1 b p) (0, []) = _ from hl, bnd_some']
theorem every_all {p b : List UInt8} (hb : b.length ≤ 100000) (hp : p.length ≤ 100000) : find_Every b p = some (all p b) := by rw [every_eq hb hp, plx_pl]
/-! ### apart -/
def apS (m : Int) (s : Int × List Int) (x : Int) : Int × List Int := if x ≥ s.1 then (x + m, s.2 ++ [x]) else s
def apF (m : Nat) (l : List Int) : Int × List Int := l.foldl (apS m) (0, [])
theorem apF_snoc (m : Nat) (l : List Int) (x : Int) : apF m (l ++ [x]) = apS m (apF m l) x := by simp [apF, List.foldl_append]
theorem ap_skip (m : Int) (s : Int × List Int) : ∀ l : List Int, (∀ x ∈ l, x < s.1) → l.foldl (apS m) s = s
  | [], _ => rfl
  | x :: l, h => by
    have : apS m s x = s := if_neg (by have := h x (by simp); omega)
    rw [List.foldl_cons, this]
    exact ap_skip m s l fun y hy => h y (List.mem_cons_of_mem _ hy)
theorem apF_len (m : Nat) (l : List Int) : (apF m l).2.length ≤ l.length := by
  induction l using snoc_ind with
  | nil => simp [apF]
  | snoc l x ih =>
    rw [apF_snoc]
    unfold apS
    split
    · simp; exact ih
    · simp; omega
theorem apF_free (m : Nat) (l : List Int) {c : Int} (h0 : 0 ≤ c) (h : ∀ x ∈ l, x + m ≤ c) : (apF m l).1 ≤ c := by
  induction l using snoc_ind with
  | nil => simpa [apF] using h0
  | snoc l x ih =>
    rw [apF_snoc]
    unfold apS
    split
    · exact h x (by simp)
    · exact ih fun y hy => h y (by simp [hy])
theorem mem_ints {l : List Nat} {x : Int} (h : x ∈ ints l) : ∃ n ∈ l, x = (n : Int) := by
  obtain ⟨n, h1, h2⟩ := List.mem_map.1 h
  exact ⟨n, h1, h2.symm⟩
theorem apart_eq {p b : List UInt8} (hb : b.length ≤ 100000) (hp : p.length ≤ 100000) : find_Apart b p = some (apF p.length (all p b)).2 := by
  unfold find_Apart find_places
  rw [bnd_some', ← plx_pl]
  dsimp only
  unfold find_places_1_2
  by_cases c : p.length = 0
  · rw [if_pos (by omega), if_pos c, bnd_some']; rfl
  · obtain ⟨x, h1, hx⟩ := table_ok (p := p) (by omega) hp
    rw [if_neg (by omega), if_neg c, h1, bnd_some']
    have hl := loop_eq (f := find_places_1_2.l2 p p b x) (t := Ex.brk (apF p.length (ints (pl p b)))) (fun s : Int × Int × Int × List Int => ∃ i k : Nat, s = ((k : Int), (i : Int), apF p.length (ints (plc (at8 p) (at8 b) p.length (i + 1 - p.length)))) ∧ i ≤ b.length ∧ mxs (at8 p) (at8 b) p.length i k) (fun s => b.length - s.2.1.toNat) (fun s hs => by
      obtain ⟨i, k, rfl, hi, hk⟩ := hs
      unfold find_places_1_2.l2
      dsimp only
      by_cases e : i = b.length
      · rw [if_neg (by omega)]
        subst e; exact .inr rfl
      · rw [if_pos (by omega)]
        obtain ⟨k', g1, g2⟩ := kstep hx (by omega) hp (i := i) (by omega) hk
        rw [show (find_places_1_2.l1 p x) = find_places_1.l1 p x from rfl, g2]
        have hn := plc_next (by omega) g1
        have hlen := plc_len (at8 p) (at8 b) p.length (i + 1 - p.length)
        have hal := apF_len p.length (ints (plc (at8 p) (at8 b) p.length (i + 1 - p.length)))
        have hil : (ints (plc (at8 p) (at8 b) p.length (i + 1 - p.length))).length = (plc (at8 p) (at8 b) p.length (i + 1 - p.length)).length := by simp [ints]
        have hg := g1.1.1
        by_cases e2 : k' = p.length
        · rw [if_pos e2] at hn
          rw [if_pos (by omega)]
          unfold find_Apart_r0_2
          rw [e2] at hg ⊢
          rw [told hg (by omega)]
          have hap : apF p.length (ints (plc (at8 p) (at8 b) p.length (i + 1 + 1 - p.length))) = apS p.length (apF p.length (ints (plc (at8 p) (at8 b) p.length (i + 1 - p.length)))) ((i + 1 - p.length : Nat) : Int) := by
            rw [hn, ints_append]; exact apF_snoc _ _ _
          have hr0 : (if (((i + 1 - p.length : Nat) : Int)) ≥ (apF p.length (ints (plc (at8 p) (at8 b) p.length (i + 1 - p.length)))).1 then bnd (app 8 (apF p.length (ints (plc (at8 p) (at8 b) p.length (i + 1 - p.length)))).2 [((i + 1 - p.length : Nat) : Int)]) fun x32 => some (w64 (((i + 1 - p.length : Nat) : Int) + (p.length : Int)), x32) else some (apF p.length (ints (plc (at8 p) (at8 b) p.length (i + 1 - p.length))))) = some (apF p.length (ints (plc (at8 p) (at8 b) p.length (i + 1 + 1 - p.length)))) := by
            rw [hap]
            unfold apS
            by_cases f : (((i + 1 - p.length : Nat) : Int)) ≥ (apF p.length (ints (plc (at8 p) (at8 b) p.length (i + 1 - p.length)))).1
            · rw [if_pos f, if_pos f, app_of (by simp only [List.length_cons, List.length_nil]; omega), bnd_some', w64_id ⟨by omega, by omega⟩]
            · rw [if_neg f, if_neg f]
          rw [show (if (((i + 1 - p.length : Nat) : Int)) ≥ (apF p.length (ints (plc (at8 p) (at8 b) p.length (i + 1 - p.length)))).1 then bnd (app 8 (apF p.length (ints (plc (at8 p) (at8 b) p.length (i + 1 - p.length)))).2 [((i + 1 - p.length : Nat) : Int)]) fun x32 => some (w64 (((i + 1 - p.length : Nat) : Int) + (p.length : Int)), x32) else some ((apF p.length (ints (plc (at8 p) (at8 b) p.length (i + 1 - p.length)))).1, (apF p.length (ints (plc (at8 p) (at8 b) p.length (i + 1 - p.length)))).2)) = _ from hr0, bnd_some', bnd_some']
          dsimp only
          rw [if_neg (by simp), wnext (by omega)]
          refine .inl ⟨_, rfl, ⟨i + 1, p.length, rfl, by omega, e2 ▸ g1⟩, ?_⟩
          simp only [Int.toNat_natCast]; omega
        · rw [if_neg e2, List.append_nil] at hn
          rw [if_neg (by omega), bnd_some']
          dsimp only
          rw [if_neg (by simp), wnext (by omega)]
          refine .inl ⟨_, rfl, ⟨i + 1, k', by rw [hn], by omega, g1⟩, ?_⟩
          simp only [Int.toNat_natCast]; omega) (s := (0, 0, 0, [])) ⟨0, 0, by
        rw [show 0 + 1 - p.length = 0 by omega]; rfl, by omega, mxs_zero _ _ _⟩
    rw [hl, bnd_some', bnd_some']
theorem refApart_eq {p b : List UInt8} (hb : b.length ≤ 100000) (hp : p.length ≤ 100000) : ref17_Apart b p = some (apF p.length (all p b)).2 := by
  unfold ref17_Apart
  have hl := loop_eq (f := ref17_Apart.l1 b p) (t := (apF p.length (all p b)).2) (fun s : Int × List Int => ∃ (i : Nat) (f : Int), s.1 = (i : Int) ∧ apF p.length (ints (plx p b i)) = (f, s.2) ∧ f ≤ i ∧ i ≤ b.length) (fun s => b.length - s.1.toNat) (fun s hs => by
    obtain ⟨s1, out⟩ := s
    obtain ⟨i, f, hi, ha, hf, hib⟩ := hs
    dsimp only at hi ha
    subst hi
    unfold ref17_Apart.l1
    dsimp only
    by_cases e : i = b.length
    · rw [if_neg (by omega)]
      refine .inr ?_
      subst e
      unfold all; rw [ha]
    · have hlen := plx_len p b i
      have hal := apF_len p.length (ints (plx p b i))
      rw [ha] at hal
      have hil : (ints (plx p b i)).length = (plx p b i).length := by simp [ints]
      rw [if_pos (by omega), refAt_eq hb hp (by omega), bnd_some']
      have hs1 := plx_succ p b i
      by_cases c : mt p b i = true
      · have hm : 1 ≤ p.length ∧ i + p.length ≤ b.length := by
          have := of_decide_eq_true c
          exact ⟨this.1, this.2.1⟩
        rw [if_pos c] at hs1
        rw [if_pos c, app_of (by simp; simp at hal; omega), bnd_some', bnd_some']
        dsimp only
        rw [w64_id (x := (i : Int) + (p.length : Int)) ⟨by omega, by omega⟩, w64_id (x := (i : Int) + (p.length : Int) - 1) ⟨by omega, by omega⟩, w64_id ⟨by omega, by omega⟩]
        refine .inl ⟨_, rfl, ⟨i + p.length, ((i + p.length : Nat) : Int), by simp only; omega, ?_, by omega, by omega⟩, by simp only [Int.toNat_natCast]; omega⟩
        obtain ⟨r, h1, h2⟩ := plx_add p b (i + 1) (p.length - 1)
        rw [show i + p.length = i + 1 + (p.length - 1) by omega, h1, hs1, ints_append, ints_append, show ints [i] = [(i : Int)] from rfl]
        have hst : apF p.length (ints (plx p b i) ++ [(i : Int)]) = (((i + 1 + (p.length - 1) : Nat) : Int), out ++ [(i : Int)]) := by
          rw [apF_snoc, ha]
          unfold apS
          rw [if_pos (show (i : Int) ≥ f from hf)]
          simp only [Prod.mk.injEq, and_true]
          omega
        unfold apF at hst ⊢
        rw [List.foldl_append, hst, ap_skip]
        intro x hx
        obtain ⟨n, hn, rfl⟩ := mem_ints hx
        have := h2 n hn
        show (n : Int) < ((i + 1 + (p.length - 1) : Nat) : Int)
        omega
      · rw [if_neg c, List.append_nil] at hs1
        rw [if_neg c, bnd_some']
        dsimp only
        rw [wnext (by omega)]
        exact .inl ⟨_, rfl, ⟨i + 1, f, rfl, by rw [hs1]; exact ha, by omega, by omega⟩, by simp only [Int.toNat_natCast]; omega⟩) (s := (0, [])) ⟨0, 0, rfl, rfl, by omega, by omega⟩
  rw [hl, bnd_some']
/-! ### the first one -/
def fstF (c : Int) (l : List Int) : Int := ((l.find? fun x => decide (c ≤ x)).getD (-1))
theorem first_eq {p b : List UInt8} (hb : b.length ≤ 100000) (hp : p.length ≤ 100000) (c : Int) : find_First b p c = some (fstF c (all p b)) := by
  unfold find_First find_places
  rw [bnd_some', ← plx_pl]
  dsimp only
  unfold find_places_1_3
  by_cases c0 : p.length = 0
  · rw [if_pos (by omega), if_pos c0, bnd_some']; rfl
  · obtain ⟨x, h1, hx⟩ := table_ok (p := p) (by omega) hp
    rw [if_neg (by omega), if_neg c0, h1, bnd_some']
    have hl := loop_eq (f := find_places_1_3.l2 c p b 0 x) (t := (match (ints (pl p b)).find? (fun x => decide (c ≤ x)) with | some x => Ex.ret (Sum.inr x) | none => Ex.brk ())) (fun s : Int × Int => ∃ i k : Nat, s = ((k : Int), (i : Int)) ∧ (ints (plc (at8 p) (at8 b) p.length (i + 1 - p.length))).find? (fun x => decide (c ≤ x)) = none ∧ i ≤ b.length ∧ mxs (at8 p) (at8 b) p.length i k) (fun s => b.length - s.2.toNat) (fun s hs => by
      obtain ⟨i, k, rfl, hf, hi, hk⟩ := hs
      unfold find_places_1_3.l2
      dsimp only
      by_cases e : i = b.length
      · rw [if_neg (by omega)]
        subst e
        unfold pl; rw [hf]; exact .inr rfl
      · rw [if_pos (by omega)]
        obtain ⟨k', g1, g2⟩ := kstep hx (by omega) hp (i := i) (by omega) hk
        rw [show (find_places_1_3.l1 p x) = find_places_1.l1 p x from rfl, g2]
        have hn := plc_next (by omega) g1
        have hg := g1.1.1
        by_cases e2 : k' = p.length
        · rw [if_pos e2] at hn
          rw [if_pos (by omega)]
          unfold find_First_r0
          rw [e2] at hg ⊢
          rw [told hg (by omega)]
          by_cases f : (((i + 1 - p.length : Nat) : Int)) ≥ c
          · rw [if_pos f, bnd_some', bnd_some']
            refine .inr ?_
            obtain ⟨r, h2, _⟩ := plc_le (at8 p) (at8 b) p.length (a := i + 1 + 1 - p.length) (c := b.length + 1 - p.length) (by omega)
            have : (ints (pl p b)).find? (fun x => decide (c ≤ x)) = some ((i + 1 - p.length : Nat) : Int) := by
              unfold pl
              rw [h2, hn, ints_append, ints_append, List.find?_append, List.find?_append, hf]
              simp only [ints, List.map_cons, List.map_nil, Option.none_or]
              rw [List.find?_cons_of_pos (p := fun x => decide (c ≤ x)) (decide_eq_true f)]; rfl
            rw [this]
          · rw [if_neg f, bnd_some', bnd_some']
            dsimp only
            rw [wnext (by omega)]
            refine .inl ⟨_, rfl, ⟨i + 1, p.length, rfl, ?_, by omega, e2 ▸ g1⟩, ?_⟩
            · rw [hn, ints_append, List.find?_append, hf]
              simp only [ints, List.map_cons, List.map_nil, Option.none_or]
              rw [List.find?_cons_of_neg (p := fun x => decide (c ≤ x)) (by simpa using f)]; rfl
            · simp only [Int.toNat_natCast]; omega
        · rw [if_neg e2, List.append_nil] at hn
          rw [if_neg (by omega), bnd_some']
          dsimp only
          rw [wnext (by omega)]
          refine .inl ⟨_, rfl, ⟨i + 1, k', rfl, by rw [hn]; exact hf, by omega, g1⟩, ?_⟩
          simp only [Int.toNat_natCast]; omega) (s := (0, 0)) ⟨0, 0, rfl, by
        rw [show 0 + 1 - p.length = 0 by omega]; rfl, by omega, mxs_zero _ _ _⟩
    rw [hl, bnd_some']
    unfold fstF
    cases (ints (pl p b)).find? (fun x => decide (c ≤ x)) with
    | none => rfl
    | some x => rfl
theorem all_len (p b : List UInt8) : (all p b).length ≤ b.length := by unfold all ints; rw [List.length_map]; exact plx_len p b _
theorem refFirst_eq {p b : List UInt8} (hb : b.length ≤ 100000) (hp : p.length ≤ 100000) (c : Int) : ref17_First b p c = some (fstF c (all p b)) := by
  unfold ref17_First
  rw [refEvery_eq hb hp, bnd_some']
  have hlen := all_len p b
  obtain ⟨t, h1, h2⟩ := loop_for (f := ref17_First.l1 c (all p b)) (fun i (_ : Unit) => i) (all p b) (fun pre _ => pre.find? (fun x => decide (c ≤ x)) = none) (fun t => match t with | .brk _ => (all p b).find? (fun x => decide (c ≤ x)) = none | .ret v => (all p b).find? (fun x => decide (c ≤ x)) = some v) (fun pre x suf s hl hI => by
    have hpl : pre.length < b.length := by rw [hl] at hlen; simp at hlen; omega
    unfold ref17_First.l1
    rw [if_pos (by rw [hl]; simp; omega), show idx (all p b) (pre.length : Int) = some x by rw [hl]; exact idx_at _ _ _, bnd_some']
    by_cases f : x ≥ c
    · rw [if_pos f]
      refine .inr ⟨_, rfl, ?_⟩
      dsimp only
      rw [hl, List.find?_append, hI, Option.none_or, List.find?_cons_of_pos (p := fun x => decide (c ≤ x)) (decide_eq_true f)]
    · rw [if_neg f, w64_id ⟨by omega, by omega⟩]
      refine .inl ⟨(), rfl, ?_⟩
      rw [List.find?_append, hI, Option.none_or, List.find?_cons_of_neg (p := fun x => decide (c ≤ x)) (by simpa using f)]; rfl) (fun s hI => by
    unfold ref17_First.l1
    rw [if_neg (by omega)]
    exact ⟨_, rfl, hI⟩) (s0 := ()) rfl
  rw [show loop (ref17_First.l1 c (all p b)) 0 = some t from h1, bnd_some']
  unfold fstF
  cases t with
  | brk u => dsimp only at h2 ⊢; rw [h2]; rfl
  | ret v => dsimp only at h2 ⊢; rw [h2]; rfl
/-! ### the last one -/
def lsS (c : Int) (l x : Int) : Int := if x < c then x else l
def lsF (c : Int) (l : List Int) : Int := l.foldl (lsS c) (-1)
theorem lsF_snoc (c : Int) (l : List Int) (x : Int) : lsF c (l ++ [x]) = lsS c (lsF c l) x := by simp [lsF, List.foldl_append]
theorem ls_skip (c s : Int) : ∀ l : List Int, (∀ x ∈ l, c ≤ x) → l.foldl (lsS c) s = s
  | [], _ => rfl
  | x :: l, h => by
    have : lsS c s x = s := if_neg (by have := h x (by simp); omega)
    rw [List.foldl_cons, this]
    exact ls_skip c s l fun y hy => h y (List.mem_cons_of_mem _ hy)
theorem last_eq {p b : List UInt8} (hb : b.length ≤ 100000) (hp : p.length ≤ 100000) (c : Int) : find_Last b p c = some (lsF c (all p b)) := by
  unfold find_Last find_places
  rw [bnd_some', ← plx_pl]
  dsimp only
  unfold find_places_1_4
  by_cases c0 : p.length = 0
  · rw [if_pos (by omega), if_pos c0, bnd_some']; rfl
  · obtain ⟨x, h1, hx⟩ := table_ok (p := p) (by omega) hp
    rw [if_neg (by omega), if_neg c0, h1, bnd_some']
    obtain ⟨t, h2, h3⟩ := loop_ind (f := find_places_1_4.l2 c p b x) (fun s : Int × Int × Int => ∃ i k : Nat, s = ((k : Int), (i : Int), lsF c (ints (plc (at8 p) (at8 b) p.length (i + 1 - p.length)))) ∧ i ≤ b.length ∧ mxs (at8 p) (at8 b) p.length i k) (fun s => b.length - s.2.1.toNat) (fun t => t = Ex.brk (lsF c (ints (pl p b))) ∨ t = Ex.ret (Sum.inr (lsF c (ints (pl p b))))) (fun s hs => by
      obtain ⟨i, k, rfl, hi, hk⟩ := hs
      unfold find_places_1_4.l2
      dsimp only
      by_cases e : i = b.length
      · rw [if_neg (by omega)]
        subst e
        exact .inr ⟨_, rfl, .inl rfl⟩
      · rw [if_pos (by omega)]
        obtain ⟨k', g1, g2⟩ := kstep hx (by omega) hp (i := i) (by omega) hk
        rw [show (find_places_1_4.l1 p x) = find_places_1.l1 p x from rfl, g2]
        have hn := plc_next (by omega) g1
        have hg := g1.1.1
        by_cases e2 : k' = p.length
        · rw [if_pos e2] at hn
          rw [if_pos (by omega)]
          unfold find_Last_r0
          rw [e2] at hg ⊢
          rw [told hg (by omega)]
          by_cases f : (((i + 1 - p.length : Nat) : Int)) ≥ c
          · rw [if_pos f, bnd_some', bnd_some']
            refine .inr ⟨_, rfl, .inr ?_⟩
            obtain ⟨r, h2, h3⟩ := plc_le (at8 p) (at8 b) p.length (a := i + 1 - p.length) (c := b.length + 1 - p.length) (by omega)
            unfold pl
            rw [h2, ints_append]
            unfold lsF
            rw [List.foldl_append, ls_skip c _ (ints r)]
            intro y hy
            obtain ⟨n, hn', rfl⟩ := mem_ints hy
            have := h3 n hn'
            omega
          · rw [if_neg f, bnd_some', bnd_some']
            dsimp only
            rw [wnext (by omega)]
            refine .inl ⟨_, rfl, ⟨i + 1, p.length, ?_, by omega, e2 ▸ g1⟩, ?_⟩
            · rw [hn, ints_append, show ints [i + 1 - p.length] = [((i + 1 - p.length : Nat) : Int)] from rfl, lsF_snoc]
              unfold lsS
              rw [if_pos (by omega)]
            · simp only [Int.toNat_natCast]; omega
        · rw [if_neg e2, List.append_nil] at hn
          rw [if_neg (by omega), bnd_some']
          dsimp only
          rw [wnext (by omega)]
          refine .inl ⟨_, rfl, ⟨i + 1, k', by rw [hn], by omega, g1⟩, ?_⟩
          simp only [Int.toNat_natCast]; omega) (s := (0, 0, -1)) ⟨0, 0, by
        rw [show 0 + 1 - p.length = 0 by omega]; rfl, by omega, mxs_zero _ _ _⟩
    rw [h2, bnd_some']
    rcases h3 with rfl | rfl
    · rfl
    · rfl
theorem refLast_eq {p b : List UInt8} (hb : b.length ≤ 100000) (hp : p.length ≤ 100000) (c : Int) : ref17_Last b p c = some (lsF c (all p b)) := by
  unfold ref17_Last
  rw [refEvery_eq hb hp, bnd_some']
  have hlen := all_len p b
  have hl := loop_fold (f := ref17_Last.l1 c (all p b)) (fun i (s : Int) => (s, i)) (all p b) (fun pre => lsF c pre) (t := lsF c (all p b)) (fun pre x suf hl => by
    have hpl : pre.length < b.length := by rw [hl] at hlen; simp at hlen; omega
    unfold ref17_Last.l1
    dsimp only
    rw [if_pos (by rw [hl]; simp; omega), show idx (all p b) (pre.length : Int) = some x by rw [hl]; exact idx_at _ _ _, bnd_some', lsF_snoc, w64_id ⟨by omega, by omega⟩]
    unfold lsS
    by_cases f : x < c
    · rw [if_pos f, if_pos f, bnd_some']
    · rw [if_neg f, if_neg f, bnd_some']) (by
    unfold ref17_Last.l1
    dsimp only
    rw [if_neg (by omega)])
  rw [show loop (ref17_Last.l1 c (all p b)) (-1, 0) = _ from hl, bnd_some']
end Go.Proofs.Ytbcbggdgkdfciaa.S
