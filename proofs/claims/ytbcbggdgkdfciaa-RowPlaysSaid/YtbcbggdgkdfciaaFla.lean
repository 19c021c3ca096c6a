/- Texts of an arena, told plainly: their bytes. -/
import Derived.Test.YtbcbggdgkdfciaaG0
import Derived.Test.YtbcbggdgkdfciaaG2xa
import Derived.Test.YtbcbggdgkdfciaaPie0
import Derived.Test.YtbcbggdgkdfciaaAre
import Derived.Test.YtbcbggdgkdfciaaScaB
set_option linter.unusedVariables false
namespace Go.Proofs.Ytbcbggdgkdfciaa.S
open Go Go.Sm
def InA (r : List Int) (a : List UInt8) : Prop := ∀ x ∈ r, 0 ≤ x ∧ x < (a.length : Int)
theorem inA_good {r : List Int} {a : List UInt8} (h : InA r a) (ha : a.length ≤ 1000000) : GoodP r := fun x hx => by have := h x hx; omega
theorem inA_app {r : List Int} {a : List UInt8} (h : InA r a) (m : List UInt8) : InA r (a ++ m) := fun x hx => by have := h x hx; simp only [List.length_append]; omega
theorem bytesAt_app {r : List Int} {a : List UInt8} (h : InA r a) (m : List UInt8) : bytesAt (a ++ m) r = bytesAt a r := by
  unfold bytesAt
  induction r with
  | nil => rfl
  | cons x r ih =>
    have hx := h x (by simp)
    have ih' := ih (fun y hy => h y (by simp [hy]))
    simp only [List.filterMap_cons]
    rw [List.getElem?_append_left (by omega), ih']
theorem bytesAt_in {r : List Int} {a : List UInt8} (h : InA r a) : (bytesAt a r).length = r.length := by
  unfold bytesAt
  induction r with
  | nil => rfl
  | cons x r ih =>
    have hx := h x (by simp)
    have ih' := ih (fun y hy => h y (by simp [hy]))
    simp only [List.filterMap_cons]
    rw [List.getElem?_eq_getElem (by omega)]
    simp [ih']
theorem bytesA_range {s : arena_Span} {a : List UInt8} (h0 : 0 ≤ s.fAt) (h1 : 0 ≤ s.fN) (h2 : s.fAt + s.fN ≤ a.length) : bytesA s a = bytesAt a (exp1 s) ∧ rightA s a = true := by
  have hr : rightA s a = true := by unfold rightA; simp only [decide_eq_true_eq]; omega
  refine ⟨?_, hr⟩
  unfold bytesA
  rw [if_pos hr]
  have := bytes_range a s.fAt.toNat s.fN.toNat (by omega)
  rw [show (s.fAt + s.fN).toNat = s.fAt.toNat + s.fN.toNat by omega, this, exp1, show ((s.fAt.toNat : Nat) : Int) = s.fAt by omega]
theorem exp1_last {x : arena_Span} (h : 1 ≤ x.fN) : x.fAt + ((x.fN.toNat - 1 : Nat) : Int) ∈ exp1 x := by
  simp only [exp1, rangeI, List.mem_map, List.mem_range]
  exact ⟨x.fN.toNat - 1, by omega, rfl⟩
theorem exp1_first {x : arena_Span} (h : 1 ≤ x.fN) : x.fAt ∈ exp1 x := by
  simp only [exp1, rangeI, List.mem_map, List.mem_range]
  exact ⟨0, by omega, by simp⟩
theorem Flat_eq (t : piece_Text) (r : List Int) (a : List UInt8) (ht : t.fL = canon r) (hr : InA r a) (ha : a.length ≤ 1000000) (hl : r.length ≤ 1000000) : piece_Text_Flat t a = some (bytesAt a r) := by
  have p1 := inA_good hr ha
  have hc := canon_len r
  have hg := canon_good r p1
  have h := loop_fold (f := piece_Text_Flat.l1 t a) (fun k (s : List UInt8) => (k, s)) (canon r) (fun pre => bytesAt a (expand pre)) (t := bytesAt a r)
    (fun pre x suf hs => by
      obtain ⟨g1, g2, g3⟩ := exp_sub p1 (show canon r = pre ++ (x :: suf) from hs)
      have hx : Good x := hg x (by rw [hs]; simp)
      simp only [Good] at hx
      have hpl : pre.length + 1 ≤ (canon r).length := by rw [hs]; simp
      have hbl := bytesAt_len a (expand pre)
      have hin : x.fAt + x.fN ≤ (a.length : Int) := by
        have := hr (x.fAt + ((x.fN.toNat - 1 : Nat) : Int)) (by
          rw [g3, show x :: suf = [x] ++ suf from rfl, expand_append, expand_one]
          simp only [List.mem_append]
          exact .inr (.inl (exp1_last (by omega))))
        omega
      obtain ⟨e1, e2⟩ := bytesA_range (s := x) (a := a) (by omega) (by omega) hin
      have hl1 := bytesAt_len a (exp1 x)
      have hl2 : (exp1 x).length = x.fN.toNat := rangeI_len _ _
      unfold piece_Text_Flat.l1
      rw [ht]
      simp only
      rw [if_pos (by omega), show idx (canon r) (pre.length : Int) = some x by rw [hs]; exact idx_at pre x suf, bnd_some', Bytes_eq _ _ (by omega), bnd_some', e1, app_of (by omega), bnd_some', w64_id ⟨by omega, by omega⟩, expand_append, expand_one, bytesAt_append])
    (by
      unfold piece_Text_Flat.l1
      rw [ht]
      simp only
      rw [if_neg (by omega), canon_expand r p1])
  unfold piece_Text_Flat
  have h' : loop (piece_Text_Flat.l1 t a) (0, []) = some (bytesAt a r) := by simpa [bytesAt, expand] using h
  rw [h', bnd_some']
theorem OfG_eq (fa : List arena_Span) (h1 : fa.length ≤ 1000000) (h2 : ∀ s ∈ fa, 1 ≤ s.fN → Good s) (hp : GoodP (expand fa)) (hl : (expand fa).length ≤ 1000000) : piece_Of fa = some (tOf (expand fa)) := by
  have h : loop (piece_Of.l1 fa) (0, 0, []) = some (((expand fa).length : Int), canon (expand fa)) := by
    refine loop_fold (f := piece_Of.l1 fa) (fun i (s : Int × List arena_Span) => (i, s)) fa (fun pre => (((expand pre).length : Int), canon (expand pre))) (t := (((expand fa).length : Int), canon (expand fa))) ?_ ?_
    · intro pre x suf hs
      have hpre : GoodP (expand pre) ∧ (expand pre).length ≤ (expand fa).length := by
        have e : expand fa = expand pre ++ expand (x :: suf) := by rw [hs, expand_append]
        exact ⟨fun y hy => hp y (by rw [e]; exact List.mem_append.2 (.inl hy)), by rw [e]; simp⟩
      have h1' : pre.length + 1 ≤ fa.length := by rw [hs]; simp
      have hc := canon_len (expand pre)
      unfold piece_Of.l1
      simp only
      rw [if_pos (by omega), show idx fa (pre.length : Int) = some x by rw [hs]; exact idx_at pre x suf, bnd_some', with_eq x _ _ (canon_good _ hpre.1) (h2 x (by rw [hs]; simp)) ⟨by omega, by omega⟩ (by omega), bnd_some', w64_id ⟨by omega, by omega⟩, expand_append, expand_one]
      simp only [addS_exp]
      rw [show (exp1 x).foldl addI (canon (expand pre)) = canon (expand pre ++ exp1 x) by simp [canon, List.foldl_append]]
      simp [exp1, rangeI_len]
    · unfold piece_Of.l1
      simp only
      rw [if_neg (by omega)]
  unfold piece_Of
  rw [h, bnd_some']
  rfl
/-- The text of spans side by side. -/
theorem OfC_eq (r : List Int) (hr : GoodP r) (hl : r.length ≤ 1000000) : piece_Of (canon r) = some (tOf r) := by
  have hc := canon_len r
  have he := canon_expand r hr
  have := OfG_eq (canon r) (by omega) (fun s hs _ => canon_good r hr s hs) (by rw [he]; exact hr) (by rw [he]; exact hl)
  rw [this, he]
/-- The text of one span of an arena. -/
theorem Of1_eq (s : arena_Span) (a : List UInt8) (hr : rightA s a = true) (ha : a.length ≤ 1000000) : piece_Of [s] = some (tOf (exp1 s)) ∧ InA (exp1 s) a ∧ bytesA s a = bytesAt a (exp1 s) := by
  have h := hr
  unfold rightA at h
  simp only [decide_eq_true_eq] at h
  have hin : InA (exp1 s) a := fun x hx => by
    simp only [exp1, rangeI, List.mem_map, List.mem_range] at hx
    obtain ⟨i, hi, rfl⟩ := hx
    omega
  refine ⟨?_, hin, (bytesA_range h.1 h.2.1 (by omega)).1⟩
  have := OfG_eq [s] (by simp) (fun x hx h1 => by obtain rfl := List.mem_singleton.1 hx; simp only [Good]; omega) (by rw [expand_one]; exact inA_good hin ha) (by rw [expand_one]; simp only [exp1, rangeI_len]; omega)
  rw [this, expand_one]
theorem PLen_eq (r : List Int) : piece_Text_Len (tOf r) = some (r.length : Int) := rfl
theorem exp1_canon {s : arena_Span} (h : 1 ≤ s.fN) : canon (exp1 s) = [s] := by
  have := addI_range s.fAt [] s.fN.toNat
  unfold canon exp1
  rw [this]
  unfold addS
  simp only
  rw [show ((s.fN.toNat : Nat) : Int) = s.fN by omega]
  rw [if_neg (by omega)]
  rfl
end Go.Proofs.Ytbcbggdgkdfciaa.S
