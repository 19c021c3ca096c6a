/- The law PieceTidy. -/
import Derived.Test.YtkjcogmngoogcaaG0
import Derived.Test.YtkjcogmngoogcaaG17xa
import Derived.Test.YtkjcogmngoogcaaG18xa
import Derived.Test.YtkjcogmngoogcaaFla
import Derived.Test.YtkjcogmngoogcaaPieC
set_option linter.unusedVariables false
namespace Go.Proofs.Ytkjcogmngoogcaa.S
open Go Go.Sm
theorem Few_id (a : List arena_Span) (h : a.length ≤ 40) (h2 : ∀ s ∈ a, FewS s) : law04_Few a = some (a, a.map toR) := by
  have hh := loop_fold (f := law04_Few.l1 a) (fun i (s : List arena_Span × List ref03_Span) => (i, s)) a (fun pre => (pre, pre.map toR)) (t := (a, a.map toR))
    (fun pre x suf hs => by
      have hpl : pre.length + 1 ≤ a.length := by rw [hs]; simp
      obtain ⟨c2, c3, c4⟩ := h2 x (by rw [hs]; simp)
      unfold law04_Few.l1
      simp only
      rw [if_pos (by omega), show idx a (pre.length : Int) = some x by rw [hs]; exact idx_at pre x suf, bnd_some', w64_id ⟨by omega, by omega⟩, if_pos (by omega), if_pos (by omega), if_pos c3, decide_eq_true c4, bnd_some', if_pos rfl, app_of (by simp; omega), bnd_some', app_of (by simp; omega), bnd_some', bnd_some']
      simp [toR])
    (by
      unfold law04_Few.l1
      simp only
      rw [if_neg (by omega)])
  have hh' : loop (law04_Few.l1 a) (0, [], []) = some (a, a.map toR) := by simpa using hh
  unfold law04_Few
  rw [hh', bnd_some']
def fitsIn (b : List UInt8) (x : arena_Span) : Bool := decide (x.fAt ≤ b.length ∧ x.fN ≤ b.length - x.fAt)
theorem fitLoop (b : List UInt8) (fa : List arena_Span) (y : List ref03_Span) (hb : b.length ≤ 1000000) (h1 : fa.length ≤ 40) (h2 : ∀ s ∈ fa, FewS s) : loop (law04_within.l2 b (fa, y)) (0, []) = some (fa.filter (fitsIn b)) := by
  refine loop_fold (f := law04_within.l2 b (fa, y)) (fun i (s : List arena_Span) => (i, s)) fa (fun pre => pre.filter (fitsIn b)) (fun pre x suf hs => ?_) ?_
  · have hpl : pre.length + 1 ≤ fa.length := by rw [hs]; simp
    obtain ⟨c2, c3, c4⟩ := h2 x (by rw [hs]; simp)
    have hle : (pre.filter (fitsIn b)).length ≤ pre.length := List.length_filter_le _ _
    unfold law04_within.l2
    simp only
    rw [if_pos (by omega), show idx fa (pre.length : Int) = some x by rw [hs]; exact idx_at pre x suf, bnd_some', w64_id (x := (pre.length : Int) + 1) ⟨by omega, by omega⟩, List.filter_append]
    by_cases c : x.fAt ≤ (b.length : Int)
    · rw [if_pos c, w64_id ⟨by omega, by omega⟩, bnd_some']
      by_cases d : x.fN ≤ (b.length : Int) - x.fAt
      · have e : fitsIn b x = true := by simp [fitsIn, c, d]
        rw [if_pos (by simpa using d), app_of (by simp; omega), bnd_some', bnd_some']
        simp [e]
      · have e : fitsIn b x = false := by simp [fitsIn, d]
        rw [if_neg (by simpa using d), bnd_some']
        simp [e]
    · have e : fitsIn b x = false := by simp [fitsIn, c]
      rw [if_neg c, bnd_some', if_neg (by simp), bnd_some']
      simp [e]
  · unfold law04_within.l2
    simp only
    rw [if_neg (by omega)]
theorem within_eq (a0 : List UInt8) (a1 : List arena_Span) (h0 : a0.length ≤ maxLen) (h1 : a1.length ≤ maxLen) : ∃ r, law04_within a0 a1 = some (.inr (tOf r, r, a0.take 200)) ∧ InA r (a0.take 200) ∧ r.length ≤ 2400 := by
  obtain ⟨fa, f1, f2, f3⟩ := Few_eq a1 h1
  generalize hb : a0.take 200 = b
  have hbl : b.length ≤ 200 := by rw [← hb]; simp; omega
  have hcut : (if (a0.length : Int) > 200 then bnd (cut a0 0 200) fun x4 => some x4 else some a0 : Option (List UInt8)) = some b := by
    by_cases h : a0.length > 200
    · rw [if_pos (by omega), cut_of ⟨by omega, by omega, by omega⟩, bnd_some', ← hb]; simp
    · rw [if_neg (by omega), ← hb, List.take_of_length_le (by omega)]
  have g1 : (fa.filter (fitsIn b)).length ≤ 40 := Nat.le_trans (List.length_filter_le _ _) f2
  have g2 : ∀ s ∈ fa.filter (fitsIn b), FewS s := fun s hs => f3 s (List.mem_filter.1 hs).1
  have g3 : ∀ s ∈ fa.filter (fitsIn b), fitsIn b s = true := fun s hs => (List.mem_filter.1 hs).2
  have g4 := few_len g2
  refine ⟨expand (fa.filter (fitsIn b)), ?_, ?_, by omega⟩
  · unfold law04_within
    rw [hcut, bnd_some', New_eq b (by omega), bnd_some']
    dsimp only
    rw [f1, bnd_some', fitLoop b fa _ (by omega) f2 f3, bnd_some', Of_eq _ (by omega) g2, bnd_some', Few_id _ g1 g2, bnd_some', refOf_eq _ (by omega) g2, bnd_some']
  · intro x hx
    obtain ⟨s, hs, hx⟩ := List.mem_flatMap.1 hx
    have e1 := g2 s hs
    have e2 := g3 s hs
    simp only [FewS] at e1
    simp only [fitsIn, decide_eq_true_eq] at e2
    simp only [exp1, rangeI, List.mem_map, List.mem_range] at hx
    obtain ⟨i, hi, rfl⟩ := hx
    omega
theorem refFlat_eq (r : List Int) (s : List UInt8) (hr : InA r s) (hl : r.length ≤ 1000000) (hs : s.length ≤ maxLen) : ref04_Flat r s = some (bytesAt s r) := by
  simp only [maxLen] at hs
  have hh := loop_fold (f := ref04_Flat.l1 r s) (fun i (o : List UInt8) => (o, i)) r (fun pre => bytesAt s pre) (t := bytesAt s r)
    (fun pre x suf he => by
      have hpl : pre.length + 1 ≤ r.length := by rw [he]; simp
      have hx := hr x (by rw [he]; simp)
      have hb := bytesAt_len s pre
      unfold ref04_Flat.l1
      simp only
      rw [if_pos (by omega), show idx r (pre.length : Int) = some x by rw [he]; exact idx_at pre x suf, bnd_some', if_pos (by omega), decide_eq_true hx.2, bnd_some', if_pos rfl, w64_id (x := x + 1) ⟨by omega, by omega⟩, cut_of ⟨by omega, by omega, by omega⟩, bnd_some']
      have e : (s.take (x + 1).toNat).drop x.toNat = bytesAt s [x] := by
        rw [show (x + 1).toNat = x.toNat + 1 by omega, take_one s x.toNat (by omega), List.drop_append_of_le_length (by simp; omega), List.drop_eq_nil_of_le (by simp; omega)]
        simp [bytesAt, List.getElem?_eq_getElem (show x.toNat < s.length by omega)]
      have hb1 := bytesAt_len s [x]
      simp only [List.length_cons, List.length_nil] at hb1
      rw [e, catS, if_pos (by omega), bnd_some', bnd_some', w64_id ⟨by omega, by omega⟩, bytesAt_append])
    (by
      unfold ref04_Flat.l1
      simp only
      rw [if_neg (by omega)])
  unfold ref04_Flat
  have h' : loop (ref04_Flat.l1 r s) ([], 0) = some (bytesAt s r) := by simpa [bytesAt] using hh
  rw [h', bnd_some']
theorem PieceTidy_holds (a0 : List UInt8) (a1 : List arena_Span) (a2 : Int) (w0 : a0.length ≤ maxLen) (w1 : a1.length ≤ maxLen ∧ ∀ a ∈ a1, (Lit.int .i64 a.fAt).wf = true ∧ (Lit.int .i64 a.fN).wf = true) (w2 : (Lit.int .u16 a2).wf = true) : law04_PieceTidy a0 a1 a2 = some true := by
  have w2' : 0 ≤ a2 ∧ a2 ≤ 65535 := by
    simp [Lit.wf] at w2
    simpa [IntKind.min, IntKind.max, IntKind.bits, IntKind.signed] using w2
  obtain ⟨r, h1, h2, h3⟩ := within_eq a0 a1 w0 w1.1
  have hr0 : InA r a0 := fun x hx => by
    have := h2 x hx
    rw [List.length_take] at this
    omega
  have hb0 : bytesAt a0 r = bytesAt (a0.take 200) r := by
    have := bytesAt_app h2 (a0.drop 200)
    rw [List.take_append_drop] at this
    exact this
  generalize hb : a0.take 200 = b at h1 h2 hb0
  have hbl : b.length ≤ 200 := by rw [← hb]; simp; omega
  unfold law04_PieceTidy
  rw [h1, bnd_some']
  dsimp only
  have hrem : rem (w64 a2) 16499 = ((a2 % 16500).toNat : Int) := by
    rw [w64_id ⟨by omega, by omega⟩]
    unfold rem
    rw [Int.tmod_eq_emod_of_nonneg w2'.1]
    show a2 % 16500 = _
    omega
  have hz : (a2 % 16500).toNat ≤ 16499 := by omega
  generalize (a2 % 16500).toNat = n at hrem hz
  rw [hrem, mkz_of (by omega), bnd_some', Int.toNat_natCast, Add_eq _ b (by omega) (by simp; omega), bnd_some']
  obtain ⟨m, hm⟩ := addA_pre (List.replicate n 0) b
  have hal := addA_len (List.replicate n 0) b (by omega)
  generalize (addA (List.replicate n 0) b).2.2 = a at hm hal
  have hra : InA r a := by rw [hm]; exact inA_app h2 m
  have hba : bytesAt a r = bytesAt b r := by rw [hm]; exact bytesAt_app h2 m
  have hg := inA_good hra (by omega)
  rw [Len_eq, bnd_some']
  have hsp := refSpans_eq r hg (by omega)
  have hcl := canon_len r
  rcases Tidy_eq r a hra hal (by omega) with ⟨t1, t2⟩ | ⟨t1, s, a', t2, t3, t4, t5, t6, _, _⟩ | ⟨t1, t2, t3⟩
  · rw [t2, bnd_some', hsp, bnd_some', if_pos (by simp; omega)]
    dsimp only
    rw [Same_eq r r (by omega), bnd_some', if_pos (by simp), if_pos rfl, Len_eq, bnd_some', if_pos rfl, awake_eq, bnd_some', bnd_some']
  · rw [t2, bnd_some', hsp, bnd_some', if_neg (by simp; omega)]
    dsimp only
    have hpos : 1 ≤ s.fN := by omega
    have he1 : (exp1 s).length = s.fN.toNat := rangeI_len _ _
    rw [if_pos rfl, PSpans_eq _ (by rw [show (tOf (exp1 s)).fL = canon (exp1 s) from rfl, exp1_canon hpos]; simp), bnd_some', show (tOf (exp1 s)).fL = canon (exp1 s) from rfl, exp1_canon hpos, if_pos (by simp), Flat_eq (tOf (exp1 s)) (exp1 s) a' rfl t3 (by omega) (by omega), bnd_some', refFlat_eq r a0 hr0 (by omega) w0, bnd_some', if_pos (by rw [t4, hba, hb0]), awake_eq, bnd_some', bnd_some']
  · rw [t2, bnd_some', hsp, bnd_some', if_neg (by simp; omega)]
    dsimp only
    rw [if_neg (by decide), if_pos rfl, show piece_Text_Len (⟨[], 0⟩ : piece_Text) = some 0 from rfl, bnd_some', if_pos rfl, w64_id ⟨by omega, by omega⟩, if_pos (by omega), Len_eq, bnd_some', if_pos rfl, awake_eq, bnd_some', bnd_some']
end Go.Proofs.Ytkjcogmngoogcaa.S
