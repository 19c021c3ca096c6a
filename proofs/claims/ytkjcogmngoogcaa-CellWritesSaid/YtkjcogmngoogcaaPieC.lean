/- Chapter 4's texts, told plainly: what is cut out, put together, compared. -/
import Derived.Test.YtkjcogmngoogcaaG0
import Derived.Test.YtkjcogmngoogcaaG17xa
import Derived.Test.YtkjcogmngoogcaaG18xa
import Derived.Test.YtkjcogmngoogcaaG20xa
import Derived.Test.YtkjcogmngoogcaaPieA
set_option linter.unusedVariables false
namespace Go.Proofs.Ytkjcogmngoogcaa.S
open Go Go.Sm
/-! ### places -/
def pl (n : Nat) (i : Int) : Nat := min i.toNat n
theorem place_eq (r : List Int) (i : Int) (hr : r.length ≤ 1000000) : piece_Text_place (tOf r) i = some ((pl r.length i : Nat) : Int) := by
  unfold piece_Text_place tOf pl
  simp only [bnd_some']
  congr 1
  split <;> split <;> omega
theorem rangeI_cut (a : Int) (n p q : Nat) : ((rangeI a n).take p).drop q = rangeI (a + (min q n : Nat)) (min (max (min q n) p) n - min q n) := by
  apply List.ext_getElem
  · simp [rangeI]; omega
  · intro k h1 h2
    simp [rangeI] at h1
    simp [rangeI]
    omega
theorem sub_eq (x : arena_Span) (hx : Good x) (E i j : Nat) (n : Int) (L : List arena_Span) (hL : ∀ k ∈ L, Good k) (hE : E ≤ 1000000) (hi : i ≤ 1000000) (hj : j ≤ 1000000) (hn : 0 ≤ n ∧ n ≤ 1073741824) (hlen : L.length ≤ 1073741824) :
    ∃ y : arena_Span, (1 ≤ y.fN → Good y) ∧ exp1 y = ((exp1 x).take (j - E)).drop (i - E) ∧ piece_Text_Slice_1_2 (E : Int) x n (i : Int) (j : Int) L = some (decide ((E : Int) + x.fN < (j : Int)), n + (y.fN.toNat : Int), addS L y) := by
  have hx2 := hx
  simp only [Good] at hx2
  let i' : Nat := min (i - E) x.fN.toNat
  let j' : Nat := min (max i' (j - E)) x.fN.toNat
  have hi' : i' ≤ x.fN.toNat := Nat.min_le_right _ _
  have hj' : j' ≤ x.fN.toNat := Nat.min_le_right _ _
  have hij : i' ≤ j' := by simp only [j']; omega
  refine ⟨⟨x.fAt + i', ((j' - i' : Nat) : Int)⟩, fun h => ?_, ?_, ?_⟩
  · simp only [Good] at h ⊢; omega
  · simp only [exp1]
    rw [rangeI_cut]
    simp only [Int.toNat_natCast]
    rfl
  · have e : arena_Sub x (w64 ((i : Int) - (E : Int))) (if 0 > (w64 ((j : Int) - (E : Int))) then 0 else (w64 ((j : Int) - (E : Int)))) = some ⟨x.fAt + i', ((j' - i' : Nat) : Int)⟩ := by
      unfold arena_Sub
      rw [if_neg (by omega), w64_id (x := (i : Int) - (E : Int)) ⟨by omega, by omega⟩, w64_id (x := (j : Int) - (E : Int)) ⟨by omega, by omega⟩]
      have e1 : (if x.fN < (if 0 > (i : Int) - (E : Int) then 0 else (i : Int) - (E : Int)) then x.fN else (if 0 > (i : Int) - (E : Int) then 0 else (i : Int) - (E : Int))) = (i' : Int) := by
        simp only [i']; split <;> split <;> omega
      rw [e1, bnd_some']
      have e2 : (if 0 > (j : Int) - (E : Int) then 0 else (j : Int) - (E : Int)) = ((j - E : Nat) : Int) := by split <;> omega
      rw [e2]
      have e3 : (if x.fN < (if (i' : Int) > ((j - E : Nat) : Int) then (i' : Int) else ((j - E : Nat) : Int)) then x.fN else (if (i' : Int) > ((j - E : Nat) : Int) then (i' : Int) else ((j - E : Nat) : Int))) = (j' : Int) := by
        simp only [j']; split <;> split <;> omega
      rw [e3, bnd_some', w64_id ⟨by omega, by omega⟩, w64_id ⟨by omega, by omega⟩]
      congr 2; omega
    unfold piece_Text_Slice_1_2
    rw [e, bnd_some', with_eq _ n L hL (fun h => by simp only [Good] at h ⊢; omega) hn hlen, bnd_some', w64_id ⟨by omega, by omega⟩]
theorem cut_app (E R : List Int) (i j : Nat) : ((E ++ R).take j).drop i = (E.take j).drop i ++ (R.take (j - E.length)).drop (i - E.length) := by
  rw [List.take_append, List.drop_append]
  congr 1
  by_cases h : E.length ≤ j
  · rw [List.length_take, Nat.min_eq_right h]
  · rw [show j - E.length = 0 by omega]; simp
theorem each_eq (r : List Int) (hr : GoodP r) (hl : r.length ≤ 1000000) (i j : Nat) (hi : i ≤ 1000000) (hj : j ≤ 1000000) :
    piece_Text_each (tOf r) 0 (i : Int) (j : Int) = some ((((r.take j).drop i).length : Int), canon ((r.take j).drop i)) := by
  have hall := canon_good r hr
  have hcl := canon_len r
  obtain ⟨t, h1, h2⟩ := loop_for (f := piece_Text_each.l1 (tOf r) (i : Int) (j : Int)) (fun k (s : Int × Int × List arena_Span) => (s.1, k, s.2)) (canon r)
    (fun pre s => s = (((expand pre).length : Int), ((((expand pre).take j).drop i).length : Int), canon (((expand pre).take j).drop i)))
    (fun t => (match t with | .brk u => u | .ret u => u) = ((((r.take j).drop i).length : Int), canon ((r.take j).drop i)))
    (fun pre x suf s hs hI => by
      subst hI
      obtain ⟨g1, g2, g3⟩ := exp_sub hr (show canon r = pre ++ (x :: suf) from hs)
      have hx : Good x := hall x (by rw [hs]; simp)
      have hpl : pre.length + 1 ≤ (canon r).length := by rw [hs]; simp
      have hc := canon_len (((expand pre).take j).drop i)
      have hcc : (((expand pre).take j).drop i).length ≤ (expand pre).length := by simp; omega
      obtain ⟨y, y1, y2, y3⟩ := sub_eq x hx (expand pre).length i j ((((expand pre).take j).drop i).length : Int) (canon (((expand pre).take j).drop i)) (canon_good _ (goodP_cut g1 i j)) (by omega) hi hj ⟨by omega, by omega⟩ (by omega)
      have hx2 := hx
      simp only [Good] at hx2
      have hfold : addS (canon (((expand pre).take j).drop i)) y = canon (((expand (pre ++ [x])).take j).drop i) := by
        rw [addS_exp, y2, expand_append, expand_one, cut_app]
        simp [canon, List.foldl_append]
      have hlen2 : ((((expand pre).take j).drop i).length : Int) + (y.fN.toNat : Int) = ((((expand (pre ++ [x])).take j).drop i).length : Int) := by
        rw [expand_append, expand_one, cut_app, List.length_append, ← y2]
        simp [exp1, rangeI_len]
      have el : (expand (pre ++ [x])).length = (expand pre).length + x.fN.toNat := by rw [expand_append, expand_one]; simp [exp1, rangeI_len]
      unfold piece_Text_each.l1
      simp only
      rw [show (tOf r).fL = canon r from rfl, if_pos (by omega), show idx (canon r) (pre.length : Int) = some x by rw [hs]; exact idx_at pre x suf, bnd_some', y3, bnd_some', hfold, hlen2]
      by_cases c : ((expand pre).length : Int) + x.fN < (j : Int)
      · rw [decide_eq_true c, if_pos rfl, w64_id ⟨by omega, by omega⟩, w64_id ⟨by omega, by omega⟩]
        refine .inl ⟨(((expand pre).length : Int) + x.fN, ((((expand (pre ++ [x])).take j).drop i).length : Int), canon (((expand (pre ++ [x])).take j).drop i)), rfl, ?_⟩
        rw [el]
        congr 1; omega
      · rw [decide_eq_false c, if_neg (by simp)]
        refine .inr ⟨_, rfl, ?_⟩
        have hle : j ≤ (expand (pre ++ [x])).length := by rw [el]; omega
        have hr2 : r = expand (pre ++ [x]) ++ expand suf := by rw [g3, expand_append, expand_one, show x :: suf = [x] ++ suf from rfl, expand_append, expand_one, List.append_assoc]
        have : r.take j = (expand (pre ++ [x])).take j := by
          conv => lhs; rw [hr2]
          rw [List.take_append_of_le_length hle]
        rw [this])
    (fun s hI => by
      subst hI
      unfold piece_Text_each.l1
      simp only
      rw [show (tOf r).fL = canon r from rfl, if_neg (by omega)]
      refine ⟨_, rfl, ?_⟩
      simp only
      rw [canon_expand r hr])
    (s0 := (0, 0, [])) (by simp [expand, canon])
  unfold piece_Text_each
  rw [h1, bnd_some']
  cases t <;> simp only at h2 <;> subst h2 <;> rfl
theorem Slice_eq (r : List Int) (hr : GoodP r) (hl : r.length ≤ 1000000) (i j : Int) : piece_Text_Slice (tOf r) i j = some (tOf ((r.take (pl r.length j)).drop (pl r.length i))) := by
  have h1 : pl r.length i ≤ r.length := Nat.min_le_right _ _
  have h2 : pl r.length j ≤ r.length := Nat.min_le_right _ _
  unfold piece_Text_Slice
  rw [place_eq r i hl, bnd_some', place_eq r j hl, bnd_some', each_eq r hr hl _ _ (by omega) (by omega), bnd_some']
  by_cases c : ((pl r.length j : Nat) : Int) ≤ ((pl r.length i : Nat) : Int)
  · rw [if_pos c, List.drop_eq_nil_of_le (by simp; omega)]; rfl
  · rw [if_neg c]; rfl
theorem ConcatIn_eq (q r : List Int) (hq : GoodP q) (hr : GoodP r) (hl : (q ++ r).length ≤ 1000000) :
    loop (piece_Concat.l1 (tOf r)) (0, (q.length : Int), canon q) = some (((q ++ r).length : Int), canon (q ++ r)) := by
  have hall := canon_good r hr
  have hcl := canon_len r
  simp only [List.length_append] at hl
  have h := loop_fold (f := piece_Concat.l1 (tOf r)) (fun i (s : Int × List arena_Span) => (i, s)) (canon r) (fun pre => (((q ++ expand pre).length : Int), canon (q ++ expand pre))) (t := (((q ++ r).length : Int), canon (q ++ r)))
    (fun pre x suf hs => by
      obtain ⟨g1, g2, g3⟩ := exp_sub hr (show canon r = pre ++ (x :: suf) from hs)
      have hpl : pre.length + 1 ≤ (canon r).length := by rw [hs]; simp
      have hx : Good x := hall x (by rw [hs]; simp)
      have hc := canon_len (q ++ expand pre)
      simp only [List.length_append] at hc
      unfold piece_Concat.l1
      simp only
      rw [show (tOf r).fL = canon r from rfl, if_pos (by omega), show idx (canon r) (pre.length : Int) = some x by rw [hs]; exact idx_at pre x suf, bnd_some',
        with_eq x _ _ (canon_good _ (goodP_app hq g1)) (fun _ => hx) ⟨by simp only [List.length_append]; omega, by simp only [List.length_append]; omega⟩ (by omega), bnd_some', w64_id ⟨by omega, by omega⟩]
      simp only [addS_exp, expand_append, expand_one]
      rw [show (exp1 x).foldl addI (canon (q ++ expand pre)) = canon (q ++ (expand pre ++ exp1 x)) by simp [canon, List.foldl_append]]
      simp [exp1, rangeI_len, Int.add_assoc])
    (by
      unfold piece_Concat.l1
      simp only
      rw [show (tOf r).fL = canon r from rfl, if_neg (by omega), canon_expand r hr])
  simpa [expand] using h
theorem Concat_eq (rs : List (List Int)) (hg : ∀ r ∈ rs, GoodP r) (hl : rs.flatten.length ≤ 1000000) (hn : rs.length ≤ 1000000) : piece_Concat (rs.map tOf) = some (tOf rs.flatten) := by
  unfold piece_Concat
  have h := loop_fold (f := piece_Concat.l2 (rs.map tOf)) (fun i (s : Int × List arena_Span) => (i, s)) rs (fun pre => ((pre.flatten.length : Int), canon pre.flatten)) (t := ((rs.flatten.length : Int), canon rs.flatten))
    (fun pre x suf hs => by
      have hle : (pre.flatten ++ x).length ≤ rs.flatten.length := by rw [hs]; simp
      unfold piece_Concat.l2
      simp only
      rw [if_pos (by rw [hs]; simp; omega), idx_map, show idx rs (pre.length : Int) = some x by rw [hs]; exact idx_at pre x suf]
      simp only [Option.map_some, bnd_some']
      rw [ConcatIn_eq pre.flatten x (fun y hy => by
          obtain ⟨r, hr, hy⟩ := List.mem_flatten.1 hy
          exact hg r (by rw [hs]; simp [hr]) y hy) (hg x (by rw [hs]; simp)) (by omega), bnd_some', w64_id ⟨by omega, by rw [hs] at hn; simp at hn; omega⟩]
      simp)
    (by
      unfold piece_Concat.l2
      simp only
      rw [if_neg (by simp)])
  have h' : loop (piece_Concat.l2 (rs.map tOf)) (0, 0, []) = some ((rs.flatten.length : Int), canon rs.flatten) := by simpa [canon] using h
  rw [h', bnd_some']
  rfl
theorem Delete_eq (r : List Int) (hr : GoodP r) (hl : r.length ≤ 1000000) (i j : Int) : piece_Text_Delete (tOf r) i j = some (tOf (r.take (pl r.length i) ++ r.drop (max (pl r.length i) (pl r.length j)))) := by
  have h1 : pl r.length i ≤ r.length := Nat.min_le_right _ _
  have h2 : pl r.length j ≤ r.length := Nat.min_le_right _ _
  unfold piece_Text_Delete
  rw [place_eq r i hl, bnd_some', Slice_eq r hr hl, bnd_some', place_eq r j hl, bnd_some', Slice_eq r hr hl, bnd_some']
  have e0 : pl r.length 0 = 0 := by simp [pl]
  have e1 : pl r.length ((pl r.length i : Nat) : Int) = pl r.length i := by simp only [pl]; omega
  have e2 : pl r.length (if ((pl r.length j : Nat) : Int) > ((pl r.length i : Nat) : Int) then ((pl r.length j : Nat) : Int) else ((pl r.length i : Nat) : Int)) = max (pl r.length i) (pl r.length j) := by
    split <;> (simp only [pl] at *; omega)
  have e3 : pl r.length (tOf r).fN = r.length := by simp [pl, tOf]
  rw [e0, e1, e2, e3, List.drop_zero, List.take_length]
  have := Concat_eq [r.take (pl r.length i), r.drop (max (pl r.length i) (pl r.length j))] (by
    intro q hq
    simp at hq
    rcases hq with rfl | rfl
    · exact fun x hx => hr x (List.mem_of_mem_take hx)
    · exact fun x hx => hr x (List.mem_of_mem_drop hx)) (by simp; omega) (by simp)
  simp only [List.map_cons, List.map_nil] at this
  rw [this, bnd_some']
  simp
theorem refOf_eq (fa : List arena_Span) (h1 : fa.length ≤ 1000) (h2 : ∀ s ∈ fa, FewS s) : ref04_Of (fa.map toR) = some (expand fa) := by
  unfold ref04_Of
  have h := loop_fold (f := ref04_Of.l2 (fa.map toR)) (fun i (s : List Int) => (i, s)) fa (fun pre => expand pre) (t := expand fa)
    (fun pre x suf hs => by
      have hp : ∀ s ∈ pre, FewS s := fun s hs' => h2 s (by rw [hs]; simp [hs'])
      have hx := h2 x (by rw [hs]; simp)
      have hlen := few_len hp
      have h1' : pre.length + 1 ≤ 1000 := by rw [hs] at h1; simp at h1; omega
      simp only [FewS] at hx
      unfold ref04_Of.l2
      simp only
      rw [if_pos (by rw [hs]; simp; omega), idx_map, show idx fa (pre.length : Int) = some x by rw [hs]; exact idx_at pre x suf]
      simp only [Option.map_some, bnd_some']
      have h3 := loop_nat (f := ref04_Of.l1 (toR x)) (fun i (s : List Int) => (i, s)) x.fN.toNat (fun n => expand pre ++ rangeI x.fAt n) (t := expand pre ++ exp1 x)
        (fun i hi => by
          unfold ref04_Of.l1
          rw [show (toR x).fN = x.fN from rfl, show (toR x).fAt = x.fAt from rfl]
          simp only
          rw [if_pos (by omega), w64_id ⟨by omega, by omega⟩, app_of (by simp [rangeI_len]; omega), bnd_some', w64_id ⟨by omega, by omega⟩, rangeI_succ, List.append_assoc])
        (by
          unfold ref04_Of.l1
          rw [show (toR x).fN = x.fN from rfl, show (toR x).fAt = x.fAt from rfl]
          simp only
          rw [if_neg (by omega)]; rfl)
      have h3' : loop (ref04_Of.l1 (toR x)) (0, expand pre) = some (expand pre ++ exp1 x) := by simpa [rangeI] using h3
      rw [h3', bnd_some', w64_id ⟨by omega, by omega⟩, expand_append, expand_one])
    (by
      unfold ref04_Of.l2
      simp only
      rw [if_neg (by simp)])
  have h' : loop (ref04_Of.l2 (fa.map toR)) (0, []) = some (expand fa) := by simpa [expand] using h
  rw [h', bnd_some']
theorem refSpans_eq (r : List Int) (hr : GoodP r) (hl : r.length ≤ 1000000) : ref04_Spans r = some ((canon r).map toR) := by
  unfold ref04_Spans
  have h := loop_fold (f := ref04_Spans.l1 r) (fun i (s : List ref03_Span) => (i, s)) r (fun pre => (canon pre).map toR) (t := (canon r).map toR)
    (fun pre x suf hs => by
      have hpl : pre.length + 1 ≤ r.length := by rw [hs]; simp
      have hc := canon_len pre
      unfold ref04_Spans.l1
      simp only
      rw [if_pos (by omega), show idx r (pre.length : Int) = some x by rw [hs]; exact idx_at pre x suf, bnd_some', w64_id (x := (pre.length : Int) + 1) ⟨by omega, by omega⟩, canon_snoc]
      rcases List.eq_nil_or_concat pre with rfl | ⟨p, y, rfl⟩
      · simp only [List.length_nil]
        rw [if_neg (by simp), bnd_some', if_neg (by simp)]
        simp only [canon, List.foldl_nil, List.map_nil]
        rw [app_of (by simp), bnd_some', bnd_some', addI, addS_nil (by simp)]; rfl
      · have hpy : r = p ++ y :: (x :: suf) := by rw [hs]; simp
        have hy := hr y (by rw [hpy]; simp)
        obtain ⟨L, k, hk1, hk2⟩ := canon_last p y
        rw [List.concat_eq_append] at *
        have hkg := canon_good (p ++ [y]) (fun z hz => hr z (by rw [hpy]; simp at hz ⊢; rcases hz with h | h <;> simp [h])) k (by rw [hk1]; simp)
        simp only [Good] at hkg
        rw [if_pos (by simp only [List.length_append, List.length_cons, List.length_nil]; omega), w64_id (x := (((p ++ [y]).length : Nat) : Int) - 1) ⟨by simp only [List.length_append, List.length_cons, List.length_nil]; omega, by omega⟩, show (((p ++ [y]).length : Nat) : Int) - 1 = (p.length : Int) by simp, hpy, idx_at, bnd_some', w64_id ⟨by omega, by omega⟩, bnd_some', addI, hk1, addS_snoc (by simp)]
        rw [hk1] at hc
        have hLl : L.length ≤ 1000000 := by simp at hc hpl; omega
        by_cases c : y + 1 = x
        · rw [if_pos (by simpa using c), if_pos (by simp only; omega)]
          simp only [List.map_append, List.map_cons, List.map_nil]
          rw [show w64 ((((L.map toR) ++ [toR k]).length : Int) - 1) = ((L.map toR).length : Int) by simp [w64_id (x := (L.length : Int)) ⟨by omega, by omega⟩], idx_at, bnd_some', bnd_some', set_last _ _ _ _ (by simp)]
          have : w64 ((toR k).fN + 1) = k.fN + 1 := by simp only [toR]; rw [w64_id ⟨by omega, by omega⟩]
          rw [this]; rfl
        · rw [if_neg (by simpa using c), if_neg (by simp only; omega)]
          rw [app_of (by simp; omega), bnd_some', bnd_some']
          simp [toR])
    (by
      unfold ref04_Spans.l1
      simp only
      rw [if_neg (by omega)])
  have h' : loop (ref04_Spans.l1 r) (0, []) = some ((canon r).map toR) := by simpa [canon] using h
  rw [h', bnd_some']
theorem equal_eq (a b : List arena_Span) (ha : a.length ≤ 1000000) : slices_Equal_arena_Span_arena_Span a b = some (decide (a = b)) := by
  unfold slices_Equal_arena_Span_arena_Span
  by_cases c : (a.length : Int) = (b.length : Int)
  · rw [if_pos c]
    obtain ⟨t, h1, h2⟩ := loop_same (f := slices_Equal_arena_Span_arena_Span.l1 a b) () a b (by omega) (by omega) (fun i => rfl)
    rw [h1, bnd_some']
    cases t with
    | brk u => simp only at h2 ⊢; rw [decide_eq_true h2]
    | ret v => simp only at h2 ⊢; rw [h2.1, decide_eq_false h2.2]
  · rw [if_neg c, decide_eq_false (fun h => c (by rw [h]))]
theorem Same_eq (r q : List Int) (hl : r.length ≤ 1000000) : piece_Same (tOf r) (tOf q) = some (decide (canon r = canon q)) := by
  have hc := canon_len r
  unfold piece_Same
  rw [show (tOf r).fL = canon r from rfl, show (tOf q).fL = canon q from rfl, equal_eq _ _ (by omega), bnd_some']
theorem awake_eq : law04_awake = some true := by
  have g : ∀ n : Nat, n ≤ 1000 → GoodP (rangeI 0 n) := fun n hn x hx => by
    simp only [rangeI, List.mem_map, List.mem_range] at hx
    obtain ⟨i, hi, rfl⟩ := hx; omega
  have h1 : piece_Of [(⟨0, 2⟩ : arena_Span), (⟨2, 3⟩ : arena_Span)] = some (tOf (rangeI 0 5)) := by
    rw [Of_eq _ (by simp) (by simp [FewS])]; rfl
  have h2 : piece_Of [(⟨0, 5⟩ : arena_Span)] = some (tOf (rangeI 0 5)) := by
    rw [Of_eq _ (by simp) (by simp [FewS])]; rfl
  have hc : canon (rangeI 0 5) = [⟨0, 5⟩] := by decide
  unfold law04_awake
  rw [h1, bnd_some']
  unfold piece_Text_Spans slices_Clone_arena_Span_arena_Span piece_Text_Len
  rw [show (tOf (rangeI 0 5)).fL = [⟨0, 5⟩] from hc, app_of (by simp)]
  simp only [List.nil_append, bnd_some']
  rw [if_pos (show (tOf (rangeI 0 5)).fN = 5 by simp [tOf, rangeI_len]), if_pos (by rfl)]
  have h3 : idx [(⟨0, 5⟩ : arena_Span)] 0 = some ⟨0, 5⟩ := rfl
  rw [h3, bnd_some', if_pos rfl, h2, bnd_some', Same_eq _ _ (by simp [rangeI_len]), bnd_some', decide_eq_true rfl, if_pos rfl, Delete_eq _ (g 5 (by omega)) (by simp [rangeI_len]), bnd_some', bnd_some']
  rfl
end Go.Proofs.Ytkjcogmngoogcaa.S
