/- Chapter 4's texts, told plainly: what is cut out, put together, compared. -/
import Derived.Test.YtbcbggdgkdfciaaG0
import Derived.Test.YtbcbggdgkdfciaaG3xa
import Derived.Test.YtbcbggdgkdfciaaG3xb
import Derived.Test.YtbcbggdgkdfciaaPie0
set_option linter.unusedVariables false
namespace Go.Proofs.Ytbcbggdgkdfciaa.S
open Go Go.Sm
/-! ### places -/
def pl (n : Nat) (i : Int) : Nat := min i.toNat n
theorem place_eq (r : List Int) (i : Int) (hr : r.length ≤ 1000000) : piece_Text_place (tOf r) i = some ((pl r.length i : Nat) : Int) := by
  unfold piece_Text_place tOf pl
  simp only [bnd_some']
  congr 1
  split <;> split <;> omega
theorem rangeI_cut (a : Int) (n p q : Nat) : ((rangeI a n).take p).drop q = rangeI (a + (min q n : Nat)) (min (max (min q n) p) n - min q n) := by
  apply List.ext_getElem
  · simp [rangeI]; omega
  · intro k h1 h2
    simp [rangeI] at h1
    simp [rangeI]
    omega
theorem sub_eq (x : arena_Span) (hx : Good x) (E i j : Nat) (n : Int) (L : List arena_Span) (hL : ∀ k ∈ L, Good k) (hE : E ≤ 1000000) (hi : i ≤ 1000000) (hj : j ≤ 1000000) (hn : 0 ≤ n ∧ n ≤ 1073741824) (hlen : L.length ≤ 1073741824) :
    ∃ y : arena_Span, (1 ≤ y.fN → Good y) ∧ exp1 y = ((exp1 x).take (j - E)).drop (i - E) ∧ piece_Text_Slice_1_2 (E : Int) x n (i : Int) (j : Int) L = some (decide ((E : Int) + x.fN < (j : Int)), n + (y.fN.toNat : Int), addS L y) := by
  have hx2 := hx
  simp only [Good] at hx2
  let i' : Nat := min (i - E) x.fN.toNat
  let j' : Nat := min (max i' (j - E)) x.fN.toNat
  have hi' : i' ≤ x.fN.toNat := Nat.min_le_right _ _
  have hj' : j' ≤ x.fN.toNat := Nat.min_le_right _ _
  have hij : i' ≤ j' := by simp only [j']; omega
  refine ⟨⟨x.fAt + i', ((j' - i' : Nat) : Int)⟩, fun h => ?_, ?_, ?_⟩
  · simp only [Good] at h ⊢; omega
  · simp only [exp1]
    rw [rangeI_cut]
    simp only [Int.toNat_natCast]
    rfl
  · have e : arena_Sub x (w64 ((i : Int) - (E : Int))) (if 0 > (w64 ((j : Int) - (E : Int))) then 0 else (w64 ((j : Int) - (E : Int)))) = some ⟨x.fAt + i', ((j' - i' : Nat) : Int)⟩ := by
      unfold arena_Sub
      rw [if_neg (by omega), w64_id (x := (i : Int) - (E : Int)) ⟨by omega, by omega⟩, w64_id (x := (j : Int) - (E : Int)) ⟨by omega, by omega⟩]
      have e1 : (if x.fN < (if 0 > (i : Int) - (E : Int) then 0 else (i : Int) - (E : Int)) then x.fN else (if 0 > (i : Int) - (E : Int) then 0 else (i : Int) - (E : Int))) = (i' : Int) := by
        simp only [i']; split <;> split <;> omega
      rw [e1, bnd_some']
      have e2 : (if 0 > (j : Int) - (E : Int) then 0 else (j : Int) - (E : Int)) = ((j - E : Nat) : Int) := by split <;> omega
      rw [e2]
      have e3 : (if x.fN < (if (i' : Int) > ((j - E : Nat) : Int) then (i' : Int) else ((j - E : Nat) : Int)) then x.fN else (if (i' : Int) > ((j - E : Nat) : Int) then (i' : Int) else ((j - E : Nat) : Int))) = (j' : Int) := by
        simp only [j']; split <;> split <;> omega
      rw [e3, bnd_some', w64_id ⟨by omega, by omega⟩, w64_id ⟨by omega, by omega⟩]
      congr 2; omega
    unfold piece_Text_Slice_1_2
    rw [e, bnd_some', with_eq _ n L hL (fun h => by simp only [Good] at h ⊢; omega) hn hlen, bnd_some', w64_id ⟨by omega, by omega⟩]
theorem cut_app (E R : List Int) (i j : Nat) : ((E ++ R).take j).drop i = (E.take j).drop i ++ (R.take (j - E.length)).drop (i - E.length) := by
  rw [List.take_append, List.drop_append]
  congr 1
  by_cases h : E.length ≤ j
  · rw [List.length_take, Nat.min_eq_right h]
  · rw [show j - E.length = 0 by omega]; simp
theorem each_eq (r : List Int) (hr : GoodP r) (hl : r.length ≤ 1000000) (i j : Nat) (hi : i ≤ 1000000) (hj : j ≤ 1000000) :
    piece_Text_each (tOf r) 0 (i : Int) (j : Int) = some ((((r.take j).drop i).length : Int), canon ((r.take j).drop i)) := by
  have hall := canon_good r hr
  have hcl := canon_len r
  obtain ⟨t, h1, h2⟩ := loop_for (f := piece_Text_each.l1 (tOf r) (i : Int) (j : Int)) (fun k (s : Int × Int × List arena_Span) => (s.1, k, s.2)) (canon r)
    (fun pre s => s = (((expand pre).length : Int), ((((expand pre).take j).drop i).length : Int), canon (((expand pre).take j).drop i)))
    (fun t => (match t with | .brk u => u | .ret u => u) = ((((r.take j).drop i).length : Int), canon ((r.take j).drop i)))
    (fun pre x suf s hs hI => by
      subst hI
      obtain ⟨g1, g2, g3⟩ := exp_sub hr (show canon r = pre ++ (x :: suf) from hs)
      have hx : Good x := hall x (by rw [hs]; simp)
      have hpl : pre.length + 1 ≤ (canon r).length := by rw [hs]; simp
      have hc := canon_len (((expand pre).take j).drop i)
      have hcc : (((expand pre).take j).drop i).length ≤ (expand pre).length := by simp; omega
      obtain ⟨y, y1, y2, y3⟩ := sub_eq x hx (expand pre).length i j ((((expand pre).take j).drop i).length : Int) (canon (((expand pre).take j).drop i)) (canon_good _ (goodP_cut g1 i j)) (by omega) hi hj ⟨by omega, by omega⟩ (by omega)
      have hx2 := hx
      simp only [Good] at hx2
      have hfold : addS (canon (((expand pre).take j).drop i)) y = canon (((expand (pre ++ [x])).take j).drop i) := by
        rw [addS_exp, y2, expand_append, expand_one, cut_app]
        simp [canon, List.foldl_append]
      have hlen2 : ((((expand pre).take j).drop i).length : Int) + (y.fN.toNat : Int) = ((((expand (pre ++ [x])).take j).drop i).length : Int) := by
        rw [expand_append, expand_one, cut_app, List.length_append, ← y2]
        simp [exp1, rangeI_len]
      have el : (expand (pre ++ [x])).length = (expand pre).length + x.fN.toNat := by rw [expand_append, expand_one]; simp [exp1, rangeI_len]
      unfold piece_Text_each.l1
      simp only
      rw [show (tOf r).fL = canon r from rfl, if_pos (by omega), show idx (canon r) (pre.length : Int) = some x by rw [hs]; exact idx_at pre x suf, bnd_some', y3, bnd_some', hfold, hlen2]
      by_cases c : ((expand pre).length : Int) + x.fN < (j : Int)
      · rw [decide_eq_true c, if_pos rfl, w64_id ⟨by omega, by omega⟩, w64_id ⟨by omega, by omega⟩]
        refine .inl ⟨(((expand pre).length : Int) + x.fN, ((((expand (pre ++ [x])).take j).drop i).length : Int), canon (((expand (pre ++ [x])).take j).drop i)), rfl, ?_⟩
        rw [el]
        congr 1; omega
      · rw [decide_eq_false c, if_neg (by simp)]
        refine .inr ⟨_, rfl, ?_⟩
        have hle : j ≤ (expand (pre ++ [x])).length := by rw [el]; omega
        have hr2 : r = expand (pre ++ [x]) ++ expand suf := by rw [g3, expand_append, expand_one, show x :: suf = [x] ++ suf from rfl, expand_append, expand_one, List.append_assoc]
        have : r.take j = (expand (pre ++ [x])).take j := by
          conv => lhs; rw [hr2]
          rw [List.take_append_of_le_length hle]
        rw [this])
    (fun s hI => by
      subst hI
      unfold piece_Text_each.l1
      simp only
      rw [show (tOf r).fL = canon r from rfl, if_neg (by omega)]
      refine ⟨_, rfl, ?_⟩
      simp only
      rw [canon_expand r hr])
    (s0 := (0, 0, [])) (by simp [expand, canon])
  unfold piece_Text_each
  rw [h1, bnd_some']
  cases t <;> simp only at h2 <;> subst h2 <;> rfl
theorem Slice_eq (r : List Int) (hr : GoodP r) (hl : r.length ≤ 1000000) (i j : Int) : piece_Text_Slice (tOf r) i j = some (tOf ((r.take (pl r.length j)).drop (pl r.length i))) := by
  have h1 : pl r.length i ≤ r.length := Nat.min_le_right _ _
  have h2 : pl r.length j ≤ r.length := Nat.min_le_right _ _
  unfold piece_Text_Slice
  rw [place_eq r i hl, bnd_some', place_eq r j hl, bnd_some', each_eq r hr hl _ _ (by omega) (by omega), bnd_some']
  by_cases c : ((pl r.length j : Nat) : Int) ≤ ((pl r.length i : Nat) : Int)
  · rw [if_pos c, List.drop_eq_nil_of_le (by simp; omega)]; rfl
  · rw [if_neg c]; rfl
theorem ConcatIn_eq (q r : List Int) (hq : GoodP q) (hr : GoodP r) (hl : (q ++ r).length ≤ 1000000) :
    loop (piece_Concat.l1 (tOf r)) (0, (q.length : Int), canon q) = some (((q ++ r).length : Int), canon (q ++ r)) := by
  have hall := canon_good r hr
  have hcl := canon_len r
  simp only [List.length_append] at hl
  have h := loop_fold (f := piece_Concat.l1 (tOf r)) (fun i (s : Int × List arena_Span) => (i, s)) (canon r) (fun pre => (((q ++ expand pre).length : Int), canon (q ++ expand pre))) (t := (((q ++ r).length : Int), canon (q ++ r)))
    (fun pre x suf hs => by
      obtain ⟨g1, g2, g3⟩ := exp_sub hr (show canon r = pre ++ (x :: suf) from hs)
      have hpl : pre.length + 1 ≤ (canon r).length := by rw [hs]; simp
      have hx : Good x := hall x (by rw [hs]; simp)
      have hc := canon_len (q ++ expand pre)
      simp only [List.length_append] at hc
      unfold piece_Concat.l1
      simp only
      rw [show (tOf r).fL = canon r from rfl, if_pos (by omega), show idx (canon r) (pre.length : Int) = some x by rw [hs]; exact idx_at pre x suf, bnd_some',
        with_eq x _ _ (canon_good _ (goodP_app hq g1)) (fun _ => hx) ⟨by simp only [List.length_append]; omega, by simp only [List.length_append]; omega⟩ (by omega), bnd_some', w64_id ⟨by omega, by omega⟩]
      simp only [addS_exp, expand_append, expand_one]
      rw [show (exp1 x).foldl addI (canon (q ++ expand pre)) = canon (q ++ (expand pre ++ exp1 x)) by simp [canon, List.foldl_append]]
      simp [exp1, rangeI_len, Int.add_assoc])
    (by
      unfold piece_Concat.l1
      simp only
      rw [show (tOf r).fL = canon r from rfl, if_neg (by omega), canon_expand r hr])
  simpa [expand] using h
theorem Concat_eq (rs : List (List Int)) (hg : ∀ r ∈ rs, GoodP r) (hl : rs.flatten.length ≤ 1000000) (hn : rs.length ≤ 1000000) : piece_Concat (rs.map tOf) = some (tOf rs.flatten) := by
  unfold piece_Concat
  have h := loop_fold (f := piece_Concat.l2 (rs.map tOf)) (fun i (s : Int × List arena_Span) => (i, s)) rs (fun pre => ((pre.flatten.length : Int), canon pre.flatten)) (t := ((rs.flatten.length : Int), canon rs.flatten))
    (fun pre x suf hs => by
      have hle : (pre.flatten ++ x).length ≤ rs.flatten.length := by rw [hs]; simp
      unfold piece_Concat.l2
      simp only
      rw [if_pos (by rw [hs]; simp; omega), idx_map, show idx rs (pre.length : Int) = some x by rw [hs]; exact idx_at pre x suf]
      simp only [Option.map_some, bnd_some']
      rw [ConcatIn_eq pre.flatten x (fun y hy => by
          obtain ⟨r, hr, hy⟩ := List.mem_flatten.1 hy
          exact hg r (by rw [hs]; simp [hr]) y hy) (hg x (by rw [hs]; simp)) (by omega), bnd_some', w64_id ⟨by omega, by rw [hs] at hn; simp at hn; omega⟩]
      simp)
    (by
      unfold piece_Concat.l2
      simp only
      rw [if_neg (by simp)])
  have h' : loop (piece_Concat.l2 (rs.map tOf)) (0, 0, []) = some ((rs.flatten.length : Int), canon rs.flatten) := by simpa [canon] using h
  rw [h', bnd_some']
  rfl
theorem Delete_eq (r : List Int) (hr : GoodP r) (hl : r.length ≤ 1000000) (i j : Int) : piece_Text_Delete (tOf r) i j = some (tOf (r.take (pl r.length i) ++ r.drop (max (pl r.length i) (pl r.length j)))) := by
  have h1 : pl r.length i ≤ r.length := Nat.min_le_right _ _
  have h2 : pl r.length j ≤ r.length := Nat.min_le_right _ _
  unfold piece_Text_Delete
  rw [place_eq r i hl, bnd_some', Slice_eq r hr hl, bnd_some', place_eq r j hl, bnd_some', Slice_eq r hr hl, bnd_some']
  have e0 : pl r.length 0 = 0 := by simp [pl]
  have e1 : pl r.length ((pl r.length i : Nat) : Int) = pl r.length i := by simp only [pl]; omega
  have e2 : pl r.length (if ((pl r.length j : Nat) : Int) > ((pl r.length i : Nat) : Int) then ((pl r.length j : Nat) : Int) else ((pl r.length i : Nat) : Int)) = max (pl r.length i) (pl r.length j) := by
    split <;> (simp only [pl] at *; omega)
  have e3 : pl r.length (tOf r).fN = r.length := by simp [pl, tOf]
  rw [e0, e1, e2, e3, List.drop_zero, List.take_length]
  have := Concat_eq [r.take (pl r.length i), r.drop (max (pl r.length i) (pl r.length j))] (by
    intro q hq
    simp at hq
    rcases hq with rfl | rfl
    · exact fun x hx => hr x (List.mem_of_mem_take hx)
    · exact fun x hx => hr x (List.mem_of_mem_drop hx)) (by simp; omega) (by simp)
  simp only [List.map_cons, List.map_nil] at this
  rw [this, bnd_some']
  simp
theorem equal_eq (a b : List arena_Span) (ha : a.length ≤ 1000000) : slices_Equal_arena_Span_arena_Span a b = some (decide (a = b)) := by
  unfold slices_Equal_arena_Span_arena_Span
  by_cases c : (a.length : Int) = (b.length : Int)
  · rw [if_pos c]
    obtain ⟨t, h1, h2⟩ := loop_same (f := slices_Equal_arena_Span_arena_Span.l1 a b) () a b (by omega) (by omega) (fun i => rfl)
    rw [h1, bnd_some']
    cases t with
    | brk u => simp only at h2 ⊢; rw [decide_eq_true h2]
    | ret v => simp only at h2 ⊢; rw [h2.1, decide_eq_false h2.2]
  · rw [if_neg c, decide_eq_false (fun h => c (by rw [h]))]
theorem Same_eq (r q : List Int) (hl : r.length ≤ 1000000) : piece_Same (tOf r) (tOf q) = some (decide (canon r = canon q)) := by
  have hc := canon_len r
  unfold piece_Same
  rw [show (tOf r).fL = canon r from rfl, show (tOf q).fL = canon q from rfl, equal_eq _ _ (by omega), bnd_some']
end Go.Proofs.Ytbcbggdgkdfciaa.S
