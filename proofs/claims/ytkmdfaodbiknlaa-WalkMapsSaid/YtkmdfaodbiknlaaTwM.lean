/- The law WalkMaps. -/
import Derived.Test.YtkmdfaodbiknlaaG0
import Derived.Test.YtkmdfaodbiknlaaG19xa
import Derived.Test.YtkmdfaodbiknlaaTwl
set_option linter.unusedVariables false
namespace Go.Proofs.Ytkmdfaodbiknlaa.S
open Go Go.Sm
def mp : List El → Int → List El
  | [], _ => []
  | x :: xs, i => w64 (w64 (x * 2) + i) :: mp xs (i + 1)
theorem mp_len : ∀ (l : List El) (i : Int), (mp l i).length = l.length
  | [], _ => rfl
  | x :: xs, i => by simp [mp, mp_len xs]
theorem wantLoop (l : List El) (hl : l.length ≤ 800000) : ∀ (suf pre acc : List El), l = pre ++ suf → acc.length = pre.length → loop (law10_WalkMaps.l1 l) ((pre.length : Int), acc) = some (acc ++ mp suf (pre.length : Int)) := by
  intro suf
  induction suf with
  | nil =>
    intro pre acc h _
    refine loop_done ?_
    unfold law10_WalkMaps.l1
    dsimp only
    rw [if_neg (by rw [h]; simp)]
    simp [mp]
  | cons x suf ih =>
    intro pre acc h ha
    have hlen : l.length = pre.length + (suf.length + 1) := by rw [h]; simp
    have hx : idx l (pre.length : Int) = some x := by rw [h]; exact idx_at pre x suf
    refine loop_next (s' := ((pre.length : Int) + 1, acc ++ [w64 (w64 (x * 2) + (pre.length : Int))])) ?_ ?_
    · unfold law10_WalkMaps.l1
      dsimp only
      rw [if_pos (by omega), hx, bnd_some', app_of (by simp; omega), bnd_some', w64_id (x := (pre.length : Int) + 1) ⟨by omega, by omega⟩]
    · have := ih (pre ++ [x]) (acc ++ [w64 (w64 (x * 2) + (pre.length : Int))]) (by rw [h]; simp) (by simp [ha])
      rw [List.length_append, List.length_singleton, show ((pre.length + 1 : Nat) : Int) = (pre.length : Int) + 1 by omega] at this
      rw [this]; simp [mp]
theorem mapLoop (l : List El) (hl : l.length ≤ 800000) : ∀ (suf dn : List El) (c : Int), l.length = dn.length + suf.length → 0 ≤ c → c + suf.length ≤ 800000 → loop (walk_Map_int.l1 l) ((dn.length : Int), c, dn ++ suf) = some (c + suf.length, dn ++ mp suf (dn.length : Int)) := by
  intro suf
  induction suf with
  | nil =>
    intro dn c h _ _
    refine loop_done ?_
    unfold walk_Map_int.l1
    dsimp only
    rw [if_neg (by simp at h; omega)]
    simp [mp]
  | cons x suf ih =>
    intro dn c h h0 h1
    simp only [List.length_cons] at h h1
    refine loop_next (s' := ((dn.length : Int) + 1, c + 1, dn ++ w64 (w64 (x * 2) + (dn.length : Int)) :: suf)) ?_ ?_
    · unfold walk_Map_int.l1 law10_WalkMaps_1
      dsimp only
      rw [if_pos (by omega), idx_at dn x suf, bnd_some', bnd_some', w64_id (x := (dn.length : Int) + 1) ⟨by omega, by omega⟩, w64_id (x := c + 1) ⟨by omega, by omega⟩, Int.toNat_natCast]
      simp
    · have := ih (dn ++ [w64 (w64 (x * 2) + (dn.length : Int))]) (c + 1) (by simp; omega) (by omega) (by omega)
      rw [List.length_append, List.length_singleton, show ((dn.length + 1 : Nat) : Int) = (dn.length : Int) + 1 by omega] at this
      simp only [List.append_assoc, List.singleton_append] at this
      rw [this]; simp [mp]; omega
theorem rIndex_eq (l : List El) (hl : l.length ≤ 800000) (from_ k : Int) : ref10_Index l from_ k = some (foundI (findFrom (fun x => rem x 2 == k) (l.drop (stA l.length from_)) (stA l.length from_))) := by
  have key : ∀ (n i : Nat), i + n = l.length → loop (ref10_Index.l1 l from_ k) (i : Int) = some (match findFrom (fun x => rem x 2 == k) (l.drop (max i (stA l.length from_))) (max i (stA l.length from_)) with | none => .brk () | some j => .ret (j : Int)) := by
    intro n
    induction n with
    | zero =>
      intro i hi
      rw [List.drop_of_length_le (by omega)]
      refine loop_done ?_
      unfold ref10_Index.l1
      rw [if_neg (by omega)]
      rfl
    | succ n ih =>
      intro i hi
      have hx : idx l (i : Int) = some l[i] := idx_of (List.getElem?_eq_getElem (by omega))
      by_cases c : (i : Int) ≥ from_
      · have hm : max i (stA l.length from_) = i := by unfold stA; omega
        have hm2 : max (i + 1) (stA l.length from_) = i + 1 := by unfold stA; omega
        rw [hm, List.drop_eq_getElem_cons (by omega)]
        unfold findFrom
        by_cases p : (rem l[i] 2 == k) = true
        · rw [if_pos p]
          refine loop_done ?_
          unfold ref10_Index.l1
          rw [if_pos (by omega), hx, bnd_some', if_pos c, bnd_some', if_pos p]
        · rw [if_neg p]
          have := ih (i + 1) (by omega)
          rw [hm2] at this
          refine loop_next (s' := ((i + 1 : Nat) : Int)) ?_ this
          unfold ref10_Index.l1
          rw [if_pos (by omega), hx, bnd_some', if_pos c, bnd_some', if_neg p, w64_id ⟨by omega, by omega⟩, show (i : Int) + 1 = ((i + 1 : Nat) : Int) by omega]
      · have hm : max i (stA l.length from_) = max (i + 1) (stA l.length from_) := by unfold stA; omega
        rw [hm]
        refine loop_next (s' := ((i + 1 : Nat) : Int)) ?_ (ih (i + 1) (by omega))
        unfold ref10_Index.l1
        rw [if_pos (by omega), hx, bnd_some', if_neg c, bnd_some', if_neg (by simp), w64_id ⟨by omega, by omega⟩, show (i : Int) + 1 = ((i + 1 : Nat) : Int) by omega]
  unfold ref10_Index
  have := key l.length 0 (by omega)
  rw [Nat.zero_max, show ((0 : Nat) : Int) = 0 from rfl] at this
  rw [this, bnd_some']
  cases findFrom (fun x => rem x 2 == k) (l.drop (stA l.length from_)) (stA l.length from_) <;> rfl
theorem wIndex2_eq (t : tree_Tree_int) (l : List El) (ht : IsT t l) (hl : l.length ≤ 800000) (from_ k : Int) : walk_Index_int_2 t from_ k = some (foundI (findFrom (fun x => rem x 2 == k) (l.drop (stA l.length from_)) (stA l.length from_))) := by
  unfold walk_Index_int_2
  have hs := st_le l.length from_ (l.length : Int)
  have hb : stB l.length from_ (l.length : Int) = l.length := by unfold stB stA at *; omega
  rw [Len_eq t l ht, bnd_some', wRange_eq t l ht, bnd_some', hb]
  dsimp only
  unfold walk_Range_int_1_3
  by_cases c : stA l.length from_ = l.length
  · rw [if_pos (by rw [c]), bnd_some', List.drop_of_length_le (by omega)]; rfl
  · rw [if_neg (by omega)]
    rcases ht with ⟨rfl, rfl⟩ | ⟨h, z, rfl, hr⟩
    · exact absurd (by simp [stA]) c
    · have hlow := hr.low (by omega)
      obtain ⟨stk, d1, d2, d3⟩ := down_eq (first := 0) (i := stA l.length from_) hr.1 hr.2.1 (by omega) (by omega) (by omega)
      rw [Nat.zero_add, show ((0 : Nat) : Int) = 0 from rfl] at d1
      dsimp only
      rw [root_eq hr, bnd_some']
      dsimp only
      rw [d1, bnd_some', index_gen (r0 := fun i x => walk_Index_int_r0_2 i x k 0) (fun x => rem x 2 == k) (fun i x => by
        unfold walk_Index_int_r0_2 law10_WalkMaps_2
        rw [bnd_some']
        by_cases c : (rem x 2 == k) = true
        · rw [if_pos c, if_pos c]
        · rw [if_neg c, if_neg c]) (g := walk_Range_int_1_3.l1 (l.length : Int) k 0) (fun i stk => rfl) hr hl rfl (by omega) d2, bnd_some']
      cases findFrom (fun x => rem x 2 == k) (l.drop (stA l.length from_)) (stA l.length from_) <;> rfl
theorem WalkMaps_holds (a0 : List Int) (a1 : Int) (a2 : UInt8) (w0 : a0.length ≤ maxLen ∧ ∀ a ∈ a0, (Lit.int .i64 a).wf = true) (w1 : (Lit.int .i64 a1).wf = true) (w2 : True) : law10_WalkMaps a0 a1 a2 = some true := by
  unfold law10_WalkMaps
  rw [few10_eq, bnd_some']
  have hl : (a0.take 300).length ≤ 300 := by simp; omega
  generalize a0.take 300 = l at hl
  obtain ⟨t, t1, t2⟩ := Of_eq l (by omega)
  have hw := wantLoop l (by omega) l [] [] rfl rfl
  have hm := mapLoop l (by omega) l [] 0 (by simp) (by omega) (by omega)
  simp only [List.nil_append, List.length_nil] at hw hm
  rw [show ((0 : Nat) : Int) = 0 from rfl] at hw hm
  rw [Int.zero_add] at hm
  have hml := mp_len l 0
  obtain ⟨u, u1, u2⟩ := Of_eq (mp l 0) (by omega)
  rw [t1, bnd_some', hw, bnd_some']
  unfold walk_Map_int
  rw [wAll_eq t l t2 (by omega), bnd_some', cloneEl l (by omega), bnd_some', hm, bnd_some']
  dsimp only
  rw [u1, bnd_some', bnd_some']
  dsimp only
  rw [Fits_eq u _ u2 (by omega), bnd_some', if_pos rfl, if_pos rfl, wIndex2_eq t l t2 (by omega), bnd_some', rIndex_eq l (by omega), bnd_some', if_pos rfl, awake10_eq, bnd_some', bnd_some']
end Go.Proofs.Ytkmdfaodbiknlaa.S
