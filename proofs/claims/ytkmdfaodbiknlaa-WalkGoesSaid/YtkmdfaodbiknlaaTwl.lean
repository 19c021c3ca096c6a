/- The Walk laws, plainly: stretches, what is gone through, the example. -/
import Derived.Test.YtkmdfaodbiknlaaG0
import Derived.Test.YtkmdfaodbiknlaaG14xa
import Derived.Test.YtkmdfaodbiknlaaG15xa
import Derived.Test.YtkmdfaodbiknlaaG16xa
import Derived.Test.YtkmdfaodbiknlaaG17xa
import Derived.Test.YtkmdfaodbiknlaaG2xa
import Derived.Test.YtkmdfaodbiknlaaTwk
import Derived.Test.YtkmdfaodbiknlaaTrj
set_option linter.unusedVariables false
namespace Go.Proofs.Ytkmdfaodbiknlaa.S
open Go Go.Sm
def stA (n : Nat) (i : Int) : Nat := min i.toNat n
def stB (n : Nat) (i j : Int) : Nat := max (stA n i) (stA n j)
theorem st_le (n : Nat) (i j : Int) : stA n i ≤ stB n i j ∧ stB n i j ≤ n := by unfold stB stA; omega
theorem few10_eq (l : List El) : law10_few l = some (l.take 300) := by
  unfold law10_few
  by_cases c : (l.length : Int) > 300
  · rw [if_pos c, cut_of ⟨by omega, by omega, by omega⟩, bnd_some']; rfl
  · rw [if_neg c, List.take_of_length_le (by omega)]
theorem stretch_eq (t : tree_Tree_int) (l : List El) (ht : IsT t l) (i j : Int) : walk_stretch_int t i j = some ((stA l.length i : Int), (stB l.length i j : Int)) := by
  unfold walk_stretch_int
  rw [Len_eq t l ht, bnd_some', bnd_some', bnd_some', bnd_some']
  unfold stB stA
  congr 2 <;> omega
theorem rstretch_eq (l : List El) (i j : Int) : ref10_Stretch l i j = some ((stA l.length i : Int), (stB l.length i j : Int)) := by
  unfold ref10_Stretch
  rw [held_eq, bnd_some', held_eq, bnd_some']
  have : (if ((min j.toNat l.length : Nat) : Int) < ((min i.toNat l.length : Nat) : Int) then some ((min i.toNat l.length : Nat) : Int) else some ((min j.toNat l.length : Nat) : Int) : Option Int) = some (stB l.length i j : Int) := by
    unfold stB stA
    split <;> congr 1 <;> omega
  rw [this, bnd_some']
  rfl
theorem Slice_eq (t : tree_Tree_int) (l : List El) (ht : IsT t l) (hl : l.length ≤ 800000) (i j : Int) : ∃ u, walk_Slice_int t i j = some u ∧ IsT u ((l.take (stB l.length i j)).drop (stA l.length i)) := by
  unfold walk_Slice_int
  rw [stretch_eq t l ht, bnd_some']
  obtain ⟨a, b, s1, s2, s3⟩ := Split_eq t l ht hl (stB l.length i j : Int)
  rw [Int.toNat_natCast] at s2
  obtain ⟨c, d, r1, r2, r3⟩ := Split_eq a _ s2 (by simp; omega) (stA l.length i : Int)
  rw [Int.toNat_natCast] at r3
  dsimp only
  rw [s1, bnd_some']
  dsimp only
  rw [r1, bnd_some']
  exact ⟨d, rfl, r3⟩
theorem Splice_eq (t u : tree_Tree_int) (l m : List El) (ht : IsT t l) (hu : IsT u m) (hl : l.length + m.length ≤ 400000) (i j : Int) : ∃ v, walk_Splice_int t i j u = some v ∧ IsT v (l.take (stA l.length i) ++ m ++ l.drop (stB l.length i j)) := by
  unfold walk_Splice_int
  rw [stretch_eq t l ht, bnd_some']
  obtain ⟨a, b, s1, s2, s3⟩ := Split_eq t l ht (by omega) (stA l.length i : Int)
  obtain ⟨c, d, r1, r2, r3⟩ := Split_eq t l ht (by omega) (stB l.length i j : Int)
  rw [Int.toNat_natCast] at s2 r3
  obtain ⟨e, e1, e2⟩ := Join_eq a u _ m s2 hu (by simp; omega)
  obtain ⟨f, f1, f2⟩ := Join_eq e d _ _ e2 r3 (by simp; omega)
  dsimp only
  rw [s1, bnd_some', r1, bnd_some']
  dsimp only
  rw [e1, bnd_some', f1, bnd_some']
  exact ⟨f, rfl, f2⟩
def mvL (l : List El) (i j to : Int) : List El :=
  let s := (l.take (stB l.length i j)).drop (stA l.length i)
  let r := l.take (stA l.length i) ++ [] ++ l.drop (stB l.length i j)
  r.take (stA r.length to) ++ s ++ r.drop (stB r.length to to)
theorem Move_eq (t : tree_Tree_int) (l : List El) (ht : IsT t l) (hl : l.length ≤ 100000) (i j to : Int) : ∃ v, walk_Move_int t i j to = some v ∧ IsT v (mvL l i j to) := by
  unfold walk_Move_int
  obtain ⟨a, a1, a2⟩ := Slice_eq t l ht (by omega) i j
  obtain ⟨b, b1, b2⟩ := Splice_eq t ⟨none⟩ l [] ht (.inl ⟨rfl, rfl⟩) (by simp; omega) i j
  obtain ⟨c, c1, c2⟩ := Splice_eq b a _ _ b2 a2 (by simp; omega) to to
  rw [a1, bnd_some', b1, bnd_some', c1, bnd_some']
  exact ⟨c, rfl, c2⟩
/-! ### the chapter's own -/
theorem copyFrom {f : Int × List El → Option (Lp (Int × List El) (List El))} (x : List El) (n : Int) (hf : ∀ s, f s = if s.1 < n then bnd (idx x s.1) fun a => bnd (app 8 s.2 [a]) fun b => some (.next (w64 (s.1 + 1), b)) else some (.done s.2)) :
    ∀ (k a b : Nat) (acc : List El), a + k = b → (b : Int) = n → b ≤ x.length → x.length + acc.length ≤ 800000 → loop f ((a : Int), acc) = some (acc ++ (x.take b).drop a) := by
  intro k
  induction k with
  | zero =>
    intro a b acc h1 h2 h3 h4
    refine loop_done ?_
    rw [hf]
    dsimp only
    rw [if_neg (by omega), List.drop_of_length_le (by rw [List.length_take]; omega), List.append_nil]
  | succ k ih =>
    intro a b acc h1 h2 h3 h4
    have hx : (x.take b).drop a = x[a] :: (x.take b).drop (a + 1) := by
      rw [List.drop_eq_getElem_cons (by rw [List.length_take]; omega), List.getElem_take]
    by_cases hb : acc.length + (b - a) ≤ 1600000
    · have gen : ∀ (k a : Nat) (acc : List El), a + k = b → acc.length + k ≤ 1600000 → loop f ((a : Int), acc) = some (acc ++ (x.take b).drop a) := by
        intro k
        induction k with
        | zero =>
          intro a acc h1 _
          refine loop_done ?_
          rw [hf]
          dsimp only
          rw [if_neg (by omega), List.drop_of_length_le (by rw [List.length_take]; omega), List.append_nil]
        | succ k ih2 =>
          intro a acc h1 h5
          have hx : (x.take b).drop a = x[a] :: (x.take b).drop (a + 1) := by
            rw [List.drop_eq_getElem_cons (by rw [List.length_take]; omega), List.getElem_take]
          refine loop_next (s' := (((a + 1 : Nat) : Int), acc ++ [x[a]])) ?_ ?_
          · rw [hf]
            dsimp only
            rw [if_pos (by omega), idx_of (List.getElem?_eq_getElem (by omega)), bnd_some', app_of (by simp; omega), bnd_some', w64_id ⟨by omega, by omega⟩, show ((a + 1 : Nat) : Int) = (a : Int) + 1 by omega]
          · rw [ih2 (a + 1) (acc ++ [x[a]]) (by omega) (by simp; omega), hx]; simp
      exact gen (k + 1) a acc h1 (by omega)
    · omega
theorem rSlice_eq (l : List El) (hl : l.length ≤ 400000) (i j : Int) : ref10_Slice l i j = some ((l.take (stB l.length i j)).drop (stA l.length i)) := by
  unfold ref10_Slice
  rw [rstretch_eq, bnd_some']
  have hs := st_le l.length i j
  dsimp only
  rw [copyFrom (f := ref10_Slice.l1 l ((stA l.length i : Int), (stB l.length i j : Int))) l (stB l.length i j : Int) (fun s => rfl) (stB l.length i j - stA l.length i) (stA l.length i) (stB l.length i j) [] (by omega) rfl hs.2 (by simp; omega), bnd_some', List.nil_append]
theorem rSlice0 (l : List El) (hl : l.length ≤ 400000) (a : Nat) (ha : a ≤ l.length) : ref10_Slice l 0 (a : Int) = some (l.take a) := by
  rw [rSlice_eq l hl, show stA l.length 0 = 0 by unfold stA; simp, show stB l.length 0 (a : Int) = a by unfold stB stA; omega, List.drop_zero]
theorem rSplice_eq (l u : List El) (hl : l.length + u.length ≤ 100000) (i j : Int) : ref10_Splice l i j u = some (l.take (stA l.length i) ++ u ++ l.drop (stB l.length i j)) := by
  have hs := st_le l.length i j
  unfold ref10_Splice
  rw [rstretch_eq, bnd_some']
  dsimp only
  have h1 := copyFrom (f := ref10_Splice.l1 u) u (u.length : Int) (fun s => rfl) u.length 0 u.length (l.take (stA l.length i)) (by omega) rfl (Nat.le_refl _) (by simp; omega)
  have h2 := copyFrom (f := ref10_Splice.l2 l) l (l.length : Int) (fun s => rfl) (l.length - stB l.length i j) (stB l.length i j) l.length (l.take (stA l.length i) ++ u) (by omega) rfl (Nat.le_refl _) (by simp; omega)
  rw [List.take_length, List.drop_zero, show ((0 : Nat) : Int) = 0 from rfl] at h1
  rw [List.take_length] at h2
  rw [rSlice0 l (by omega) _ (by omega), bnd_some', h1, bnd_some', h2, bnd_some']
theorem rSplice2_eq (l : List El) (hl : l.length ≤ 100000) (i j : Int) : ref10_Splice_2 l i j = some (l.take (stA l.length i) ++ [] ++ l.drop (stB l.length i j)) := by
  have hs := st_le l.length i j
  unfold ref10_Splice_2
  rw [rstretch_eq, bnd_some']
  dsimp only
  have h2 := copyFrom (f := ref10_Splice_2.l2 l) l (l.length : Int) (fun s => rfl) (l.length - stB l.length i j) (stB l.length i j) l.length (l.take (stA l.length i) ++ []) (by omega) rfl (Nat.le_refl _) (by simp; omega)
  rw [List.take_length] at h2
  simp only [List.append_nil] at h2 ⊢
  rw [rSlice0 l (by omega) _ (by omega), bnd_some', show loop ref10_Splice_2.l1 () = some () from loop_done rfl, bnd_some', h2, bnd_some']
theorem rMove_eq (l : List El) (hl : l.length ≤ 40000) (i j to : Int) : ref10_Move l i j to = some (mvL l i j to) := by
  unfold ref10_Move
  rw [rSplice2_eq l (by omega), bnd_some', rSlice_eq l (by omega), bnd_some', rSplice_eq _ _ (by simp; omega), bnd_some']
  rfl
/-! ### all things; the first of a kind -/
theorem root_eq {h : Nat} {z : Nd} {l : List El} (hr : Rt h z l) : tree_Tree_int_Root ⟨some (c_tree_Node_int z)⟩ = some (.inr (z.fKids, z.fItems, z.fN)) := by
  unfold tree_Tree_int_Root
  rw [bnd_some']
  dsimp only
  rw [oN, bnd_some']
theorem wRange_eq (t : tree_Tree_int) (l : List El) (ht : IsT t l) (i j : Int) : walk_Range_int t i j = some ((stA l.length i : Int), (stB l.length i j : Int), t.fRoot) := by
  unfold walk_Range_int
  rw [stretch_eq t l ht, bnd_some']
theorem goAll : ∀ (l : List El) (i : Int) (acc : List El), acc.length + l.length ≤ 800000 → goR (fun i x (s : List El) => bnd (walk_All_int_r0 i x s) fun s' => some (.inl s' : List El ⊕ List El)) id l i acc = some (acc ++ l)
  | [], i, acc, _ => by simp [goR]
  | x :: l, i, acc, h => by
    simp only [List.length_cons] at h
    unfold goR walk_All_int_r0
    rw [app_of (by simp; omega), bnd_some', bnd_some', bnd_some']
    dsimp only
    have := goAll l (i + 1) (acc ++ [x]) (by simp; omega)
    unfold walk_All_int_r0 at this
    rw [this]; simp
theorem wAll_eq (t : tree_Tree_int) (l : List El) (ht : IsT t l) (hl : l.length ≤ 800000) : walk_All_int t = some l := by
  unfold walk_All_int
  rw [Len_eq t l ht, bnd_some', mkc_of ⟨by omega, by omega⟩, bnd_some', bnd_some', wRange_eq t l ht, bnd_some']
  dsimp only
  rw [show stA l.length 0 = 0 by unfold stA; simp, show stB l.length 0 (l.length : Int) = l.length by unfold stB stA; omega]
  unfold walk_Range_int_1
  rcases ht with ⟨rfl, rfl⟩ | ⟨h, z, rfl, hr⟩
  · rfl
  · have hpos : 0 < l.length := List.length_pos_iff.2 hr.2.2.2
    have hlow := hr.low (by omega)
    obtain ⟨stk, d1, d2, d3⟩ := down_eq (first := 0) (i := 0) hr.1 hr.2.1 hpos (by omega) (by omega)
    rw [if_neg (by omega)]
    dsimp only
    rw [root_eq hr, bnd_some']
    dsimp only
    have hg := goAll l 0 [] (by simp; omega)
    have hlp := range_loop (f := walk_Range_int_1.l1 (l.length : Int)) (fun i stk (s : List El) => (i, s, stk)) (fun i x (s : List El) => bnd (walk_All_int_r0 i x s) fun s' => some (.inl s' : List El ⊕ List El)) id l.length hr.2.1 (by omega) (show h ≤ 400 by omega) (Nat.le_refl _) (fun i stk s hi => by
      have e : walk_Range_int_1.l1 (l.length : Int) ((i : Int), s, stk) = if (i : Int) < (l.length : Int) then rstep stk (fun x st' => bnd (walk_All_int_r0 (i : Int) x s) fun x39 => some (Lp.next (w64 ((i : Int) + 1), x39, st'))) else some (Lp.done s) := rfl
      rw [e, if_pos (by omega)]
      congr 1
      funext x st'
      cases walk_All_int_r0 (i : Int) x s <;> rfl) (fun stk s => by
      have e : walk_Range_int_1.l1 (l.length : Int) ((l.length : Int), s, stk) = if (l.length : Int) < (l.length : Int) then rstep stk (fun x st' => bnd (walk_All_int_r0 (l.length : Int) x s) fun x39 => some (Lp.next (w64 ((l.length : Int) + 1), x39, st'))) else some (Lp.done s) := rfl
      rw [e, if_neg (by omega)]; rfl) l.length 0 stk [] l (by omega) d2 (by rw [List.take_length, List.drop_zero]; simpa using hg)
    rw [show (((0 : Nat) + 0 : Nat) : Int) = ((0 : Nat) : Int) from rfl, show ((0 : Nat) : Int) = 0 from rfl] at d1
    rw [show ((0 : Nat) : Int) = 0 from rfl] at hlp ⊢
    rw [d1, bnd_some', hlp, bnd_some', bnd_some']
/-- The first one of a kind. -/
def findFrom (p : El → Bool) : List El → Nat → Option Nat
  | [], _ => none
  | x :: xs, i => if p x = true then some i else findFrom p xs (i + 1)
def foundR : Option Nat → Ex Unit (Unit ⊕ Int)
  | none => .brk ()
  | some k => .ret (.inr (k : Int))
theorem goFind (p : El → Bool) {r0 : Int → El → Option (Int ⊕ Unit)} (h : ∀ i x, r0 i x = some (if p x = true then .inl i else .inr ())) : ∀ (l : List El) (i : Nat), goR (fun i x (_ : Unit) => bnd (r0 i x) fun r => match r with
      | .inl v => some (.inr (.ret (.inr v)) : Unit ⊕ Ex Unit (Unit ⊕ Int))
      | .inr _ => some (.inl ())) (fun _ => .brk ()) l (i : Int) () = some (foundR (findFrom p l i))
  | [], i => rfl
  | x :: l, i => by
    unfold goR findFrom
    rw [h, bnd_some']
    by_cases c : p x = true
    · rw [if_pos c, if_pos c]; rfl
    · rw [if_neg c, if_neg c]
      have := goFind p h l (i + 1)
      rw [show ((i + 1 : Nat) : Int) = (i : Int) + 1 by omega] at this
      exact this
theorem index_gen {r0 : Int → El → Option (Int ⊕ Unit)} (p : El → Bool) (h0 : ∀ i x, r0 i x = some (if p x = true then .inl i else .inr ())) {n : Int} {g : Int × List Fr → Option (Lp (Int × List Fr) (Ex Unit (Unit ⊕ Int)))}
    (hg : ∀ i stk, g (i, stk) = if i < n then rstep stk (fun x st' => bnd (r0 i x) fun x38 => match x38 with | .inl v => some (.done (.ret (.inr v))) | .inr _ => some (.next (w64 (i + 1), st'))) else some (.done (.brk ())))
    {h a : Nat} {z : Nd} {l : List El} (hr : Rt h z l) (hl : l.length ≤ 800000) (hn : n = (l.length : Int)) (ha : a < l.length) {stk : List Fr} (hp : Pth h z l 0 stk a) : loop g ((a : Int), stk) = some (foundR (findFrom p (l.drop a) a)) := by
  have hlow := hr.low (by omega)
  have hg2 := goFind p h0 (l.drop a) a
  refine range_loop (f := g) (fun i stk (_ : Unit) => (i, stk)) (fun i x (_ : Unit) => bnd (r0 i x) fun r => match r with
      | .inl v => some (.inr (.ret (.inr v)) : Unit ⊕ Ex Unit (Unit ⊕ Int))
      | .inr _ => some (.inl ())) (fun _ => .brk ()) l.length hr.2.1 (by omega) (show h ≤ 400 by omega) (Nat.le_refl _) (fun i stk s hi => ?_) (fun stk s => ?_) (l.length - a) a stk () _ (by omega) hp (by rw [List.take_length]; exact hg2)
  · rw [hg, if_pos (by omega)]
    congr 1
    funext x st'
    rw [h0, bnd_some', bnd_some']
    by_cases c : p x = true
    · rw [if_pos c]; rfl
    · rw [if_neg c]; rfl
  · rw [hg, if_neg (by omega)]
def foundI : Option Nat → Int
  | none => -1
  | some k => (k : Int)
theorem wIndex_eq (t : tree_Tree_int) (l : List El) (ht : IsT t l) (hl : l.length ≤ 800000) (from_ : Int) : walk_Index_int t from_ = some (foundI (findFrom (fun x => x == 3) (l.drop (stA l.length from_)) (stA l.length from_))) := by
  unfold walk_Index_int
  have hs := st_le l.length from_ (l.length : Int)
  have hb : stB l.length from_ (l.length : Int) = l.length := by unfold stB stA at *; omega
  rw [Len_eq t l ht, bnd_some', wRange_eq t l ht, bnd_some', hb]
  dsimp only
  unfold walk_Range_int_1_2
  by_cases c : stA l.length from_ = l.length
  · rw [if_pos (by rw [c]), bnd_some', List.drop_of_length_le (by omega)]; rfl
  · rw [if_neg (by omega)]
    rcases ht with ⟨rfl, rfl⟩ | ⟨h, z, rfl, hr⟩
    · exact absurd (by simp [stA]) c
    · have hlow := hr.low (by omega)
      obtain ⟨stk, d1, d2, d3⟩ := down_eq (first := 0) (i := stA l.length from_) hr.1 hr.2.1 (by omega) (by omega) (by omega)
      rw [Nat.zero_add, show ((0 : Nat) : Int) = 0 from rfl] at d1
      dsimp only
      rw [root_eq hr, bnd_some']
      dsimp only
      rw [d1, bnd_some', index_gen (r0 := fun i x => walk_Index_int_r0 i x 0) (fun x => x == 3) (fun i x => by
        unfold walk_Index_int_r0 law10_awake_1
        rw [bnd_some']
        by_cases c : (x == 3) = true
        · rw [if_pos c, if_pos c]
        · rw [if_neg c, if_neg c]) (g := walk_Range_int_1_2.l1 (l.length : Int) 0) (fun i stk => rfl) hr hl rfl (by omega) d2, bnd_some']
      cases findFrom (fun x => x == 3) (l.drop (stA l.length from_)) (stA l.length from_) <;> rfl
theorem awake10_eq : law10_awake = some true := by
  unfold law10_awake
  obtain ⟨t, t1, t2⟩ := Of_eq [1, 2, 3, 4] (by decide)
  obtain ⟨u, u1, u2⟩ := Move_eq t _ t2 (by decide) 0 1 3
  have hm : mvL [1, 2, 3, 4] 0 1 3 = [2, 3, 4, 1] := by decide
  rw [hm] at u2
  rw [t1, bnd_some', u1, bnd_some', wAll_eq u _ u2 (by decide), bnd_some', same9_eq _ _ (by decide), bnd_some', decide_eq_true rfl, if_pos rfl, wIndex_eq t _ t2 (by decide), bnd_some']
  rfl
end Go.Proofs.Ytkmdfaodbiknlaa.S
