/- The laws WalkCuts and WalkBack. -/
import Derived.Test.YtkmdfaodbiknlaaG17xa
import Derived.Test.YtkmdfaodbiknlaaG18xa
import Derived.Test.YtkmdfaodbiknlaaTwl
set_option linter.unusedVariables false
namespace Go.Proofs.Ytkmdfaodbiknlaa.S
open Go Go.Sm
theorem WalkCuts_holds (a0 a1 : List Int) (a2 : Int × Int × Int) (w0 : a0.length ≤ maxLen ∧ ∀ a ∈ a0, (Lit.int .i64 a).wf = true) (w1 : a1.length ≤ maxLen ∧ ∀ a ∈ a1, (Lit.int .i64 a).wf = true) (w2 : (Lit.int .i64 a2.1).wf = true ∧ (Lit.int .i64 a2.2.1).wf = true ∧ (Lit.int .i64 a2.2.2).wf = true) : law10_WalkCuts a0 a1 a2 = some true := by
  unfold law10_WalkCuts
  rw [few10_eq, bnd_some', few10_eq, bnd_some']
  have hl : (a0.take 300).length ≤ 300 := by simp; omega
  have hm : (a1.take 300).length ≤ 300 := by simp; omega
  generalize a0.take 300 = l at hl
  generalize a1.take 300 = m at hm
  obtain ⟨t, t1, t2⟩ := Of_eq l (by omega)
  obtain ⟨u, u1, u2⟩ := Of_eq m (by omega)
  obtain ⟨a, s1, s2⟩ := Slice_eq t l t2 (by omega) a2.1 a2.2.1
  obtain ⟨b, b1, b2⟩ := Splice_eq t u l m t2 u2 (by omega) a2.1 a2.2.1
  obtain ⟨c, c1, c2⟩ := Move_eq t l t2 (by omega) a2.1 a2.2.1 a2.2.2
  have hmv : (mvL l a2.1 a2.2.1 a2.2.2).length ≤ 800000 := by unfold mvL; simp; omega
  rw [t1, bnd_some', u1, bnd_some', s1, bnd_some', rSlice_eq l (by omega), bnd_some', Fits_eq a _ s2 (by simp; omega), bnd_some', if_pos rfl, b1, bnd_some', rSplice_eq l m (by omega), bnd_some', Fits_eq b _ b2 (by simp; omega), bnd_some', if_pos rfl, c1, bnd_some', rMove_eq l (by omega), bnd_some', Fits_eq c _ c2 hmv, bnd_some', if_pos rfl, Fits_eq t _ t2 (by omega), bnd_some', if_pos rfl, awake10_eq, bnd_some', bnd_some']
theorem stA_nat {n c : Nat} (h : c ≤ n) : stA n (c : Int) = c := by unfold stA; omega
theorem stB_nat {n c d : Nat} (h : c ≤ d) (h2 : d ≤ n) : stB n (c : Int) (d : Int) = d := by unfold stB stA; omega
theorem mvL_nat (A S B : List El) {c : Nat} (h : c ≤ A.length + B.length) : mvL (A ++ S ++ B) (A.length : Int) ((A.length + S.length : Nat) : Int) (c : Int) = (A ++ B).take c ++ S ++ (A ++ B).drop c := by
  have h1 : stA (A ++ S ++ B).length (A.length : Int) = A.length := stA_nat (by simp)
  have h2 : stB (A ++ S ++ B).length (A.length : Int) ((A.length + S.length : Nat) : Int) = A.length + S.length := stB_nat (by omega) (by simp)
  have e1 : (A ++ S ++ B).take (A.length + S.length) = A ++ S := by rw [← List.length_append]; exact List.take_left
  have e2 : (A ++ S ++ B).take A.length = A := by rw [List.append_assoc]; exact List.take_left
  have e3 : (A ++ S ++ B).drop (A.length + S.length) = B := by rw [← List.length_append]; exact List.drop_left
  have e4 : (A ++ S).drop A.length = S := List.drop_left
  unfold mvL
  rw [h1, h2, e1, e2, e3, e4, List.append_nil]
  dsimp only
  have hle : c ≤ (A ++ B).length := by rw [List.length_append]; exact h
  rw [stA_nat hle, stB_nat (Nat.le_refl c) hle]
theorem mv_back (l : List El) {a b c : Nat} (hab : a ≤ b) (hb : b ≤ l.length) (hc : c ≤ l.length - (b - a)) : mvL (mvL l (a : Int) (b : Int) (c : Int)) (c : Int) ((c + b - a : Nat) : Int) (a : Int) = l := by
  have hl : l = l.take a ++ (l.take b).drop a ++ l.drop b := by
    have h1 : l.take a ++ (l.take b).drop a = l.take b := by
      have := List.take_append_drop a (l.take b)
      rwa [List.take_take, Nat.min_eq_left hab] at this
    rw [h1, List.take_append_drop]
  have hA : (l.take a).length = a := by rw [List.length_take]; omega
  have hS : ((l.take b).drop a).length = b - a := by rw [List.length_drop, List.length_take]; omega
  have hB : (l.drop b).length = l.length - b := List.length_drop
  generalize l.take a = A at *
  generalize (l.take b).drop a = S at *
  generalize l.drop b = B at *
  have hlen : l.length = A.length + S.length + B.length := by rw [hl]; simp only [List.length_append]
  have e1 := mvL_nat A S B (c := c) (by omega)
  rw [show ((A.length : Nat) : Int) = (a : Int) by omega, show ((A.length + S.length : Nat) : Int) = (b : Int) by omega] at e1
  rw [hl, e1]
  have ht : ((A ++ B).take c).length = c := by rw [List.length_take, List.length_append]; omega
  have e2 := mvL_nat ((A ++ B).take c) S ((A ++ B).drop c) (c := a) (by simp only [List.length_take, List.length_drop, List.length_append]; omega)
  rw [ht, show ((c + S.length : Nat) : Int) = ((c + b - a : Nat) : Int) by omega, List.take_append_drop, ← hA, List.take_left, List.drop_left] at e2
  rw [← hA]; exact e2
theorem WalkBack_holds (a0 : List Int) (a1 : Int × Int × Int) (w0 : a0.length ≤ maxLen ∧ ∀ a ∈ a0, (Lit.int .i64 a).wf = true) (w1 : (Lit.int .i64 a1.1).wf = true ∧ (Lit.int .i64 a1.2.1).wf = true ∧ (Lit.int .i64 a1.2.2).wf = true) : law10_WalkBack a0 a1 = some true := by
  unfold law10_WalkBack
  rw [few10_eq, bnd_some']
  have hl : (a0.take 300).length ≤ 300 := by simp; omega
  generalize a0.take 300 = l at hl
  obtain ⟨t, t1, t2⟩ := Of_eq l (by omega)
  have hs := st_le l.length a1.1 a1.2.1
  rw [t1, bnd_some', rstretch_eq, bnd_some']
  generalize stA l.length a1.1 = a at *
  generalize stB l.length a1.1 a1.2.1 = b at *
  have h5 : (if a1.2.2 < 0 then some 0 else some a1.2.2 : Option Int) = some (a1.2.2.toNat : Int) := by
    split <;> congr 1 <;> omega
  rw [h5, bnd_some']
  dsimp only
  rw [w64_id (x := (b : Int) - (a : Int)) ⟨by omega, by omega⟩, w64_id (x := (l.length : Int) - ((b : Int) - (a : Int))) ⟨by omega, by omega⟩]
  have h7 : (if (a1.2.2.toNat : Int) > (l.length : Int) - ((b : Int) - (a : Int)) then some ((l.length : Int) - ((b : Int) - (a : Int))) else some (a1.2.2.toNat : Int) : Option Int) = some ((min a1.2.2.toNat (l.length - (b - a)) : Nat) : Int) := by
    split <;> congr 1 <;> omega
  have hc : min a1.2.2.toNat (l.length - (b - a)) ≤ l.length - (b - a) := Nat.min_le_right _ _
  rw [h7, bnd_some']
  generalize min a1.2.2.toNat (l.length - (b - a)) = c at *
  rw [w64_id (x := (c : Int) + (b : Int)) ⟨by omega, by omega⟩, w64_id (x := (c : Int) + (b : Int) - (a : Int)) ⟨by omega, by omega⟩, show (c : Int) + (b : Int) - (a : Int) = ((c + b - a : Nat) : Int) by omega]
  obtain ⟨d, d1, d2⟩ := Move_eq t l t2 (by omega) (a : Int) (b : Int) (c : Int)
  have hmv : (mvL l (a : Int) (b : Int) (c : Int)).length ≤ 100000 := by unfold mvL; simp; omega
  obtain ⟨e, e1, e2⟩ := Move_eq d _ d2 hmv (c : Int) ((c + b - a : Nat) : Int) (a : Int)
  rw [mv_back l hs.1 hs.2 hc] at e2
  obtain ⟨f, f1, f2⟩ := Splice_eq t ⟨none⟩ l [] t2 (.inl ⟨rfl, rfl⟩) (by simp; omega) (a : Int) (b : Int)
  obtain ⟨g, g1, g2⟩ := Slice_eq t l t2 (by omega) (a : Int) (b : Int)
  obtain ⟨k, k1, k2⟩ := Splice_eq f g _ _ f2 g2 (by simp; omega) (a : Int) (a : Int)
  have ha : stA l.length (a : Int) = a := stA_nat (by omega)
  have hb : stB l.length (a : Int) (b : Int) = b := stB_nat hs.1 hs.2
  have hk : (l.take a ++ [] ++ l.drop b).take a ++ (l.take b).drop a ++ (l.take a ++ [] ++ l.drop b).drop a = l := by
    have hA : (l.take a).length = a := by rw [List.length_take]; omega
    have h1 : (l.take a ++ [] ++ l.drop b).take a = l.take a := by
      rw [List.append_nil, List.take_append_of_le_length (by omega), List.take_take, Nat.min_self]
    have h2 : (l.take a ++ [] ++ l.drop b).drop a = l.drop b := by
      rw [List.append_nil, List.drop_append_of_le_length (by omega), List.drop_of_length_le (by omega), List.nil_append]
    have h3 : l.take a ++ (l.take b).drop a = l.take b := by
      have := List.take_append_drop a (l.take b)
      rwa [List.take_take, Nat.min_eq_left hs.1] at this
    rw [h1, h2, h3, List.take_append_drop]
  rw [ha, hb] at k2
  have hal : a ≤ (l.take a ++ [] ++ l.drop b).length := by simp; omega
  rw [stA_nat hal, stB_nat (Nat.le_refl a) hal, hk] at k2
  rw [d1, bnd_some', e1, bnd_some', f1, bnd_some', g1, bnd_some', k1, bnd_some', Fits_eq e _ e2 (by omega), bnd_some', if_pos rfl, Fits_eq k _ k2 (by omega), bnd_some', if_pos rfl, awake10_eq, bnd_some', bnd_some']
end Go.Proofs.Ytkmdfaodbiknlaa.S
