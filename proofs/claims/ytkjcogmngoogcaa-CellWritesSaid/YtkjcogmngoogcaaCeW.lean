/- The law CellWrites. -/
import Derived.Test.YtkjcogmngoogcaaG0
import Derived.Test.YtkjcogmngoogcaaG21xa
import Derived.Test.YtkjcogmngoogcaaG22xa
import Derived.Test.YtkjcogmngoogcaaG27xa
import Derived.Test.YtkjcogmngoogcaaG3xa
import Derived.Test.YtkjcogmngoogcaaCel
import Derived.Test.YtkjcogmngoogcaaPieC
import Derived.Test.YtkjcogmngoogcaaQuoB
set_option linter.unusedVariables false
namespace Go.Proofs.Ytkjcogmngoogcaa.S
open Go Go.Sm
theorem inA_cut {r : List Int} {a : List UInt8} (h : InA r a) (i j : Nat) : InA ((r.take j).drop i) a := fun x hx => h x (List.mem_of_mem_take (List.mem_of_mem_drop hx))
theorem inA_cat {r q : List Int} {a : List UInt8} (h : InA r a) (h2 : InA q a) : InA (r ++ q) a := fun x hx => (List.mem_append.1 hx).elim (h x) (h2 x)
def grown (P1 E C : List Int) : Nat → List Int
  | 0 => P1
  | n + 1 => grown P1 E C n ++ (E ++ C)
theorem grown_in {P1 E C : List Int} {a : List UInt8} (h1 : InA P1 a) (h2 : InA E a) (h3 : InA C a) : ∀ n, InA (grown P1 E C n) a
  | 0 => h1
  | n + 1 => inA_cat (grown_in h1 h2 h3 n) (inA_cat h2 h3)
theorem grown_len (P1 E C : List Int) : ∀ n, (grown P1 E C n).length = P1.length + n * (E.length + C.length)
  | 0 => by simp [grown]
  | n + 1 => by simp only [grown, List.length_append, grown_len P1 E C n, Nat.add_mul]; omega
theorem CellWrites_holds (a0 : List UInt8) (a1 : law07_Cut) (w0 : a0.length ≤ maxLen) (w1 : (Lit.int .i64 a1.fI).wf = true ∧ (Lit.int .i64 a1.fJ).wf = true ∧ True ∧ a1.fMore.length ≤ maxLen) : law07_CellWrites a0 a1 = some true := by
  unfold law07_CellWrites
  rw [show ((300 : Int)) = ((300 : Nat) : Int) from rfl, show ((100 : Int)) = ((100 : Nat) : Int) from rfl, cut7_eq, bnd_some']
  generalize hf : a0.take 300 = f
  have hfl : f.length ≤ 300 := by rw [← hf]; simp; omega
  have hb : f.length ≤ 1000000 := by omega
  rw [New_eq f (by omega), bnd_some']
  dsimp only
  have hfirst : ∃ (P : List Int) (raw : arena_Span) (k : Bool), InA P f ∧ P.length ≤ 300 ∧ (bnd (scan_One f 0) fun x5 => (if (x5.1.fFields.length : Int) > 0 then bnd (idx x5.1.fFields 0) fun x9 => bnd (cell_Load x9) fun x10 => some (x10.fText.fL, x10.fText.fN, x10.fRaw.fAt, x10.fRaw.fN, x10.fKept) else some ([], 0, 0, 0, false) : Option ((List arena_Span) × Int × Int × Int × Bool))) = some (canon P, (P.length : Int), raw.fAt, raw.fN, k) := by
    cases f with
    | nil => exact ⟨[], ⟨0, 0⟩, false, fun x hx => by simp at hx, by simp, by rw [sOne_nil, bnd_some', if_neg (by simp)]; rfl⟩
    | cons c f =>
      have hone := sOne_eq (c :: f) hb 0 (by simp)
      rw [show (((0 : Nat)) : Int) = 0 from rfl] at hone
      obtain ⟨L, hL⟩ := fs_head (c :: f) 0
      obtain ⟨f1, f2, f3, f4, f5⟩ := fieldF_spec (c :: f) hb 0 (by omega)
      have hin : InA (fieldF (c :: f) 0).2.1 (c :: f) := f4
      have hl := Load_eq (fieldF (c :: f) 0).2.1 ⟨((0 : Nat) : Int), (((fieldF (c :: f) 0).2.2 - 0 : Nat) : Int)⟩ (fieldF (c :: f) 0).1 (inA_good hin hb) (by omega)
      refine ⟨(fieldF (c :: f) 0).2.1, ⟨((0 : Nat) : Int), (((fieldF (c :: f) 0).2.2 - 0 : Nat) : Int)⟩, true, hin, by omega, ?_⟩
      rw [hone, bnd_some']
      dsimp only
      rw [show (sRow (c :: f) 0).fFields = (fs (c :: f) 0).1.map (sField (c :: f)) from rfl, hL, if_pos (by simp), List.map_cons, show idx (sField (c :: f) 0 :: L.map (sField (c :: f))) 0 = some (sField (c :: f) 0) from rfl, bnd_some', show sField (c :: f) 0 = ⟨⟨((0 : Nat) : Int), (((fieldF (c :: f) 0).2.2 - 0 : Nat) : Int)⟩, (fieldF (c :: f) 0).1, canon (fieldF (c :: f) 0).2.1⟩ from rfl, hl, bnd_some']
      rfl
  obtain ⟨P, raw, k, hP, hPl, hfirst⟩ := hfirst
  have hone : ∃ y, scan_One f 0 = some y := by
    cases hx : scan_One f 0 with
    | none => rw [hx] at hfirst; cases hfirst
    | some y => exact ⟨y, rfl⟩
  obtain ⟨y, hy⟩ := hone
  rw [hy, bnd_some'] at hfirst
  rw [hy, bnd_some', hfirst, bnd_some', cut7_eq, bnd_some']
  dsimp only
  generalize hmo : a1.fMore.take 100 = mo
  have hml : mo.length ≤ 100 := by rw [← hmo]; simp; omega
  have hadd : ∃ s a', addA mo f = (s, 0, a') ∧ a'.length ≤ 400 ∧ rightA s a' = true ∧ s.fN = mo.length ∧ ∃ m, a' = f ++ m := by
    unfold addA
    by_cases h0 : mo.length = 0
    · rw [if_pos h0]; exact ⟨_, _, rfl, by omega, by simp [rightA], by simp [h0], [], by simp⟩
    · rw [if_neg h0, if_neg (by omega)]; exact ⟨_, _, rfl, by simp; omega, (bytesA_add f mo).2, rfl, mo, rfl⟩
  obtain ⟨s, a, had, hal, hsr, hsn, m, hm⟩ := hadd
  have hPa : InA P a := by rw [hm]; exact inA_app hP m
  have hPg := inA_good hPa (by omega)
  rw [Add_eq mo f (by omega) (by omega), bnd_some', had]
  dsimp only
  have htP : (⟨canon P, (P.length : Int)⟩ : piece_Text) = tOf P := rfl
  rw [htP, Slice_eq P hPg (by omega), bnd_some']
  generalize hP1 : (P.take (pl P.length a1.fJ)).drop (pl P.length a1.fI) = P1
  have hP1a : InA P1 a := by rw [← hP1]; exact inA_cut hPa _ _
  have hP1l : P1.length ≤ 300 := by rw [← hP1]; simp; omega
  obtain ⟨o1, o2, o3⟩ := Of1_eq s a hsr (by omega)
  have hEl : (exp1 s).length ≤ 100 := by rw [show (exp1 s).length = s.fN.toNat from rangeI_len _ _]; omega
  generalize hC : (P.take (pl P.length 2)).drop (pl P.length 0) = C
  have hCa : InA C a := by rw [← hC]; exact inA_cut hPa _ _
  have hCl : C.length ≤ 2 := by rw [← hC]; simp [pl]; omega
  have hn : ∃ n : Nat, ((ub (rem (a1.fTimes.toNat : Int) 39)).toNat : Int) = n ∧ n ≤ 39 := by
    refine ⟨_, rfl, ?_⟩
    have h1 := u8_rem a1.fTimes 39
    have h2 : rem (a1.fTimes.toNat : Int) 39 = (a1.fTimes.toNat : Int) % 40 := by
      unfold rem
      rw [Int.tmod_eq_emod_of_nonneg (by omega)]
      rfl
    have h3 : rem (a1.fTimes.toNat : Int) 39 = ((ub (rem (a1.fTimes.toNat : Int) 39)).toNat : Int) := by
      first | exact h1 | exact h1.symm | (rw [← h1, h2]; omega)
    omega
  obtain ⟨n, hn1, hn2⟩ := hn
  have hloop := loop_nat (f := law07_CellWrites.l1 a1 (canon P, (P.length : Int), raw.fAt, raw.fN, k) (s, 0, a)) (fun i (Q : List Int) => (i, canon Q, (Q.length : Int))) n (grown P1 (exp1 s) C) (t := (canon (grown P1 (exp1 s) C n), ((grown P1 (exp1 s) C n).length : Int)))
    (fun i hi => by
      have hQa := grown_in hP1a o2 hCa i
      have hQl := grown_len P1 (exp1 s) C i
      have hmul : i * ((exp1 s).length + C.length) ≤ 39 * 102 := Nat.mul_le_mul (by omega) (by omega)
      have hcat := Concat_eq [grown P1 (exp1 s) C i, exp1 s, C] (fun r hr => by
        simp only [List.mem_cons, List.not_mem_nil, or_false] at hr
        rcases hr with rfl | rfl | rfl
        · exact inA_good hQa (by omega)
        · exact inA_good o2 (by omega)
        · exact inA_good hCa (by omega)) (by simp; omega) (by simp)
      unfold law07_CellWrites.l1
      dsimp only
      rw [hn1, if_pos (by omega), o1, bnd_some', htP, Slice_eq P hPg (by omega), hC, bnd_some', show (⟨canon (grown P1 (exp1 s) C i), ((grown P1 (exp1 s) C i).length : Int)⟩ : piece_Text) = tOf (grown P1 (exp1 s) C i) from rfl]
      simp only [List.map_cons, List.map_nil] at hcat
      rw [hcat, bnd_some', w64_id ⟨by omega, by omega⟩]
      simp [tOf, grown])
    (by
      unfold law07_CellWrites.l1
      dsimp only
      rw [hn1, if_neg (by omega)])
  rw [show (tOf P1).fL = canon P1 from rfl, show (tOf P1).fN = (P1.length : Int) from rfl, show grown P1 (exp1 s) C 0 = P1 from rfl] at *
  rw [hloop, bnd_some']
  have hQa := grown_in hP1a o2 hCa n
  have hQl := grown_len P1 (exp1 s) C n
  have hmul : n * ((exp1 s).length + C.length) ≤ 39 * 102 := Nat.mul_le_mul (by omega) (by omega)
  generalize grown P1 (exp1 s) C n = Q at hQa hQl
  have hQb := bytesAt_in hQa
  rw [show (⟨canon Q, (Q.length : Int)⟩ : piece_Text) = tOf Q from rfl, Flat_eq (tOf Q) Q a rfl hQa (by omega) (by omega), bnd_some']
  unfold cell_Cell_Write
  rw [PLen_eq, bnd_some', hQb]
  by_cases h400 : Q.length > 400
  · rw [if_pos (by omega), bnd_some', if_pos (by omega)]
    dsimp only
    rw [if_pos rfl, show cell_Cell_Empty ⟨⟨[], 0⟩, ⟨0, 0⟩, false⟩ = some true from rfl, bnd_some', if_pos rfl, if_neg (by simp), awake7_eq, bnd_some', bnd_some']
  · rw [if_neg (by omega)]
    rcases Tidy_eq Q a hQa (by omega) (by omega) with ⟨t1, t2⟩ | ⟨t1, x, a', t2, t3, t4, t5, t6, _, _⟩ | ⟨t1, t2, t3⟩
    · rw [t2, bnd_some']
      dsimp only
      rw [if_pos rfl, show cell_Of (tOf Q) = some ⟨tOf Q, ⟨0, 0⟩, false⟩ from rfl, bnd_some', bnd_some', if_neg (by omega)]
      dsimp only
      rw [if_pos rfl, PlainW_eq _ _ _ hQa (by omega) (by omega), bnd_some', if_pos rfl, PSpans_eq _ (by rw [show (tOf Q).fL = canon Q from rfl]; omega), bnd_some', show (tOf Q).fL = canon Q from rfl, if_pos (by omega), awake7_eq, bnd_some', bnd_some']
    · have hpos : 1 ≤ x.fN := by
        have := canon_len Q
        omega
      have hxl : (exp1 x).length = x.fN.toNat := rangeI_len _ _
      rw [t2, bnd_some']
      dsimp only
      rw [if_pos rfl, show cell_Of (tOf (exp1 x)) = some ⟨tOf (exp1 x), ⟨0, 0⟩, false⟩ from rfl, bnd_some', bnd_some', if_neg (by omega)]
      dsimp only
      rw [if_pos rfl, PlainW_eq _ _ _ t3 t6 (by omega), bnd_some', t4, if_pos rfl, PSpans_eq _ (by rw [show (tOf (exp1 x)).fL = canon (exp1 x) from rfl, exp1_canon hpos]; simp), bnd_some', show (tOf (exp1 x)).fL = canon (exp1 x) from rfl, exp1_canon hpos, if_pos (by simp), awake7_eq, bnd_some', bnd_some']
    · omega
end Go.Proofs.Ytkjcogmngoogcaa.S
