/- Chapter 8's rows, told plainly: loaded, and printed. -/
import Derived.Test.YtbcbggdgkdfciaaG0
import Derived.Test.YtbcbggdgkdfciaaG1xa
import Derived.Test.YtbcbggdgkdfciaaG1xb
import Derived.Test.YtbcbggdgkdfciaaG4xa
import Derived.Test.YtbcbggdgkdfciaaCel
set_option linter.unusedVariables false
namespace Go.Proofs.Ytbcbggdgkdfciaa.S
open Go Go.Sm
theorem cut8_eq (a : List UInt8) (n : Nat) : law08_cut a (n : Int) = some (a.take n) := by
  unfold law08_cut
  by_cases h : a.length > n
  · rw [if_pos (by omega), cut_of ⟨by omega, by omega, by omega⟩, bnd_some']; simp
  · rw [if_neg (by omega), List.take_of_length_le (by omega)]
theorem set_at {α : Type} (l : List α) (x y : α) (r : List α) (n : Nat) (h : n = l.length) : (l ++ x :: r).set n y = l ++ y :: r := by
  subst h
  induction l with
  | nil => rfl
  | cons a l ih => simp
def zc : cell_Cell := ⟨⟨[], 0⟩, ⟨0, 0⟩, false⟩
def kc (w : List UInt8) (j : Nat) : cell_Cell := ⟨tOf (fieldF w j).2.1, ⟨(j : Int), (((fieldF w j).2.2 - j : Nat) : Int)⟩, true⟩
def pc (w : List UInt8) (j : Nat) : ref07_Cell := ⟨bytesAt w (fieldF w j).2.1, (w.take (fieldF w j).2.2).drop j, true⟩
def short (w : List UInt8) (j : Nat) : Bool := decide ((fieldF w j).2.1.length ≤ 400)
theorem kc_eq (w : List UInt8) (hb : w.length ≤ 16384) (j : Nat) (hj : j ≤ w.length) : cell_Load (sField w j) = some (kc w j) := by
  obtain ⟨f1, f2, f3, f4, f5⟩ := fieldF_spec w (by omega) j hj
  exact Load_eq (fieldF w j).2.1 ⟨(j : Int), (((fieldF w j).2.2 - j : Nat) : Int)⟩ (fieldF w j).1 (inA_good f4 (by omega)) (by omega)
theorem rawA (w : List UInt8) (hb : w.length ≤ 16384) (j : Nat) (hj : j ≤ w.length) : bytesA ⟨(j : Int), (((fieldF w j).2.2 - j : Nat) : Int)⟩ w = (w.take (fieldF w j).2.2).drop j := by
  obtain ⟨f1, f2, f3, f4, f5⟩ := fieldF_spec w (by omega) j hj
  have hr : rightA ⟨(j : Int), (((fieldF w j).2.2 - j : Nat) : Int)⟩ w = true := by unfold rightA; simp only [decide_eq_true_eq]; omega
  unfold bytesA
  rw [if_pos hr]
  dsimp only
  rw [show ((j : Int) + (((fieldF w j).2.2 - j : Nat) : Int)).toNat = (fieldF w j).2.2 by omega, Int.toNat_natCast]
theorem kc_plain (w : List UInt8) (hb : w.length ≤ 16384) (j : Nat) (hj : j ≤ w.length) : law07_Plain (kc w j) w = some (pc w j) := by
  obtain ⟨f1, f2, f3, f4, f5⟩ := fieldF_spec w (by omega) j hj
  have h := PlainK_eq (fieldF w j).2.1 ⟨(j : Int), (((fieldF w j).2.2 - j : Nat) : Int)⟩ w f4 (by omega) (by omega)
  rw [rawA w hb j hj] at h
  exact h
theorem kc_print (w : List UInt8) (hb : w.length ≤ 16384) (j : Nat) (hj : j ≤ w.length) : cell_Cell_Print (kc w j) w = some ((w.take (fieldF w j).2.2).drop j) := by
  obtain ⟨f1, f2, f3, f4, f5⟩ := fieldF_spec w (by omega) j hj
  have h := PrintK_eq (fieldF w j).2.1 ⟨(j : Int), (((fieldF w j).2.2 - j : Nat) : Int)⟩ w f4 (by omega) (by omega)
  rw [rawA w hb j hj] at h
  exact h
/-- What a loaded row is: 40 cells at most, of 400 bytes at most. -/
def ldR (w : List UInt8) (i : Nat) : row_Row × Int := if (fs w i).1.length > 40 then (⟨[], 0, false⟩, 6) else if (fs w i).1.all (short w) = true then (⟨(fs w i).1.map (kc w), (sRow w i).fEnd, false⟩, 0) else (⟨[], 0, false⟩, 7)
def ldP (w : List UInt8) (i : Nat) : ref08_Row × Int := if (fs w i).1.length > 40 then (⟨[], 0, false⟩, 6) else if (fs w i).1.all (short w) = true then (⟨(fs w i).1.map (pc w), (sRow w i).fEnd, false⟩, 0) else (⟨[], 0, false⟩, 7)
theorem rowLoad_eq (w : List UInt8) (hb : w.length ≤ 16384) (i : Nat) (hi : i ≤ w.length) : row_Load (sRow w i) = some (ldR w i) := by
  obtain ⟨st1, st2⟩ := starts_spec w (by omega) i hi
  unfold row_Load ldR
  rw [show (sRow w i).fFields = (fs w i).1.map (sField w) from rfl, List.length_map]
  by_cases h40 : (fs w i).1.length > 40
  · rw [if_pos (by omega), if_pos h40]
  · rw [if_neg (by omega), if_neg h40, mkz_of (by omega), bnd_some', Int.toNat_natCast]
    obtain ⟨t, t1, t2⟩ := loop_for (f := row_Load.l1 (sRow w i)) (σ := List cell_Cell) (fun k s => (k, s)) (fs w i).1
      (fun pre s => s = pre.map (kc w) ++ List.replicate ((fs w i).1.length - pre.length) zc ∧ pre.all (short w) = true)
      (fun t => (fs w i).1.all (short w) = true ∧ t = Ex.brk ((fs w i).1.map (kc w)) ∨ (fs w i).1.all (short w) = false ∧ t = Ex.ret (⟨[], 0, false⟩, 7))
      (fun pre j suf s hs hI => by
        obtain ⟨hI1, hI2⟩ := hI
        have hlen : (fs w i).1.length = pre.length + (suf.length + 1) := by rw [hs]; simp
        have hj : j ≤ w.length := st1 j (by rw [hs]; simp)
        have hidx : idx (fs w i).1 (pre.length : Int) = some j := by rw [hs]; exact idx_at pre j suf
        rw [show (fs w i).1.length - pre.length = suf.length + 1 by omega, List.replicate_succ] at hI1
        have hx : idx s (pre.length : Int) = some zc := by rw [hI1]; exact idx_of (by rw [List.getElem?_append_right (by simp)]; simp)
        have hset : s.set pre.length (kc w j) = pre.map (kc w) ++ kc w j :: List.replicate suf.length zc := by rw [hI1]; exact set_at _ _ _ _ _ (by simp)
        have hx2 : idx (s.set pre.length (kc w j)) (pre.length : Int) = some (kc w j) := by rw [hset]; exact idx_of (by rw [List.getElem?_append_right (by simp)]; simp)
        unfold row_Load.l1
        simp only
        rw [show (sRow w i).fFields = (fs w i).1.map (sField w) from rfl, if_pos (by simp; omega), idx_map, hidx]
        simp only [Option.map_some, bnd_some']
        rw [kc_eq w hb j hj, bnd_some', hx, bnd_some', Int.toNat_natCast, hx2, bnd_some', show (kc w j).fText = tOf (fieldF w j).2.1 from rfl, PLen_eq, bnd_some']
        by_cases hsh : short w j = true
        · have hsh' := hsh
          unfold short at hsh'
          simp only [decide_eq_true_eq] at hsh'
          rw [if_neg (by omega), w64_id ⟨by omega, by omega⟩]
          refine .inl ⟨_, rfl, ?_, by simp [hI2, hsh]⟩
          rw [hset, show (fs w i).1.length - (pre ++ [j]).length = suf.length by simp; omega]
          simp
        · have hsh' := hsh
          unfold short at hsh'
          simp only [decide_eq_true_eq] at hsh'
          rw [if_pos (by omega)]
          refine .inr ⟨_, rfl, .inr ⟨?_, rfl⟩⟩
          rw [hs]; simp [hsh])
      (fun s hI => by
        obtain ⟨hI1, hI2⟩ := hI
        refine ⟨Ex.brk s, ?_, .inl ⟨hI2, ?_⟩⟩
        · unfold row_Load.l1
          simp only
          rw [show (sRow w i).fFields = (fs w i).1.map (sField w) from rfl, if_neg (by simp)]
        · rw [hI1]; simp) (s0 := List.replicate (fs w i).1.length zc) ⟨by simp, by simp⟩
    rw [show (⟨⟨[], 0⟩, ⟨0, 0⟩, false⟩ : cell_Cell) = zc from rfl, t1, bnd_some']
    rcases t2 with ⟨q, rfl⟩ | ⟨q, rfl⟩
    · dsimp only; rw [if_pos q]
    · dsimp only; rw [if_neg (by rw [q]; decide)]
theorem refLoad_eq (w : List UInt8) (hb : w.length ≤ 16384) (i : Nat) (hi : i ≤ w.length) : ref08_Load w (rRow w i) = some (ldP w i) := by
  obtain ⟨st1, st2⟩ := starts_spec w (by omega) i hi
  unfold ref08_Load ldP
  rw [show (rRow w i).fFields = (fs w i).1.map (rField w) from rfl, List.length_map]
  by_cases h40 : (fs w i).1.length > 40
  · rw [if_pos (by omega), if_pos h40]
  · rw [if_neg (by omega), if_neg h40]
    obtain ⟨t, t1, t2⟩ := loop_for (f := ref08_Load.l1 w (rRow w i)) (σ := List ref07_Cell) (fun k s => (k, s)) (fs w i).1
      (fun pre s => s = pre.map (pc w) ∧ pre.all (short w) = true)
      (fun t => (fs w i).1.all (short w) = true ∧ t = Ex.brk ((fs w i).1.map (pc w)) ∨ (fs w i).1.all (short w) = false ∧ t = Ex.ret (⟨[], 0, false⟩, 7))
      (fun pre j suf s hs hI => by
        obtain ⟨hI1, hI2⟩ := hI
        have hlen : (fs w i).1.length = pre.length + (suf.length + 1) := by rw [hs]; simp
        have hj : j ≤ w.length := st1 j (by rw [hs]; simp)
        have hidx : idx (fs w i).1 (pre.length : Int) = some j := by rw [hs]; exact idx_at pre j suf
        obtain ⟨f1, f2, f3, f4, f5⟩ := fieldF_spec w (by omega) j hj
        have hcut : cut w (j : Int) (w64 ((j : Int) + (((fieldF w j).2.2 - j : Nat) : Int))) = some ((w.take (fieldF w j).2.2).drop j) := by
          rw [w64_id ⟨by omega, by omega⟩, cut_of ⟨by omega, by omega, by omega⟩]
          rw [show ((j : Int) + (((fieldF w j).2.2 - j : Nat) : Int)).toNat = (fieldF w j).2.2 by omega, Int.toNat_natCast]
        unfold ref08_Load.l1
        simp only
        rw [show (rRow w i).fFields = (fs w i).1.map (rField w) from rfl, if_pos (by simp; omega), idx_map, hidx]
        simp only [Option.map_some, bnd_some']
        rw [show (rField w j).fRaw = ⟨(j : Int), (((fieldF w j).2.2 - j : Nat) : Int)⟩ from rfl, show (rField w j).fBytes = (fieldF w j).2.1 from rfl]
        dsimp only
        by_cases hsh : short w j = true
        · have hsh' := hsh
          unfold short at hsh'
          simp only [decide_eq_true_eq] at hsh'
          rw [if_neg (by omega), text_eq w (by omega) _ f4 (by omega), bnd_some', hcut, bnd_some', app_of (by rw [hI1]; simp; omega), bnd_some', w64_id ⟨by omega, by omega⟩]
          refine .inl ⟨_, rfl, ?_, by simp [hI2, hsh]⟩
          rw [hI1]; simp [pc]
        · have hsh' := hsh
          unfold short at hsh'
          simp only [decide_eq_true_eq] at hsh'
          rw [if_pos (by omega)]
          refine .inr ⟨_, rfl, .inr ⟨?_, rfl⟩⟩
          rw [hs]; simp [hsh])
      (fun s hI => by
        obtain ⟨hI1, hI2⟩ := hI
        refine ⟨Ex.brk s, ?_, .inl ⟨hI2, ?_⟩⟩
        · unfold ref08_Load.l1
          simp only
          rw [show (rRow w i).fFields = (fs w i).1.map (rField w) from rfl, if_neg (by simp)]
        · rw [hI1]) (s0 := []) ⟨rfl, rfl⟩
    rw [t1, bnd_some']
    rcases t2 with ⟨q, rfl⟩ | ⟨q, rfl⟩
    · dsimp only; rw [if_pos q]; rfl
    · dsimp only; rw [if_neg (by rw [q]; decide)]
theorem rowPlain_of (P : cell_Cell → Option ref07_Cell) (a : List UInt8) (hP : ∀ c, law07_Plain c a = P c) (L : List cell_Cell) (M : List ref07_Cell) (e : Int) (h : Bool) (hL : L.length ≤ 1000) (hm : ∀ (k : Nat) (c : cell_Cell), L[k]? = some c → ∃ m, P c = some m ∧ M[k]? = some m) (hl : L.length = M.length) : law08_Plain ⟨L, e, h⟩ a = some ⟨M, e, h⟩ := by
  have hh := loop_fold (f := law08_Plain.l1 ⟨L, e, h⟩ a) (fun k (s : List ref07_Cell) => (k, s)) L (fun pre => M.take pre.length) (t := M)
    (fun pre x suf hs => by
      have hlen : L.length = pre.length + (suf.length + 1) := by rw [hs]; simp
      have hx : L[pre.length]? = some x := by rw [hs]; simp
      obtain ⟨m, m1, m2⟩ := hm _ _ hx
      unfold law08_Plain.l1
      simp only
      rw [if_pos (by omega), idx_of hx, bnd_some', hP, m1, bnd_some', app_of (by simp; omega), bnd_some', w64_id ⟨by omega, by omega⟩]
      have hlt : pre.length < M.length := by omega
      have e2 : M.take (pre.length + 1) = M.take pre.length ++ [m] := by
        rw [List.take_succ_eq_append_getElem hlt]
        rw [List.getElem?_eq_getElem hlt] at m2
        rw [Option.some.inj m2]
      rw [show (pre ++ [x]).length = pre.length + 1 by simp, e2])
    (by
      unfold law08_Plain.l1
      simp only
      rw [if_neg (by omega), hl, List.take_length])
  unfold law08_Plain
  have h' : loop (law08_Plain.l1 ⟨L, e, h⟩ a) (0, []) = some M := by simpa using hh
  rw [h', bnd_some']
theorem ldPlain (w : List UInt8) (hb : w.length ≤ 16384) (i : Nat) (hi : i ≤ w.length) : law08_Plain (ldR w i).1 w = some (ldP w i).1 ∧ (ldR w i).2 = (ldP w i).2 := by
  obtain ⟨st1, st2⟩ := starts_spec w (by omega) i hi
  have hz (e : Int) (h : Bool) : law08_Plain ⟨[], e, h⟩ w = some ⟨[], e, h⟩ := rowPlain_of (fun c => law07_Plain c w) w (fun c => rfl) [] [] e h (by simp) (fun k c hk => by simp at hk) rfl
  unfold ldR ldP
  by_cases h40 : (fs w i).1.length > 40
  · rw [if_pos h40, if_pos h40]; exact ⟨hz 0 false, rfl⟩
  · rw [if_neg h40, if_neg h40]
    by_cases hs : (fs w i).1.all (short w) = true
    · rw [if_pos hs, if_pos hs]
      refine ⟨rowPlain_of (fun c => law07_Plain c w) w (fun c => rfl) _ _ _ _ (by simp; omega) (fun k c hk => ?_) (by simp), rfl⟩
      rw [List.getElem?_map] at hk ⊢
      cases hq : (fs w i).1[k]? with
      | none => rw [hq] at hk; simp at hk
      | some j =>
        rw [hq] at hk
        simp only [Option.map_some, Option.some.injEq] at hk
        subst hk
        exact ⟨pc w j, kc_plain w hb j (st1 j (List.mem_of_getElem? hq)), rfl⟩
    · rw [if_neg hs, if_neg hs]; exact ⟨hz 0 false, rfl⟩
theorem refCells_same (a b : List ref07_Cell) (ha : a.length ≤ 1000000) : ref07_Same a b = some (decide (a = b)) := by
  unfold ref07_Same
  by_cases c : (a.length : Int) = (b.length : Int)
  · rw [if_pos c]
    obtain ⟨t, h1, h2⟩ := loop_same (f := ref07_Same.l1 a b) () a b (by omega) (by omega) (fun i => rfl)
    rw [h1, bnd_some']
    cases t with
    | brk u => simp only at h2 ⊢; rw [decide_eq_true h2]
    | ret v => simp only at h2 ⊢; rw [h2.1, decide_eq_false h2.2]
  · rw [if_neg c, decide_eq_false (fun h => c (by rw [h]))]
theorem refRow_same (a b : ref08_Row) (ha : a.fCells.length ≤ 1000000) : ref08_Same a b = some (decide (a = b)) := by
  unfold ref08_Same
  by_cases c1 : a.fEnd = b.fEnd
  · rw [if_pos c1]
    by_cases c2 : a.fHidden = b.fHidden
    · rw [if_pos (by simpa using c2), refCells_same _ _ ha, bnd_some', bnd_some']
      congr 1
      by_cases c3 : a.fCells = b.fCells
      · rw [decide_eq_true c3, decide_eq_true]
        cases a; cases b; simp_all
      · rw [decide_eq_false c3, decide_eq_false (fun h => c3 (by rw [h]))]
    · rw [if_neg (by simpa using c2), bnd_some', decide_eq_false (fun h => c2 (by rw [h]))]
  · rw [if_neg c1, bnd_some', decide_eq_false (fun h => c1 (by rw [h]))]
/-! ### printed -/
/-- A row's print: the cells' prints, with commas between. -/
def joinP : List (List UInt8) → List UInt8
  | [] => []
  | [x] => x
  | x :: y :: l => x ++ 44 :: joinP (y :: l)
theorem joinP_snoc (l : List (List UInt8)) (x : List UInt8) (h : l ≠ []) : joinP (l ++ [x]) = joinP l ++ 44 :: x := by
  induction l with
  | nil => exact absurd rfl h
  | cons a l ih =>
    cases l with
    | nil => rfl
    | cons b l =>
      have := ih (by simp)
      simp only [List.cons_append, joinP] at this ⊢
      rw [this]; simp
theorem joinP_len (l : List (List UInt8)) (n : Nat) (h : ∀ x ∈ l, x.length ≤ n) : (joinP l).length ≤ l.length * (n + 1) := by
  induction l with
  | nil => simp [joinP]
  | cons a l ih =>
    have ha := h a (by simp)
    have hl := ih (fun x hx => h x (by simp [hx]))
    cases l with
    | nil => simp [joinP]; omega
    | cons b l =>
      simp only [joinP, List.length_append, List.length_cons, Nat.add_mul] at hl ⊢
      omega
theorem rowPrint_of (a : List UInt8) (L : List cell_Cell) (M : List (List UInt8)) (e : Int) (h : Bool) (hL : L.length ≤ 1000) (hm : ∀ (k : Nat) (c : cell_Cell), L[k]? = some c → ∃ m, cell_Cell_Print c a = some m ∧ M[k]? = some m) (hl : L.length = M.length) (hM : ∀ m ∈ M, m.length ≤ 1000000) : row_Row_Print ⟨L, e, h⟩ a = some (joinP M) := by
  have hh := loop_fold (f := row_Row_Print.l1 ⟨L, e, h⟩ a) (fun k (s : List UInt8) => (k, s)) L (fun pre => joinP (M.take pre.length)) (t := joinP M)
    (fun pre x suf hs => by
      have hlen : L.length = pre.length + (suf.length + 1) := by rw [hs]; simp
      have hx : L[pre.length]? = some x := by rw [hs]; simp
      obtain ⟨m, m1, m2⟩ := hm _ _ hx
      have hmb := hM m (List.mem_of_getElem? m2)
      have hjb := joinP_len (M.take pre.length) 1000000 (fun y hy => hM y (List.mem_of_mem_take hy))
      have hjb2 : (joinP (M.take pre.length)).length ≤ 2000000000 := by
        have : (M.take pre.length).length ≤ 1000 := by simp; omega
        have := Nat.mul_le_mul_right (1000000 + 1) this
        omega
      have hlt : pre.length < M.length := by omega
      have e2 : M.take (pre.length + 1) = M.take pre.length ++ [m] := by
        rw [List.take_succ_eq_append_getElem hlt]
        rw [List.getElem?_eq_getElem hlt] at m2
        rw [Option.some.inj m2]
      unfold row_Row_Print.l1
      simp only
      rw [if_pos (by omega), idx_of hx, bnd_some']
      have e3 : (if (pre.length : Int) > 0 then bnd (app 1 (joinP (M.take pre.length)) [44]) fun x18 => some x18 else some (joinP (M.take pre.length)) : Option (List UInt8)) = some (if pre = [] then [] else joinP (M.take pre.length) ++ [44]) := by
        cases pre with
        | nil => rw [if_neg (by simp), if_pos rfl]; simp [joinP]
        | cons p pre => rw [if_pos (by simp), app_of (by simp only [List.length_cons, List.length_nil] at hjb2 ⊢; omega), bnd_some', if_neg (by simp)]
      have hb3 : ((if pre = [] then [] else joinP (M.take pre.length) ++ [44]) : List UInt8).length ≤ 2000000001 := by
        split
        · simp
        · simp only [List.length_append, List.length_cons, List.length_nil]; omega
      rw [e3, bnd_some', m1, bnd_some', app_of (by omega), bnd_some', w64_id ⟨by omega, by omega⟩, show (pre ++ [x]).length = pre.length + 1 by simp, e2]
      cases pre with
      | nil => simp [joinP]
      | cons p pre =>
        rw [if_neg (by simp), joinP_snoc _ _ (by
          intro hc
          have h5 : (M.take (p :: pre).length).length = 0 := by rw [hc]; rfl
          rw [List.length_take, List.length_cons] at h5
          rw [List.length_cons] at hlt
          omega)]
        simp)
    (by
      unfold row_Row_Print.l1
      simp only
      rw [if_neg (by omega), hl, List.take_length])
  unfold row_Row_Print
  have h' : loop (row_Row_Print.l1 ⟨L, e, h⟩ a) (0, []) = some (joinP M) := by simpa [joinP] using hh
  rw [h', bnd_some']
def rawF (w : List UInt8) (j : Nat) : List UInt8 := (w.take (fieldF w j).2.2).drop j
theorem rawJoin (w : List UInt8) (hb : w.length ≤ 1000000) : ∀ n j, w.length ≤ j + n → j ≤ w.length → joinP ((fsF w n j).1.map (rawF w)) = (w.take (fsF w n j).2).drop j := by
  intro n
  induction n with
  | zero => intro j h hj; rfl
  | succ n ih =>
    intro j h hj
    obtain ⟨s1, s2, s3, s4, s5⟩ := fieldF_spec w hb j hj
    have h0 : j ≤ fe w j := s1
    simp only [fsF]
    by_cases c : at_ w 44 (fe w j) = true
    · have hlt := at_in c
      simp only [if_pos c]
      have h0' : fe w j ≤ w.length := s2
      obtain ⟨f1, f2, _⟩ := fsF_spec w hb n (fe w j + 1) (by omega) (by omega)
      have hi := ih (fe w j + 1) (by omega) (by omega)
      have hc : w[fe w j] = 44 := by simpa [at_, List.getElem?_eq_getElem hlt] using c
      have hne : ∃ x l, (fsF w n (fe w j + 1)).1.map (rawF w) = x :: l := by
        cases n with
        | zero => exact ⟨_, _, rfl⟩
        | succ n => simp only [fsF]; split <;> exact ⟨_, _, rfl⟩
      obtain ⟨x, l, hxl⟩ := hne
      rw [List.map_cons, hxl]
      rw [hxl] at hi
      show rawF w j ++ 44 :: joinP (x :: l) = _
      rw [hi]
      have e1 : w.take (fsF w n (fe w j + 1)).2 = w.take (fe w j + 1) ++ (w.take (fsF w n (fe w j + 1)).2).drop (fe w j + 1) := by
        conv => lhs; rw [← List.take_append_drop (fe w j + 1) (w.take (fsF w n (fe w j + 1)).2)]
        rw [List.take_take, Nat.min_eq_left f1]
      conv => rhs; rw [e1, take_one w _ hlt, hc, List.append_assoc, List.drop_append_of_le_length (by rw [List.length_take]; omega)]
      rfl
    · simp only [if_neg c]
      rfl
/-- A loaded row's print is what stood in the file. -/
theorem ldPrint (w : List UInt8) (hb : w.length ≤ 16384) (i : Nat) (hi : i ≤ w.length) (h : (ldR w i).2 = 0) : row_Row_Print (ldR w i).1 w = some ((w.take (fs w i).2).drop i) ∧ (ldR w i).1.fEnd = (sRow w i).fEnd := by
  obtain ⟨st1, st2⟩ := starts_spec w (by omega) i hi
  unfold ldR at h ⊢
  by_cases h40 : (fs w i).1.length > 40
  · rw [if_pos h40] at h; exact absurd h (by decide)
  · rw [if_neg h40] at h ⊢
    by_cases hs : (fs w i).1.all (short w) = true
    · rw [if_pos hs] at h ⊢
      refine ⟨?_, rfl⟩
      rw [rowPrint_of w _ ((fs w i).1.map (rawF w)) _ _ (by simp; omega) (fun k c hk => ?_) (by simp) (fun m hm => ?_)]
      · exact congrArg some (rawJoin w (by omega) w.length i (by omega) hi)
      · rw [List.getElem?_map] at hk ⊢
        cases hq : (fs w i).1[k]? with
        | none => rw [hq] at hk; simp at hk
        | some j =>
          rw [hq] at hk
          simp only [Option.map_some, Option.some.injEq] at hk
          subst hk
          exact ⟨_, kc_print w hb j (st1 j (List.mem_of_getElem? hq)), rfl⟩
      · obtain ⟨j, _, rfl⟩ := List.mem_map.1 hm
        simp [rawF]; omega
    · rw [if_neg hs] at h; exact absurd h (by decide)
end Go.Proofs.Ytbcbggdgkdfciaa.S
