/- Chapter 11's grids, told plainly: loaded by the program, and by the document. -/
import Derived.Test.YtpmhiiemklhbhaaG0
import Derived.Test.YtpmhiiemklhbhaaG1xa
import Derived.Test.YtpmhiiemklhbhaaG1xb
import Derived.Test.YtpmhiiemklhbhaaTvR
set_option linter.unusedVariables false
namespace Go.Proofs.Ytpmhiiemklhbhaa.S
open Go Go.Sm
theorem cut11_eq (a : List UInt8) (n : Nat) : law11_Cut a (n : Int) = some (a.take n) := by
  unfold law11_Cut
  by_cases h : a.length > n
  · rw [if_pos (by omega), cut_of ⟨by omega, by omega, by omega⟩, bnd_some']; simp
  · rw [if_neg (by omega), List.take_of_length_le (by omega)]
theorem rsF_le (b : List UInt8) (hb : b.length ≤ 2000000) : ∀ n i, ∀ x ∈ rsF b n i, x ≤ b.length := by
  intro n
  induction n with
  | zero => intro i x hx; cases hx
  | succ n ih =>
    intro i x hx
    simp only [rsF] at hx
    by_cases c : i < b.length
    · rw [if_pos c] at hx
      rcases List.mem_cons.1 hx with rfl | hx
      · omega
      · exact ih _ _ hx
    · rw [if_neg c] at hx; cases hx
theorem rs_le (b : List UInt8) (hb : b.length ≤ 2000000) : ∀ x ∈ rs b, x ≤ b.length := rsF_le b hb _ _
def zr : row_Row := ⟨[], 0, false⟩
def enE (w : List UInt8) (i : Nat) : Int := (endF w (fs w i).2).1
def rowsW (w : List UInt8) : List row_Row := (rs w).map fun i => (ldR w i).1
def prowsW (w : List UInt8) : List ref08_Row := (rs w).map fun i => (ldP w i).1
def okW (w : List UInt8) (l : List Nat) : Bool := l.all fun i => (ldR w i).2 == 0
def tailE (w : List UInt8) (l : List Nat) : Bool := match l.getLast? with
  | none => false
  | some i => !(enE w i == 0)
def firstE (w : List UInt8) : List Nat → Int
  | [] => 2
  | i :: l => if enE w i = 0 then firstE w l else enE w i
theorem firstE_cons (w : List UInt8) (i : Nat) (l : List Nat) : firstE w (i :: l) = if enE w i = 0 then firstE w l else enE w i := rfl
theorem tailE_snoc (w : List UInt8) (l : List Nat) (i : Nat) : tailE w (l ++ [i]) = !(enE w i == 0) := by simp [tailE]
theorem refused_eq (c : Int) : grid_refused c = some (⟨⟨none⟩, false, 2⟩, c, []) := rfl
theorem ld_same (w : List UInt8) (i : Nat) : (ldP w i).2 = (ldR w i).2 := by
  unfold ldR ldP
  split
  · rfl
  · split <;> rfl
theorem gridLoop (w : List UInt8) (hb : w.length ≤ 4096) (l : List Nat) (hl : ∀ x ∈ l, x ≤ w.length) (hn : l.length ≤ 400) :
    ∃ t, loop (grid_Load.l2 (l.map (sRow w))) (0, 0, List.replicate l.length zr) = some t ∧ ((okW w l = true ∧ t = Ex.brk (l.map fun i => (ldR w i).1)) ∨ (okW w l = false ∧ ∃ c, c ≠ 0 ∧ t = Ex.ret (Sum.inl (⟨⟨none⟩, false, 2⟩, c, [])))) := by
  refine loop_for (f := grid_Load.l2 (l.map (sRow w))) (σ := List row_Row) (fun k s => (0, k, s)) l
    (fun pre s => s = pre.map (fun i => (ldR w i).1) ++ List.replicate (l.length - pre.length) zr ∧ okW w pre = true)
    (fun t => (okW w l = true ∧ t = Ex.brk (l.map fun i => (ldR w i).1)) ∨ (okW w l = false ∧ ∃ c, c ≠ 0 ∧ t = Ex.ret (Sum.inl (⟨⟨none⟩, false, 2⟩, c, []))))
    (fun pre j suf s hs hI => ?_) (fun s hI => ?_) ⟨by simp, rfl⟩
  · obtain ⟨hI1, hI2⟩ := hI
    have hlen : l.length = pre.length + (suf.length + 1) := by rw [hs]; simp
    have hj : j ≤ w.length := hl j (by rw [hs]; simp)
    have hidx : idx l (pre.length : Int) = some j := by rw [hs]; exact idx_at pre j suf
    rw [show l.length - pre.length = suf.length + 1 by omega, List.replicate_succ] at hI1
    have hx : idx s (pre.length : Int) = some zr := by rw [hI1]; exact idx_of (by rw [List.getElem?_append_right (by simp)]; simp)
    have hset : s.set pre.length (ldR w j).1 = pre.map (fun i => (ldR w i).1) ++ (ldR w j).1 :: List.replicate suf.length zr := by rw [hI1]; exact set_at _ _ _ _ _ (by simp)
    unfold grid_Load.l2
    dsimp only
    rw [if_pos (by simp; omega), idx_map, hidx]
    simp only [Option.map_some, bnd_some']
    rw [rowLoad_eq w (by omega) j hj, bnd_some', hx, bnd_some', Int.toNat_natCast, refused_eq]
    by_cases c : (ldR w j).2 = 0
    · rw [if_pos c, c, w64_id ⟨by omega, by omega⟩]
      refine .inl ⟨_, rfl, ?_, ?_⟩
      · rw [hset, show l.length - (pre ++ [j]).length = suf.length by simp; omega]; simp
      · unfold okW at hI2 ⊢; rw [List.all_append, hI2]; simp [c]
    · rw [if_neg c]
      refine .inr ⟨_, rfl, .inr ⟨?_, _, c, rfl⟩⟩
      unfold okW; rw [hs, List.all_append]; simp [c]
  · obtain ⟨hI1, hI2⟩ := hI
    refine ⟨Ex.brk s, ?_, .inl ⟨hI2, ?_⟩⟩
    · unfold grid_Load.l2
      dsimp only
      rw [if_neg (by simp)]
    · rw [hI1]; simp
theorem endsLoop (w : List UInt8) (l : List Nat) (z : scan_Row) (hn : l.length ≤ 400) :
    ∃ t, loop (grid_ends.l1 (l.map (sRow w)) z) 0 = some t ∧ ((firstE w l = 2 ∧ t = Ex.brk ()) ∨ t = Ex.ret ((!(z.fEnd == 0)), firstE w l)) := by
  have key : ∀ (suf pre : List Nat), l = pre ++ suf → ∃ t, loop (grid_ends.l1 (l.map (sRow w)) z) (pre.length : Int) = some t ∧ ((firstE w suf = 2 ∧ t = Ex.brk ()) ∨ t = Ex.ret ((!(z.fEnd == 0)), firstE w suf)) := by
    intro suf
    induction suf with
    | nil =>
      intro pre h
      refine ⟨_, loop_done (t := Ex.brk ()) ?_, .inl ⟨rfl, rfl⟩⟩
      unfold grid_ends.l1
      rw [if_neg (by rw [h]; simp)]
    | cons x suf ih =>
      intro pre h
      have hlen : l.length = pre.length + (suf.length + 1) := by rw [h]; simp
      have hx : idx (l.map (sRow w)) (pre.length : Int) = some (sRow w x) := by rw [idx_map, h, idx_at]; rfl
      have hu : grid_ends.l1 (l.map (sRow w)) z (pre.length : Int) = if enE w x = 0 then some (Lp.next ((pre.length : Int) + 1)) else some (Lp.done (Ex.ret ((!(z.fEnd == 0)), enE w x))) := by
        unfold grid_ends.l1
        rw [if_pos (by simp; omega), hx, bnd_some', w64_id ⟨by omega, by omega⟩]
        rfl
      unfold firstE
      by_cases c : enE w x = 0
      · rw [if_pos c] at hu ⊢
        obtain ⟨t, t1, t2⟩ := ih (pre ++ [x]) (by rw [h]; simp)
        exact ⟨t, loop_next hu (by simpa using t1), t2⟩
      · rw [if_neg c] at hu ⊢
        exact ⟨_, loop_done hu, .inr rfl⟩
  exact key l [] rfl
theorem ends_eq (w : List UInt8) (l : List Nat) (hn : l.length ≤ 400) : grid_ends (l.map (sRow w)) = some (tailE w l, firstE w l) := by
  unfold grid_ends
  by_cases h : l = []
  · subst h; rfl
  · have hp : 0 < l.length := List.length_pos_iff.2 h
    rw [List.length_map, if_neg (by omega), w64_id ⟨by omega, by omega⟩]
    obtain ⟨q, x, rfl⟩ : ∃ q x, l = q ++ [x] := ⟨l.dropLast, l.getLast h, (List.dropLast_concat_getLast h).symm⟩
    rw [show ((q ++ [x]).length : Int) - 1 = (q.length : Int) by simp, idx_map, idx_at]
    obtain ⟨t, t1, t2⟩ := endsLoop w (q ++ [x]) (sRow w x) hn
    simp only [Option.map_some, bnd_some']
    rw [t1, bnd_some', tailE_snoc]
    rcases t2 with ⟨q1, rfl⟩ | rfl
    · dsimp only; rw [q1]; rfl
    · rfl
theorem refLoop (w : List UInt8) (hb : w.length ≤ 4096) (l : List Nat) (hl : ∀ x ∈ l, x ≤ w.length) (hn : l.length ≤ 400) :
    ∃ t, loop (ref11_Load.l1 w (l.map (rRow w))) (0, false, []) = some t ∧ ((okW w l = true ∧ t = Ex.brk (tailE w l, l.map fun i => (ldP w i).1)) ∨ (okW w l = false ∧ ∃ c, c ≠ 0 ∧ t = Ex.ret (⟨[], false, 2⟩, c))) := by
  refine loop_for (f := ref11_Load.l1 w (l.map (rRow w))) (σ := Bool × List ref08_Row) (fun k s => (k, s.1, s.2)) l
    (fun pre s => s = (tailE w pre, pre.map (fun i => (ldP w i).1)) ∧ okW w pre = true)
    (fun t => (okW w l = true ∧ t = Ex.brk (tailE w l, l.map fun i => (ldP w i).1)) ∨ (okW w l = false ∧ ∃ c, c ≠ 0 ∧ t = Ex.ret (⟨[], false, 2⟩, c)))
    (fun pre j suf s hs hI => ?_) (fun s hI => ?_) (s0 := (false, [])) ⟨rfl, rfl⟩
  · obtain ⟨hI1, hI2⟩ := hI
    have hlen : l.length = pre.length + (suf.length + 1) := by rw [hs]; simp
    have hj : j ≤ w.length := hl j (by rw [hs]; simp)
    have hidx : idx l (pre.length : Int) = some j := by rw [hs]; exact idx_at pre j suf
    subst hI1
    unfold ref11_Load.l1
    dsimp only
    rw [if_pos (by simp; omega), idx_map, hidx]
    simp only [Option.map_some, bnd_some']
    rw [refLoad_eq w (by omega) j hj, bnd_some', ld_same]
    by_cases c : (ldR w j).2 = 0
    · rw [if_pos c, app_of (by simp; omega), bnd_some', w64_id ⟨by omega, by omega⟩]
      refine .inl ⟨(_, _), rfl, ?_, ?_⟩
      · rw [tailE_snoc, List.map_append]; rfl
      · unfold okW at hI2 ⊢; rw [List.all_append, hI2]; simp [c]
    · rw [if_neg c]
      refine .inr ⟨_, rfl, .inr ⟨?_, _, c, rfl⟩⟩
      unfold okW; rw [hs, List.all_append]; simp [c]
  · obtain ⟨hI1, hI2⟩ := hI
    subst hI1
    refine ⟨_, ?_, .inl ⟨hI2, rfl⟩⟩
    unfold ref11_Load.l1
    dsimp only
    rw [if_neg (by simp)]
theorem refBack (w : List UInt8) (l : List Nat) (hn : l.length ≤ 400) : ∀ (k : Nat), k ≤ l.length → loop (ref11_Load.l2 (l.map (rRow w))) ((k : Int) - 1, firstE w (l.drop k)) = some (firstE w l) := by
  intro k
  induction k with
  | zero =>
    intro _
    refine loop_done ?_
    unfold ref11_Load.l2
    dsimp only
    rw [if_neg (by omega)]; rfl
  | succ k ih =>
    intro hk
    refine loop_next ?_ (ih (by omega))
    have hd : l.drop k = l[k] :: l.drop (k + 1) := List.drop_eq_getElem_cons (by omega)
    have hx : idx (l.map (rRow w)) ((k + 1 : Nat) - 1 : Int) = some (rRow w l[k]) := by
      rw [show ((k + 1 : Nat) : Int) - 1 = (k : Int) by omega, idx_map, idx_of (List.getElem?_eq_getElem (by omega))]; rfl
    unfold ref11_Load.l2
    dsimp only
    rw [if_pos (by omega), hx, bnd_some', w64_id ⟨by omega, by omega⟩, hd, show ((k + 1 : Nat) : Int) - 1 - 1 = (k : Int) - 1 by omega]
    show (bnd (if enE w l[k] = 0 then _ else _) _) = _
    rw [firstE_cons]
    by_cases c : enE w l[k] = 0
    · rw [if_pos c, if_pos c]; rfl
    · rw [if_neg c, if_neg c]; rfl
def badG : grid_Grid := ⟨⟨none⟩, false, 2⟩
def isBad (w : List UInt8) : Bool := decide ((rs w).length > 400) || !(okW w (rs w))
theorem load_bad (w : List UInt8) (hb : w.length ≤ 4096) (h : isBad w = true) : (∃ c, c ≠ 0 ∧ grid_Load w = some (.inl (badG, c, []))) ∧ ∃ c, c ≠ 0 ∧ ref11_Load w = some (⟨[], false, 2⟩, c) := by
  unfold grid_Load ref11_Load
  rw [New_eq w hb, bnd_some', sAll_eq w (by omega), rAll_eq w (by omega), if_neg (by omega : ¬ (w.length : Int) > 4096)]
  dsimp only
  rw [if_pos rfl, bnd_some', bnd_some', List.length_map, List.length_map]
  by_cases c : (rs w).length > 400
  · rw [if_pos (by omega), if_pos (by omega), refused_eq, bnd_some']
    exact ⟨⟨6, by decide, rfl⟩, 6, by decide, rfl⟩
  · rw [if_neg (by omega), if_neg (by omega), mkz_of (by omega), bnd_some', Int.toNat_natCast]
    obtain ⟨t, t1, t2⟩ := gridLoop w hb (rs w) (rs_le w (by omega)) (by omega)
    obtain ⟨u, u1, u2⟩ := refLoop w hb (rs w) (rs_le w (by omega)) (by omega)
    have hk : okW w (rs w) = false := by unfold isBad at h; simpa [c] using h
    rw [hk] at t2 u2
    obtain ⟨_, x, x0, rfl⟩ := t2.resolve_left (fun h => by cases h.1)
    obtain ⟨_, y, y0, rfl⟩ := u2.resolve_left (fun h => by cases h.1)
    rw [show (⟨[], 0, false⟩ : row_Row) = zr from rfl, t1, u1, bnd_some', bnd_some']
    exact ⟨⟨x, x0, rfl⟩, y, y0, rfl⟩
theorem load_ok (w : List UInt8) (hb : w.length ≤ 4096) (h : isBad w = false) : ∃ t, IsT t (rowsW w) ∧ grid_Load w = some (.inl (⟨t, tailE w (rs w), firstE w (rs w)⟩, 0, w)) ∧ ref11_Load w = some (⟨prowsW w, tailE w (rs w), firstE w (rs w)⟩, 0) := by
  have c : ¬ (rs w).length > 400 := fun c => by unfold isBad at h; simp [c] at h
  have hk : okW w (rs w) = true := by unfold isBad at h; simpa [c] using h
  obtain ⟨q, q1, q2⟩ := Of_eq (rowsW w) (by unfold rowsW; simp; omega)
  refine ⟨q, q2, ?_⟩
  unfold grid_Load ref11_Load
  rw [New_eq w hb, bnd_some', sAll_eq w (by omega), rAll_eq w (by omega), if_neg (by omega : ¬ (w.length : Int) > 4096)]
  dsimp only
  rw [if_pos rfl, bnd_some', bnd_some', List.length_map, List.length_map, if_neg (by omega), if_neg (by omega), mkz_of (by omega), bnd_some', Int.toNat_natCast]
  obtain ⟨t, t1, t2⟩ := gridLoop w hb (rs w) (rs_le w (by omega)) (by omega)
  obtain ⟨u, u1, u2⟩ := refLoop w hb (rs w) (rs_le w (by omega)) (by omega)
  rw [hk] at t2 u2
  obtain ⟨_, rfl⟩ := t2.resolve_right (fun h => by cases h.1)
  obtain ⟨_, rfl⟩ := u2.resolve_right (fun h => by cases h.1)
  have hbk := refBack w (rs w) (by omega) (rs w).length (Nat.le_refl _)
  rw [List.drop_length] at hbk
  rw [show (⟨[], 0, false⟩ : row_Row) = zr from rfl, t1, u1, bnd_some', bnd_some']
  dsimp only
  rw [show (rs w).map (fun i => (ldR w i).1) = rowsW w from rfl, q1, bnd_some', ends_eq w _ (by omega), bnd_some', w64_id ⟨by omega, by omega⟩]
  rw [show firstE w [] = 2 from rfl] at hbk
  rw [hbk, bnd_some']
  exact ⟨rfl, rfl⟩
theorem begun_bad (w : List UInt8) (hb : w.length ≤ 4096) (h : isBad w = true) : law11_Begun w = some (.inl (badG, ⟨[], false, 2⟩, false, [])) := by
  obtain ⟨⟨c, c0, e1⟩, d, d0, e2⟩ := load_bad w hb h
  unfold law11_Begun
  rw [e1, bnd_some']
  dsimp only
  rw [e2, bnd_some', if_neg c0]; rfl
theorem begun_ok (w : List UInt8) (hb : w.length ≤ 4096) (h : isBad w = false) : ∃ t, IsT t (rowsW w) ∧ law11_Begun w = some (.inl (⟨t, tailE w (rs w), firstE w (rs w)⟩, ⟨prowsW w, tailE w (rs w), firstE w (rs w)⟩, true, w)) := by
  obtain ⟨t, t1, e1, e2⟩ := load_ok w hb h
  refine ⟨t, t1, ?_⟩
  unfold law11_Begun
  rw [e1, bnd_some']
  dsimp only
  rw [e2, bnd_some', if_pos rfl]; rfl
theorem rowsW_len (w : List UInt8) : (rowsW w).length = (rs w).length := by simp [rowsW]
theorem isBad_len {w : List UInt8} (h : isBad w = false) : (rs w).length ≤ 400 := by unfold isBad at h; simp at h; omega
end Go.Proofs.Ytpmhiiemklhbhaa.S
