/- The law CellSame. -/
import Derived.Test.YtkjcogmngoogcaaG0
import Derived.Test.YtkjcogmngoogcaaG21xa
import Derived.Test.YtkjcogmngoogcaaG22xa
import Derived.Test.YtkjcogmngoogcaaG23xa
import Derived.Test.YtkjcogmngoogcaaCel
set_option linter.unusedVariables false
namespace Go.Proofs.Ytkjcogmngoogcaa.S
open Go Go.Sm
theorem equal_eq (a b : List UInt8) : bytes_Equal a b = some (a == b) := rfl
def Gc (w : List UInt8) (c : cell_Cell) : Prop := ∃ r raw k, c = ⟨tOf r, raw, k⟩ ∧ InA r w ∧ r.length ≤ 1000000
noncomputable def pl (w : List UInt8) (c : cell_Cell) : ref07_Cell := (law07_Plain c w).getD ⟨[], [], false⟩
theorem pl_eq {w : List UInt8} (hw : w.length ≤ 16384) {c : cell_Cell} (h : Gc w c) : law07_Plain c w = some (pl w c) := by
  obtain ⟨r, raw, k, rfl, h1, h2⟩ := h
  have := Plain_eq r raw k w h1 hw h2
  unfold pl
  rw [this]; rfl
theorem CSame_eq {w : List UInt8} (hw : w.length ≤ 16384) {c d : cell_Cell} (hc : Gc w c) (hd : Gc w d) : cell_Same c d w = some (decide (pl w c = pl w d)) := by
  obtain ⟨r, raw, k, rfl, h1, h2⟩ := hc
  obtain ⟨r', raw', k', rfl, h1', h2'⟩ := hd
  have e1 := Plain_eq r raw k w h1 hw h2
  have e2 := Plain_eq r' raw' k' w h1' hw h2'
  unfold pl
  rw [e1, e2]
  unfold cell_Same
  by_cases hk : k = k'
  · subst hk
    rw [if_pos (by simp), CBytes_eq r raw k w h1 hw h2, bnd_some', CBytes_eq r' raw' k w h1' hw h2', bnd_some', equal_eq, bnd_some', bnd_some']
    by_cases hb : bytesAt w r = bytesAt w r'
    · rw [if_neg (by simp [hb])]
      cases k with
      | true =>
        dsimp only
        rw [if_pos rfl, Bytes_eq _ _ (by omega), bnd_some', Bytes_eq _ _ (by omega), bnd_some', equal_eq, bnd_some', bnd_some']
        simp only [if_true, Option.getD_some, hb, Option.some.injEq]
        by_cases hr : bytesA raw w = bytesA raw' w
        · rw [hr]; simp
        · rw [decide_eq_false (fun h => hr (by injection h))]
          simpa using hr
      | false =>
        dsimp only
        rw [if_neg (by simp), bnd_some', hb]
        simp
    · rw [if_pos (by simp [hb])]
      simp only [Option.getD_some]
      rw [decide_eq_false (fun h => hb (by injection h))]
  · rw [if_neg (by simpa using hk), bnd_some', if_pos rfl]
    simp only [Option.getD_some]
    rw [decide_eq_false (fun h => hk (by injection h))]
theorem cellsIn (w : List UInt8) (hw : w.length ≤ 300) (i : Nat) (hi : i ≤ w.length) (s0 : List cell_Cell) (hs0 : ∀ c ∈ s0, Gc w c) (hl0 : s0.length ≤ 1000000) :
    ∃ t, loop (law07_CellSame.l4 (sRow w i)) (0, s0) = some t ∧ (∀ c ∈ t, Gc w c) ∧ t.length ≤ s0.length + 301 := by
  obtain ⟨st1, st2⟩ := starts_spec w (by omega) i hi
  obtain ⟨f1, f2, f3, f4, f5, f6⟩ := fsF_spec w (by omega) w.length i (by omega) hi
  have f6' : (fs w i).1.length ≤ w.length + 1 - i := f6
  refine loop_for (f := law07_CellSame.l4 (sRow w i)) (σ := List cell_Cell) (fun k s => (k, s)) (fs w i).1 (fun pre s => (∀ c ∈ s, Gc w c) ∧ s.length = s0.length + pre.length) _ (fun pre j suf s hs hI => ?_) (fun s hI => ?_) ⟨hs0, by simp⟩
  · have hlen : (fs w i).1.length = pre.length + (suf.length + 1) := by rw [hs]; simp
    have hj : j ≤ w.length := st1 j (by rw [hs]; simp)
    have hidx : idx (fs w i).1 (pre.length : Int) = some j := by rw [hs]; exact idx_at pre j suf
    obtain ⟨g1, g2, g3, g4, g5⟩ := fieldF_spec w (by omega) j hj
    have hl := Load_eq (fieldF w j).2.1 ⟨(j : Int), (((fieldF w j).2.2 - j : Nat) : Int)⟩ (fieldF w j).1 (inA_good g4 (by omega)) (by omega)
    refine .inl ⟨s ++ [⟨tOf (fieldF w j).2.1, ⟨(j : Int), (((fieldF w j).2.2 - j : Nat) : Int)⟩, true⟩], ?_, ?_, by simp; omega⟩
    · unfold law07_CellSame.l4
      simp only
      rw [show (sRow w i).fFields = (fs w i).1.map (sField w) from rfl, if_pos (by simp; omega), idx_map, hidx]
      simp only [Option.map_some, bnd_some']
      rw [show sField w j = ⟨⟨(j : Int), (((fieldF w j).2.2 - j : Nat) : Int)⟩, (fieldF w j).1, canon (fieldF w j).2.1⟩ from rfl, hl, bnd_some', app_of (by simp; omega), bnd_some', w64_id ⟨by omega, by omega⟩]
    · intro c hc
      rcases List.mem_append.1 hc with hc | hc
      · exact hI.1 c hc
      · simp at hc; subst hc; exact ⟨_, _, _, rfl, g4, by omega⟩
  · refine ⟨s, ?_, hI.1, by omega⟩
    unfold law07_CellSame.l4
    simp only
    rw [show (sRow w i).fFields = (fs w i).1.map (sField w) from rfl, if_neg (by simp)]
theorem cellsOut (w : List UInt8) (hw : w.length ≤ 300) :
    ∃ t, loop (law07_CellSame.l5 ((rs w).map (sRow w))) (0, []) = some t ∧ (∀ c ∈ t, Gc w c) ∧ t.length ≤ 1000000 := by
  obtain ⟨rs1, rs2⟩ := rsF_spec w (by omega) w.length 0 (by omega)
  have hrs1 : ∀ j ∈ rs w, j < w.length := rs1
  have hrs2 : (rs w).length ≤ w.length := rs2
  refine loop_for (f := law07_CellSame.l5 ((rs w).map (sRow w))) (σ := List cell_Cell) (fun k s => (k, s)) (rs w) (fun pre s => (∀ c ∈ s, Gc w c) ∧ s.length ≤ 301 * pre.length) _ (fun pre i suf s hs hI => ?_) (fun s hI => ?_) ⟨by simp, by simp⟩
  · have hpl : pre.length + 1 ≤ (rs w).length := by rw [hs]; simp
    have hi : i < w.length := hrs1 i (by rw [hs]; simp)
    have hidx : idx (rs w) (pre.length : Int) = some i := by rw [hs]; exact idx_at pre i suf
    obtain ⟨t, t1, t2, t3⟩ := cellsIn w hw i (by omega) s hI.1 (by omega)
    refine .inl ⟨t, ?_, t2, by have := hI.2; simp; omega⟩
    unfold law07_CellSame.l5
    simp only
    rw [if_pos (by simp; omega), idx_map, hidx]
    simp only [Option.map_some, bnd_some']
    rw [t1, bnd_some', w64_id ⟨by omega, by omega⟩]
  · refine ⟨s, ?_, hI.1, by have := hI.2; omega⟩
    unfold law07_CellSame.l5
    simp only
    rw [if_neg (by simp)]
theorem idx0 {α : Type} (x : α) (l : List α) : idx (x :: l) 0 = some x := rfl
theorem idx1 {α : Type} (x y : α) (l : List α) : idx (x :: y :: l) 1 = some y := rfl
def wr (b : Bool) (c : cell_Cell) : cell_Cell := if b = true then ⟨c.fText, ⟨0, 0⟩, false⟩ else c
theorem wr_good {w : List UInt8} {b : Bool} {c : cell_Cell} (h : Gc w c) : Gc w (wr b c) := by
  obtain ⟨r, raw, k, rfl, h1, h2⟩ := h
  unfold wr
  split
  · exact ⟨r, _, _, rfl, h1, h2⟩
  · exact ⟨r, _, _, rfl, h1, h2⟩
theorem pickC {w : List UInt8} {t : List cell_Cell} (ht : ∀ c ∈ t, Gc w c) (hl : t.length ≤ 1000000) (h0 : ¬ ((t.length : Int) = 0)) (x : UInt8) : ∃ k c, rmd (x.toNat : Int) (t.length : Int) = some k ∧ idx t k = some c ∧ Gc w c := by
  have hx : x.toNat < 256 := x.toNat_lt
  have hlt : x.toNat % t.length < t.length := Nat.mod_lt _ (by omega)
  obtain ⟨c, hc⟩ : ∃ c, t[x.toNat % t.length]? = some c := ⟨_, List.getElem?_eq_getElem hlt⟩
  refine ⟨((x.toNat % t.length : Nat) : Int), c, ?_, idx_of hc, ht c (List.mem_of_getElem? hc)⟩
  unfold rmd
  rw [if_neg h0]
  congr 1
theorem round0 {w : List UInt8} (hw : w.length ≤ 300) {t : List cell_Cell} {a1 : UInt8 × UInt8} {a2 : Bool × Bool} {k : Int} {c : cell_Cell} (h1 : rmd (a1.1.toNat : Int) (t.length : Int) = some k) (h2 : idx t k = some c) (hc : Gc w c) :
    law07_CellSame.l6 a1 a2 (0, w) t (0, [], 0, 0, 0, false, [], 0, 0, 0, false, [], [], false, [], [], false) =
      some (.next (1, (wr a2.1 c).fText.fL, (wr a2.1 c).fText.fN, (wr a2.1 c).fRaw.fAt, (wr a2.1 c).fRaw.fN, (wr a2.1 c).fKept, [], 0, 0, 0, false, (pl w (wr a2.1 c)).fS, (pl w (wr a2.1 c)).fRaw, (pl w (wr a2.1 c)).fKept, [], [], false)) := by
  have hp := pl_eq (show w.length ≤ 16384 by omega) (wr_good (b := a2.1) hc)
  obtain ⟨b1, b2⟩ := a2
  unfold law07_CellSame.l6
  have z : ((0 : Int) - 1 = 0) = False := by decide
  cases b1 with
  | true =>
    simp only [wr, if_true] at hp ⊢
    simp only [idx0, bnd_some', h1, h2, z, if_true, if_false, cell_Of]
    rw [if_pos (by decide), hp, bnd_some']
    rfl
  | false =>
    simp only [wr, Bool.false_eq_true, if_false] at hp ⊢
    simp only [idx0, bnd_some', h1, h2, z, if_false]
    rw [if_pos (by decide), if_neg (by decide), bnd_some']
    simp only [if_true]
    rw [hp, bnd_some']
    rfl
theorem round1 {w : List UInt8} (hw : w.length ≤ 300) {t : List cell_Cell} {a1 : UInt8 × UInt8} {a2 : Bool × Bool} {k : Int} {c : cell_Cell} (h1 : rmd (a1.2.toNat : Int) (t.length : Int) = some k) (h2 : idx t k = some c) (hc : Gc w c) (p : cell_Cell) (q : ref07_Cell) :
    law07_CellSame.l6 a1 a2 (0, w) t (1, p.fText.fL, p.fText.fN, p.fRaw.fAt, p.fRaw.fN, p.fKept, [], 0, 0, 0, false, q.fS, q.fRaw, q.fKept, [], [], false) =
      some (.next (2, p.fText.fL, p.fText.fN, p.fRaw.fAt, p.fRaw.fN, p.fKept, (wr a2.2 c).fText.fL, (wr a2.2 c).fText.fN, (wr a2.2 c).fRaw.fAt, (wr a2.2 c).fRaw.fN, (wr a2.2 c).fKept, q.fS, q.fRaw, q.fKept, (pl w (wr a2.2 c)).fS, (pl w (wr a2.2 c)).fRaw, (pl w (wr a2.2 c)).fKept)) := by
  have hp := pl_eq (show w.length ≤ 16384 by omega) (wr_good (b := a2.2) hc)
  obtain ⟨b1, b2⟩ := a2
  unfold law07_CellSame.l6
  have z : ((1 : Int) - 1 = 0) = True := by decide
  have z2 : ((1 : Int) = 0) = False := by decide
  cases b2 with
  | true =>
    simp only [wr, if_true] at hp ⊢
    simp only [idx1, bnd_some', h1, h2, z, z2, if_true, if_false, cell_Of]
    rw [if_pos (by decide), hp, bnd_some']
    rfl
  | false =>
    simp only [wr, Bool.false_eq_true, if_false] at hp ⊢
    simp only [idx1, bnd_some', h1, h2, z, z2, if_true, if_false]
    rw [if_pos (by decide), if_neg (by decide), bnd_some']
    rw [hp, bnd_some']
    rfl
theorem CellSame_holds (a0 : List UInt8) (a1 : UInt8 × UInt8) (a2 : Bool × Bool) (w0 : a0.length ≤ maxLen) (w1 : True ∧ True) (w2 : True ∧ True) : law07_CellSame a0 a1 a2 = some true := by
  unfold law07_CellSame
  rw [show ((300 : Int)) = ((300 : Nat) : Int) from rfl, cut7_eq, bnd_some']
  generalize hw : a0.take 300 = w
  have hwl : w.length ≤ 300 := by rw [← hw]; simp; omega
  have hw' : w.length ≤ 16384 := by omega
  rw [New_eq w (by omega), bnd_some']
  dsimp only
  rw [sAll_eq w (by omega), bnd_some']
  obtain ⟨t, t1, t2, t3⟩ := cellsOut w hwl
  rw [t1, bnd_some']
  by_cases h0 : (t.length : Int) = 0
  · rw [if_pos h0, awake7_eq, bnd_some']
  · rw [if_neg h0]
    obtain ⟨k, c, k1, k2, k3⟩ := pickC t2 t3 h0 a1.1
    obtain ⟨k', d, k1', k2', k3'⟩ := pickC t2 t3 h0 a1.2
    have hlp : loop (law07_CellSame.l6 a1 a2 (0, w) t) (0, [], 0, 0, 0, false, [], 0, 0, 0, false, [], [], false, [], [], false) = some ((wr a2.1 c).fText.fL, (wr a2.1 c).fText.fN, (wr a2.1 c).fRaw.fAt, (wr a2.1 c).fRaw.fN, (wr a2.1 c).fKept, (wr a2.2 d).fText.fL, (wr a2.2 d).fText.fN, (wr a2.2 d).fRaw.fAt, (wr a2.2 d).fRaw.fN, (wr a2.2 d).fKept, (pl w (wr a2.1 c)).fS, (pl w (wr a2.1 c)).fRaw, (pl w (wr a2.1 c)).fKept, (pl w (wr a2.2 d)).fS, (pl w (wr a2.2 d)).fRaw, (pl w (wr a2.2 d)).fKept) := by
      refine loop_next (round0 hwl k1 k2 k3) (loop_next (round1 hwl k1' k2' k3' (wr a2.1 c) (pl w (wr a2.1 c))) (loop_done ?_))
      unfold law07_CellSame.l6
      rw [if_neg (show ¬ ((2 : Int) < 2) by decide)]
    rw [hlp, bnd_some']
    have g1 := wr_good (b := a2.1) k3
    have g2 := wr_good (b := a2.2) k3'
    generalize wr a2.1 c = x at g1
    generalize wr a2.2 d = y at g2
    have s1 := CSame_eq hw' g1 g2
    have s2 := CSame_eq hw' g1 g1
    dsimp only
    rw [show (⟨⟨x.fText.fL, x.fText.fN⟩, ⟨x.fRaw.fAt, x.fRaw.fN⟩, x.fKept⟩ : cell_Cell) = x from rfl, show (⟨⟨y.fText.fL, y.fText.fN⟩, ⟨y.fRaw.fAt, y.fRaw.fN⟩, y.fKept⟩ : cell_Cell) = y from rfl,
      show (⟨(pl w x).fS, (pl w x).fRaw, (pl w x).fKept⟩ : ref07_Cell) = pl w x from rfl, show (⟨(pl w y).fS, (pl w y).fRaw, (pl w y).fKept⟩ : ref07_Cell) = pl w y from rfl, s1, bnd_some', s2, bnd_some']
    rw [if_pos (by by_cases h : pl w x = pl w y <;> simp [h]), decide_eq_true rfl, if_pos rfl, awake7_eq, bnd_some', bnd_some']
end Go.Proofs.Ytkjcogmngoogcaa.S
