/- Chapter 8's rows, told plainly: the document's own answers, and the laws RowPlays and RowBack. -/
import Derived.Test.YtbcbggdgkdfciaaG0
import Derived.Test.YtbcbggdgkdfciaaG11xa
import Derived.Test.YtbcbggdgkdfciaaG12xa
import Derived.Test.YtbcbggdgkdfciaaG1xa
import Derived.Test.YtbcbggdgkdfciaaG7xa
import Derived.Test.YtbcbggdgkdfciaaRgd
set_option linter.unusedVariables false
namespace Go.Proofs.Ytbcbggdgkdfciaa.S
open Go Go.Sm
theorem rPad_eq (M : List ref07_Cell) (e : Int) (h : Bool) (n : Int) (hM : M.length ≤ 40) : ref08_Pad ⟨M, e, h⟩ n = some (e, h, padL M n pz) := by
  unfold ref08_Pad
  have hn : (padL M n pz).length = M.length + ((if 40 < n then 40 else n).toNat - M.length) := by simp [padL]
  have hh := loop_nat (f := ref08_Pad.l1 ⟨M, e, h⟩ n) (fun k (s : List ref07_Cell) => (k, s)) (padL M n pz).length (fun i => (padL M n pz).take i) (t := padL M n pz)
    (fun i hi => by
      have hp := padL_len M n pz hM
      have e1 : (if (i : Int) < (M.length : Int) then some true else if (i : Int) < n then some (decide ((i : Int) < 40)) else some false : Option Bool) = some true := by
        by_cases c : i < M.length
        · rw [if_pos (by omega)]
        · rw [if_neg (by omega), if_pos (by rw [hn] at hi; split at hi <;> omega), decide_eq_true (by omega)]
      have hg : (padL M n pz)[i]? = some (if h : i < M.length then M[i] else pz) := by
        unfold padL
        by_cases c : i < M.length
        · rw [List.getElem?_append_left c, dif_pos c, List.getElem?_eq_getElem c]
        · rw [List.getElem?_append_right (by omega), dif_neg c, List.getElem?_replicate, if_pos (by omega)]
      have e2 : (if (i : Int) < (M.length : Int) then bnd (idx M (i : Int)) fun x21 => some (x21.fS, x21.fRaw, x21.fKept) else some ([], [], false) : Option ((List UInt8) × (List UInt8) × Bool)) = some ((if h : i < M.length then M[i] else pz).fS, (if h : i < M.length then M[i] else pz).fRaw, (if h : i < M.length then M[i] else pz).fKept) := by
        by_cases c : i < M.length
        · rw [if_pos (by omega), idx_of (List.getElem?_eq_getElem c), bnd_some', dif_pos c]
        · rw [if_neg (by omega), dif_neg c]; rfl
      unfold ref08_Pad.l1
      dsimp only
      rw [e1, bnd_some', if_pos rfl, e2, bnd_some', app_of (by rw [List.length_take]; simp; omega), bnd_some', w64_id ⟨by omega, by omega⟩]
      congr 3
      have hlt : i < (padL M n pz).length := hi
      rw [List.getElem?_eq_getElem hlt] at hg
      rw [List.take_succ_eq_append_getElem hlt, Option.some.inj hg])
    (by
      have hp := padL_len M n pz hM
      have e1 : (if ((padL M n pz).length : Int) < (M.length : Int) then some true else if ((padL M n pz).length : Int) < n then some (decide (((padL M n pz).length : Int) < 40)) else some false : Option Bool) = some false := by
        rw [if_neg (by omega)]
        by_cases c : ((padL M n pz).length : Int) < n
        · rw [if_pos c, decide_eq_false (by omega)]
        · rw [if_neg c]
      unfold ref08_Pad.l1
      dsimp only
      rw [e1, bnd_some', if_neg (by simp), List.take_length])
  have h' : loop (ref08_Pad.l1 ⟨M, e, h⟩ n) (0, []) = some (padL M n pz) := by simpa using hh
  rw [h', bnd_some']
theorem rSet_eq (M : List ref07_Cell) (e : Int) (h : Bool) (i : Int) (c : ref07_Cell) (hM : M.length ≤ 40) : ref08_Set ⟨M, e, h⟩ i c = some (if i < 0 ∨ 40 ≤ i then (⟨[], 0, false⟩, 5) else (⟨(padL M (i + 1) pz).set i.toNat c, e, h⟩, 0)) := by
  unfold ref08_Set
  by_cases c1 : i < 0
  · rw [if_pos c1, bnd_some', if_pos rfl, if_pos (.inl c1)]
  · rw [if_neg c1, bnd_some']
    by_cases c2 : 40 ≤ i
    · rw [if_pos (by simp; omega), if_pos (.inr c2)]
    · rw [if_neg (by simp; omega), if_neg (by omega), w64_id ⟨by omega, by omega⟩, rPad_eq M e h _ hM, bnd_some']
      obtain ⟨_, _, p3⟩ := padL_len M (i + 1) pz hM
      dsimp only
      rw [idx_int (by omega) (List.getElem?_eq_getElem (show i.toNat < (padL M (i + 1) pz).length by have := p3 (by omega); omega)), bnd_some']
theorem rInsert_eq (M : List ref07_Cell) (e : Int) (h : Bool) (i : Int) (c : ref07_Cell) (hM : M.length ≤ 40) : ref08_Insert ⟨M, e, h⟩ i c = some (if i < 0 ∨ (M.length : Int) < i then (⟨[], 0, false⟩, 5) else if 40 ≤ M.length then (⟨[], 0, false⟩, 6) else (⟨insL M i.toNat c, e, h⟩, 0)) := by
  unfold ref08_Insert
  by_cases c1 : i < 0
  · rw [if_pos c1, bnd_some', if_pos rfl, if_pos (.inl c1)]
  · rw [if_neg c1, bnd_some']
    by_cases c2 : (M.length : Int) < i
    · rw [if_pos (by simpa using c2), if_pos (.inr c2)]
    · rw [if_neg (by simpa using c2), if_neg (show ¬ (i < 0 ∨ (M.length : Int) < i) by omega)]
      by_cases c3 : 40 ≤ M.length
      · rw [if_pos (by dsimp only; omega), if_pos c3]
      · rw [if_neg (by dsimp only; omega), if_neg c3]
        obtain ⟨j, rfl⟩ : ∃ j : Nat, i = j := ⟨i.toNat, by omega⟩
        have hj : j ≤ M.length := by omega
        have hh := loop_nat (f := ref08_Insert.l1 ⟨M, e, h⟩ (j : Int) c) (fun k (s : List ref07_Cell) => (k, s)) (M.length + 1) (fun k => if k ≤ j then M.take k else insL (M.take k) j c) (t := insL M j c)
          (fun k hk => by
            have hlen : ((if k ≤ j then M.take k else insL (M.take k) j c) : List ref07_Cell).length ≤ 41 := by
              split
              · simp; omega
              · rw [insL_len _ _ (by rw [List.length_take]; omega), List.length_take]; omega
            have e1 : (if (k : Int) = (j : Int) then bnd (app 40 (if k ≤ j then M.take k else insL (M.take k) j c) [c]) fun x22 => some x22 else some (if k ≤ j then M.take k else insL (M.take k) j c) : Option (List ref07_Cell)) = some (if k < j then M.take k else insL (M.take k) j c) := by
              by_cases q : k = j
              · subst q
                rw [if_pos rfl, app_of (by simp only [List.length_cons, List.length_nil]; omega), bnd_some', if_pos (Nat.le_refl _), if_neg (Nat.lt_irrefl _)]
                unfold insL
                rw [List.take_take, Nat.min_self, List.drop_of_length_le (by rw [List.length_take]; omega)]
              · rw [if_neg (by omega)]
                by_cases q2 : k < j
                · rw [if_pos (by omega), if_pos q2]
                · rw [if_neg (by omega), if_neg q2]
            have hlen2 : ((if k < j then M.take k else insL (M.take k) j c) : List ref07_Cell).length ≤ 41 := by
              split
              · simp; omega
              · rw [insL_len _ _ (by rw [List.length_take]; omega), List.length_take]; omega
            unfold ref08_Insert.l1
            dsimp only
            rw [if_pos (by omega), e1, bnd_some']
            by_cases q : k < M.length
            · rw [if_pos (by omega), idx_of (List.getElem?_eq_getElem q), bnd_some', app_of (by simp only [List.length_cons, List.length_nil]; omega), bnd_some', bnd_some', w64_id ⟨by omega, by omega⟩]
              congr 3
              by_cases q2 : k < j
              · rw [if_pos q2, if_pos (by omega), List.take_succ_eq_append_getElem q]
              · rw [if_neg q2, if_neg (by omega), List.take_succ_eq_append_getElem q]
                unfold insL
                rw [List.take_append_of_le_length (by rw [List.length_take]; omega), List.drop_append_of_le_length (by rw [List.length_take]; omega)]
                simp only [List.append_assoc, List.cons_append]
            · rw [if_neg (by omega), bnd_some', w64_id ⟨by omega, by omega⟩, if_neg (by omega), if_neg (by omega), List.take_of_length_le (by omega), List.take_of_length_le (by omega)])
          (by
            unfold ref08_Insert.l1
            dsimp only
            rw [if_neg (by omega), if_neg (by omega), List.take_of_length_le (by omega)])
        have h' : loop (ref08_Insert.l1 ⟨M, e, h⟩ (j : Int) c) (0, []) = some (insL M j c) := by simpa using hh
        rw [h', bnd_some', Int.toNat_natCast]
theorem without_eq (M : List ref07_Cell) (i : Nat) (hi : i < M.length) (hM : M.length ≤ 1000) : ref08_without M (i : Int) = some (delL M i) := by
  have hh := loop_nat (f := ref08_without.l1 M (i : Int)) (fun k (s : List ref07_Cell) => (k, s)) M.length (fun k => if k ≤ i then M.take k else delL (M.take k) i) (t := delL M i)
    (fun k hk => by
      have hlen : ((if k ≤ i then M.take k else delL (M.take k) i) : List ref07_Cell).length ≤ 1000 := by
        split
        · simp; omega
        · rw [delL_len _ (by rw [List.length_take]; omega), List.length_take]; omega
      unfold ref08_without.l1
      dsimp only
      rw [if_pos (by omega), idx_of (List.getElem?_eq_getElem hk), bnd_some']
      by_cases q : k = i
      · subst q
        rw [if_pos rfl, bnd_some', w64_id ⟨by omega, by omega⟩, if_pos (Nat.le_refl _), if_neg (by omega)]
        congr 3
        unfold delL
        rw [List.take_take, Nat.min_eq_left (by omega), List.drop_of_length_le (by rw [List.length_take]; omega), List.append_nil]
      · rw [if_neg (by omega), app_of (by simp only [List.length_cons, List.length_nil]; omega), bnd_some', bnd_some', w64_id ⟨by omega, by omega⟩]
        congr 3
        by_cases q2 : k < i
        · rw [if_pos (by omega), if_pos (by omega), List.take_succ_eq_append_getElem hk]
        · rw [if_neg (by omega), if_neg (by omega), List.take_succ_eq_append_getElem hk]
          unfold delL
          rw [List.take_append_of_le_length (by rw [List.length_take]; omega), List.drop_append_of_le_length (by rw [List.length_take]; omega), List.append_assoc])
    (by
      unfold ref08_without.l1
      dsimp only
      rw [if_neg (by omega), if_neg (by omega), List.take_length])
  unfold ref08_without
  have h' : loop (ref08_without.l1 M (i : Int)) (0, []) = some (delL M i) := by simpa using hh
  rw [h', bnd_some']
theorem rDelete_eq (M : List ref07_Cell) (e : Int) (h : Bool) (i : Int) (hM : M.length ≤ 1000) : ref08_Delete ⟨M, e, h⟩ i = some (if ¬ (0 ≤ i ∧ i < (M.length : Int)) then (⟨[], 0, false⟩, 5) else if M.length = 1 then (⟨[], 0, false⟩, 9) else (⟨delL M i.toNat, e, h⟩, 0)) := by
  unfold ref08_Delete
  by_cases c1 : i < 0
  · rw [if_pos c1, bnd_some', if_pos rfl, if_pos (by omega)]
  · rw [if_neg c1, bnd_some']
    by_cases c2 : (M.length : Int) ≤ i
    · rw [if_pos (by simpa using c2), if_pos (by omega)]
    · rw [if_neg (by simpa using c2), if_neg (show ¬ ¬ (0 ≤ i ∧ i < (M.length : Int)) by omega)]
      dsimp only
      by_cases c3 : M.length = 1
      · rw [if_pos (by omega), if_pos c3]
      · rw [if_neg (by omega), if_neg c3]
        have := without_eq M i.toNat (by omega) hM
        rw [show ((i.toNat : Nat) : Int) = i by omega] at this
        rw [this, bnd_some']
theorem rMove_eq (M : List ref07_Cell) (e : Int) (h : Bool) (i j : Int) (hM : M.length ≤ 40) : (¬ ((0 ≤ i ∧ i < (M.length : Int)) ∧ (0 ≤ j ∧ j < (M.length : Int))) → ref08_Move ⟨M, e, h⟩ i j = some (⟨[], 0, false⟩, 5)) ∧
    (((0 ≤ i ∧ i < (M.length : Int)) ∧ (0 ≤ j ∧ j < (M.length : Int))) → ∀ x, M[i.toNat]? = some x → ref08_Move ⟨M, e, h⟩ i j = some (⟨movL M i.toNat j.toNat x, e, h⟩, 0)) := by
  have hg : (if i < 0 then some true else if i ≥ (M.length : Int) then some true else if j < 0 then some true else some (decide (j ≥ (M.length : Int))) : Option Bool) = some (decide (¬ ((0 ≤ i ∧ i < (M.length : Int)) ∧ (0 ≤ j ∧ j < (M.length : Int))))) := by
    by_cases c1 : i < 0
    · rw [if_pos c1, decide_eq_true (by omega)]
    · rw [if_neg c1]
      by_cases c2 : i ≥ (M.length : Int)
      · rw [if_pos c2, decide_eq_true (by omega)]
      · rw [if_neg c2]
        by_cases c3 : j < 0
        · rw [if_pos c3, decide_eq_true (by omega)]
        · rw [if_neg c3]
          by_cases c4 : j ≥ (M.length : Int)
          · rw [decide_eq_true c4, decide_eq_true (by omega)]
          · rw [decide_eq_false c4, decide_eq_false (by omega)]
  unfold ref08_Move
  dsimp only
  rw [hg, bnd_some']
  refine ⟨fun hc => by rw [decide_eq_true hc, if_pos rfl], fun hc x hx => ?_⟩
  have hw := without_eq M i.toNat (by omega) (by omega)
  rw [show ((i.toNat : Nat) : Int) = i by omega] at hw
  have hl := delL_len M (show i.toNat < M.length by omega)
  rw [decide_eq_false (show ¬ ¬ _ from fun h => h hc), if_neg (by simp), hw, bnd_some', idx_int hc.1.1 hx, bnd_some', rInsert_eq _ _ _ _ _ (by omega), bnd_some', if_neg (by omega), if_neg (by omega)]
  rfl
theorem rFresh_eq (n e : Int) : ref08_Fresh n e = some ⟨padL [] (if n < 1 then 1 else n) pz, e, false⟩ := by
  unfold ref08_Fresh
  by_cases c : n < 1
  · rw [if_pos c, bnd_some', rPad_eq [] e false _ (by simp), bnd_some', if_pos c]
  · rw [if_neg c, bnd_some', rPad_eq [] e false _ (by simp), bnd_some', if_neg c]
/-! ### what a call does to both -/
theorem keepA_len (b a : List UInt8) : (keepA b a).2.2.length ≤ a.length + b.length := by
  unfold keepA
  split
  · simp
  · split
    · simp
    · unfold addA
      split
      · simp
      · split
        · simp
        · simp
theorem put_good (b a : List UInt8) (hb : b.length ≤ 400) (hab : b.length + a.length ≤ 16384) : ∃ c m, cell_Put b a = some (c, 0, a ++ m) ∧ Gd (a ++ m) c ∧ plC (a ++ m) c = ⟨b, [], false⟩ ∧ m.length ≤ b.length := by
  unfold cell_Put
  rw [if_neg (by omega), Keep_eq b a (by omega) (by omega), bnd_some']
  obtain ⟨k1, ⟨m, k2⟩, k3⟩ := keepA_spec b a (by omega)
  have k4 := keepA_len b a
  rcases k3 with ⟨q1, q2, q3, q4⟩ | ⟨q1, q2, q3⟩
  · obtain ⟨o1, o2, o3⟩ := Of1_eq _ _ q3 (by omega)
    have hl : (exp1 (keepA b a).1).length = b.length := by rw [show (exp1 (keepA b a).1).length = (keepA b a).1.fN.toNat from rangeI_len _ _, q4]; omega
    rw [if_pos q1, o1, bnd_some']
    rw [k2] at k1 k4 o2 o3 q2 ⊢
    refine ⟨_, m, rfl, ⟨exp1 (keepA b a).1, ⟨0, 0⟩, false, rfl, o2, by omega, by unfold rightA; simp only [decide_eq_true_eq]; omega⟩, ?_, by rw [List.length_append] at k4; omega⟩
    rw [(plC_is k1 o2 (by omega)).2, ← o3, q2]
    rfl
  · omega
/-- A row of the program and the document's. -/
structure Both (a : List UInt8) (R : row_Row) (w : ref08_Row) : Prop where
  good : GR a R
  same : plR a R = w
  few : R.fCells.length ≤ 40
theorem Both.app {a : List UInt8} {R : row_Row} {w : ref08_Row} (h : Both a R w) (m : List UInt8) (ha : (a ++ m).length ≤ 16384) : Both (a ++ m) R w := ⟨(h.good.app m ha).1, (h.good.app m ha).2.trans h.same, h.few⟩
theorem cellsOf {a : List UInt8} {R : row_Row} {w : ref08_Row} (h : plR a R = w) : R.fCells.map (plC a) = w.fCells ∧ w.fEnd = R.fEnd ∧ w.fHidden = R.fHidden := by subst h; exact ⟨rfl, rfl, rfl⟩
theorem rMark (x : Int) (y : Int) : (x = 0 ∨ x = y) ↔ (x = 0 ∨ x = y) := Iff.rfl
/-- A call: both answer alike; if it is refused, with no row; else the rows are alike. -/
def Alike (a : List UInt8) (p : row_Row × Int) (q : ref08_Row × Int) : Prop := p.2 = q.2 ∧ (p.2 = 0 → Both a p.1 q.1) ∧ (p.2 ≠ 0 → p.1 = ⟨[], 0, false⟩ ∧ q.1 = ⟨[], 0, false⟩)
theorem alike_err (a : List UInt8) (e : Int) (he : e ≠ 0) : Alike a (⟨[], 0, false⟩, e) (⟨[], 0, false⟩, e) := ⟨rfl, fun h => absurd h he, fun _ => ⟨rfl, rfl⟩⟩
theorem alike_ok {a : List UInt8} {L : List cell_Cell} {e : Int} {h : Bool} {M : List ref07_Cell} (hg : ∀ c ∈ L, Gd a c) (hm : L.map (plC a) = M) (hl : L.length ≤ 40) : Alike a (⟨L, e, h⟩, 0) (⟨M, e, h⟩, 0) := ⟨rfl, fun _ => ⟨hg, by unfold plR; rw [← hm], hl⟩, fun h => absurd rfl h⟩
theorem set_alike {a : List UInt8} (ha : a.length ≤ 16384) {R : row_Row} {w : ref08_Row} (hB : Both a R w) (i : Int) {c : cell_Cell} (hc : Gd a c) : ∃ p q, row_Row_Set R i c = some p ∧ ref08_Set w i (plC a c) = some q ∧ Alike a p q := by
  obtain ⟨L, e, h⟩ := R
  obtain ⟨hg, rfl, hl⟩ := hB
  refine ⟨_, _, set_eq L e h i c hl, rSet_eq (L.map (plC a)) e h i (plC a c) (by simpa using hl), ?_⟩
  by_cases c1 : i < 0 ∨ 40 ≤ i
  · rw [if_pos c1, if_pos c1]; exact alike_err a 5 (by decide)
  · rw [if_neg c1, if_neg c1]
    obtain ⟨z1, z2⟩ := zc_good a ha
    refine alike_ok (fun y hy => ?_) ?_ ?_
    · rcases setL_mem hy with rfl | hy
      · exact hc
      · rcases padL_mem hy with rfl | hy
        · exact z1
        · exact hg y hy
    · rw [← z2, ← padL_map, List.map_set]
    · rw [List.length_set]; exact (padL_len L (i + 1) zc hl).1
theorem insert_alike {a : List UInt8} {R : row_Row} {w : ref08_Row} (hB : Both a R w) (i : Int) {c : cell_Cell} (hc : Gd a c) : ∃ p q, row_Row_Insert R i c = some p ∧ ref08_Insert w i (plC a c) = some q ∧ Alike a p q := by
  obtain ⟨L, e, h⟩ := R
  obtain ⟨hg, rfl, hl⟩ := hB
  have hl' : L.length ≤ 40 := hl
  refine ⟨_, _, insert_eq L e h i c hl, rInsert_eq (L.map (plC a)) e h i (plC a c) (by simpa using hl), ?_⟩
  rw [List.length_map]
  by_cases c1 : i < 0 ∨ (L.length : Int) < i
  · rw [if_pos c1, if_pos c1]; exact alike_err a 5 (by decide)
  · rw [if_neg c1, if_neg c1]
    by_cases c2 : 40 ≤ L.length
    · rw [if_pos c2, if_pos c2]; exact alike_err a 6 (by decide)
    · rw [if_neg c2, if_neg c2]
      refine alike_ok (fun y hy => ?_) (insL_map _ _ _ _) (by rw [insL_len _ _ (by omega)]; omega)
      rcases insL_mem hy with rfl | hy
      · exact hc
      · exact hg y hy
theorem delete_alike {a : List UInt8} {R : row_Row} {w : ref08_Row} (hB : Both a R w) (i : Int) : ∃ p q, row_Row_Delete R i = some p ∧ ref08_Delete w i = some q ∧ Alike a p q := by
  obtain ⟨L, e, h⟩ := R
  obtain ⟨hg, rfl, hl⟩ := hB
  have hl' : L.length ≤ 40 := hl
  refine ⟨_, _, delete_eq L e h i (by omega), rDelete_eq (L.map (plC a)) e h i (by rw [List.length_map]; omega), ?_⟩
  rw [List.length_map]
  by_cases c1 : ¬ (0 ≤ i ∧ i < (L.length : Int))
  · rw [if_pos c1, if_pos c1]; exact alike_err a 5 (by decide)
  · rw [if_neg c1, if_neg c1]
    by_cases c2 : L.length = 1
    · rw [if_pos c2, if_pos c2]; exact alike_err a 9 (by decide)
    · rw [if_neg c2, if_neg c2]
      exact alike_ok (fun y hy => hg y (delL_mem hy)) (delL_map _ _ _) (by rw [delL_len _ (by omega)]; omega)
theorem move_alike {a : List UInt8} {R : row_Row} {w : ref08_Row} (hB : Both a R w) (i j : Int) : ∃ p q, row_Row_Move R i j = some p ∧ ref08_Move w i j = some q ∧ Alike a p q := by
  obtain ⟨L, e, h⟩ := R
  obtain ⟨hg, rfl, hl⟩ := hB
  have hl' : L.length ≤ 40 := hl
  obtain ⟨r1, r2⟩ := rMove_eq (L.map (plC a)) e h i j (by rw [List.length_map]; omega)
  rw [List.length_map] at r1 r2
  rcases move_eq L e h i j (by omega) with ⟨c, m1⟩ | ⟨c, x, hx, m1⟩
  · exact ⟨_, _, m1, r1 c, alike_err a 5 (by decide)⟩
  · refine ⟨_, _, m1, r2 c (plC a x) (by rw [List.getElem?_map, hx]; rfl), alike_ok (fun y hy => ?_) (movL_map _ _ _ _ _) ?_⟩
    · rcases insL_mem hy with rfl | hy
      · exact hg _ (List.mem_of_getElem? hx)
      · exact hg y (delL_mem hy)
    · have := delL_len L (show i.toNat < L.length by omega)
      unfold movL
      rw [insL_len _ _ (by omega)]; omega
end Go.Proofs.Ytbcbggdgkdfciaa.S
