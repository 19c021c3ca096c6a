/- A small program logic over the kit's wp. Part 14: rows that grow. -/
import Derived.Test.YtbogkjbjgcclnaaAmD
namespace Go.Am
open Go.RowKit
section
variable {w : World} {ok : Nat → Prop}
theorem EncC.vals : ∀ {ds : List Dat} {a : Addr}, EncC w ok a ds → ∃ vs, EncL w ok ds vs ∧ (∀ (j : Nat) u, vs[j]? = some u → w.cell? (a.add j) = some u) ∧ ∀ v ∈ vs, one v = true
  | _, _, .nil => ⟨[], .nil, fun _ _ h => by simp at h, fun _ h => by cases h⟩
  | _, a, .cons (v := v) hb hs hc h1 h hr => by
    obtain ⟨vs, e1, e2, e3⟩ := EncC.vals hr
    refine ⟨v :: vs, .cons h e1, fun j u hj => ?_, fun x hx => ?_⟩
    · cases j with
      | zero => simp only [List.getElem?_cons_zero, Option.some.injEq] at hj; subst hj; exact hc
      | succ j =>
        have := e2 j u (by simpa using hj)
        rwa [add_add, show 1 + j = j + 1 by omega] at this
    · rcases List.mem_cons.1 hx with rfl | hx
      · exact h1
      · exact e3 x hx
theorem EncS.vals {sz : Nat} : ∀ {ds : List Dat} {a : Addr}, EncS w ok sz a ds → ∃ vs, EncL w ok (ds.flatMap Dat.cells) vs ∧ vs.length = ds.length * sz ∧ (∀ (j : Nat) u, vs[j]? = some u → w.cell? (a.add j) = some u) ∧ (∀ v ∈ vs, one v = true) ∧ ∀ d ∈ ds, d.cells.length = sz
  | _, _, .nil => ⟨[], .nil, by simp, fun _ _ h => by simp at h, fun _ h => (by cases h), fun _ h => (by cases h)⟩
  | d :: ds, a, .cons hz h hr => by
    obtain ⟨us, e1, e2, e3⟩ := EncC.vals h
    obtain ⟨vs, f1, f2, f3, f4, f5⟩ := EncS.vals hr
    have hl : us.length = sz := by rw [← e1.length, hz]
    refine ⟨us ++ vs, by simpa using e1.append f1, by simp only [List.length_append, List.length_cons, Nat.add_mul]; omega, fun j u hj => ?_, fun x hx => ?_, fun x hx => ?_⟩
    · rcases Nat.lt_or_ge j us.length with h' | h'
      · rw [List.getElem?_append_left h'] at hj; exact e2 j u hj
      · rw [List.getElem?_append_right h'] at hj
        have := f3 _ u hj
        rwa [add_add, show sz + (j - us.length) = j by omega] at this
    · rcases List.mem_append.1 hx with hx | hx
      · exact e3 x hx
      · exact f4 x hx
    · rcases List.mem_cons.1 hx with rfl | hx
      · exact hz
      · exact f5 x hx
theorem oneCell_of {v : Value} (h : one v = true) : v.oneCell' = true := by cases v <;> first | rfl | cases h
/-- What 'append' does to a row of one's own. -/
theorem append_run {P : Program} (w : World) (t ty e : TypeId) (i : TypeInfo) (z : Value) (ht : P.underlying t = some (.slice e)) (hi : P.info? e = some i) (hz : i.zero = some z) (hzs : z.cells.size = i.size)
    (v : Value) (vs us : List Value) (k : Nat) (hvl : vs.length = k * i.size)
    (hv : (v = .slice none 0 0 ∧ k = 0 ∧ vs = [] ∧ us = []) ∨ ∃ g c, v = .slice (some ⟨g, 0, none⟩) k c ∧ w.heap[g]? = some (.cells (vs ++ us).toArray e (0, 0)) ∧ k ≤ c ∧ c ≤ maxLen ∧ c * i.size = (vs ++ us).length)
    (a : Addr) (m c : Nat) (news : List Value) (hl : news.length = m * i.size) (hnews : ∀ j u, news[j]? = some u → w.cell? (a.add j) = some u) (h1 : ∀ u ∈ news, one u = true)
    (hm : 0 < m) (h63 : k + m ≤ maxLen) (hbytes : (k + m) * i.bytes ≤ 140737488355328) :
    ∃ b' c' us' w', (Builtin.append_ #[t, t] ty #[v, .slice (some a) m c]).run P w = .ok (.slice (some ⟨b', 0, none⟩) (k + m) c') w' ∧ w'.heap[b']? = some (.cells (vs ++ news ++ us').toArray e (0, 0)) ∧
      k + m ≤ c' ∧ c' ≤ maxLen ∧ c' * i.size = (vs ++ news ++ us').length ∧ Chg w w' (fun b => v.ownBlock = some b) ∧ (v.ownBlock = some b' ∨ (b' = w.heap.size ∧ w.heap.size < w'.heap.size)) := by
  have hsmall : k + m ≤ 9223372036854775807 := by simp only [maxLen] at h63; omega
  rcases hv with ⟨rfl, rfl, rfl, rfl⟩ | ⟨g, cap, rfl, hg, hn, hcm, hcs⟩
  · have hr := run_append_nil (P := P) w t ty e i z ht hi hz a m c news hl hnews hm (by omega) (by rw [Nat.zero_add] at hbytes; omega)
    simp only [Nat.zero_add, List.nil_append] at h63 ⊢
    refine ⟨_, _, (Builtin.zeroCells z.cells (grownCap w m 0 e - m)).toList, _, hr, ?_, grownCap_ge w m 0 e, grownCap_le_maxLen w m 0 e h63, ?_, (Chg.drew w _).trans (Chg.alloc _ _ _), .inr ⟨rfl, by simp⟩⟩
    · show (w.drew.alloc _).heap[w.drew.heap.size]? = _
      rw [alloc_new w.drew]; simp
    · have := grownCap_ge w m 0 e
      simp only [List.length_append, Array.length_toList, size_zeroCells, hzs, hl, ← Nat.add_mul]
      congr 1; omega
  · by_cases hroom : k + m ≤ cap
    · have hfit : k * i.size + news.length ≤ (vs ++ us).toArray.size := by
        rw [hl, List.size_toArray, ← hcs, ← Nat.add_mul]; exact Nat.mul_le_mul_right _ hroom
      have hr := run_append_room (P := P) w t ty e i ht hi g k cap (vs ++ us).toArray hg a m c news hl hnews (fun u hu => oneCell_of (h1 u hu)) hroom hfit
      have hrow : ((vs ++ us).toArray.toList.take (k * i.size) ++ news ++ (vs ++ us).toArray.toList.drop (k * i.size + news.length)) = vs ++ news ++ us.drop news.length := by
        rw [← hvl]
        simp
      rw [hrow] at hr
      refine ⟨_, _, us.drop news.length, _, hr, setRow_heap w g _ _ e _ hg, hroom, hcm, ?_, ⟨rfl, rfl, rfl, by simp [World.setRow], fun b _ hb => setRow_other w g b _ (fun e' => hb (by simp [Value.ownBlock, e']))⟩, .inl rfl⟩
      rw [hcs]
      simp only [List.size_toArray, List.length_append, List.length_drop] at hfit ⊢
      omega
    · have holds : ∀ j u, vs[j]? = some u → w.cell? ((⟨g, 0, none⟩ : Addr).add j) = some u := fun j u hj => by
        have hadd : (⟨g, 0, none⟩ : Addr).add j = ⟨g, j, none⟩ := by unfold Addr.add; split <;> simp_all
        rw [hadd, cell_of_row w g j _ e (0, 0) hg]
        have hlt := (List.getElem?_eq_some_iff.1 hj).1
        simp [List.getElem?_append_left hlt, hj]
      have hr := run_append_grow (P := P) w t ty e i z ht hi hz ⟨g, 0, none⟩ k cap vs hvl holds a m c news hl hnews (by omega) (by omega) (growslice_fits (by omega) hbytes)
      refine ⟨_, _, (Builtin.zeroCells z.cells (grownCap w (k + m) cap e - (k + m))).toList, _, hr, ?_, grownCap_ge w (k + m) cap e, grownCap_le_maxLen w (k + m) cap e h63, ?_, (Chg.drew w _).trans (Chg.alloc _ _ _), .inr ⟨rfl, by simp⟩⟩
      · show (w.drew.alloc _).heap[w.drew.heap.size]? = _
        rw [alloc_new w.drew]; simp
      · have := grownCap_ge w (k + m) cap e
        simp only [List.length_append, Array.length_toList, size_zeroCells, hzs, hl, hvl, ← Nat.add_mul]
        congr 1; omega
end
section
variable {X : Prg} {ops : Array Oper} {rest : List Oper} {op : Op} {ty : TypeId} {pos : String} {after : Array Edge} {t : Nat} {d : Dat} {sl sl1 : List (Nat × Dat)} {bx bx' : List Box} {n : Nat} {Q : Exit → St → Prop}
  {G : Gh} {w w' : World} {ok : Nat → Prop} {β : List (Option Nat)} {k : Nat} {o' : Option Nat}
theorem RepB.stayN (hr : RepB G bx w β ok) (hc : Chg w w' (fun b => β[k]? = some (some b))) : StayB w w' ok ok (β.set k none) (β.set k none) where
  ho := fun _ h => h
  hw := fun b hb => hc.keep b (hr.okf b hb).1 ((hr.okf b hb).2 k)
  hβ := fun _ _ h => h
  hz := fun j b cells t hj hcs => by
    have hjk : k ≠ j := by
      rintro rfl
      have hlt : k < β.length := by have := (List.getElem?_eq_some_iff.1 hj).1; simpa using this
      rw [List.getElem?_set_self hlt] at hj; cases hj
    rw [List.getElem?_set_ne hjk] at hj
    exact ⟨cells, by rw [hc.keep b (hr.blt j b hj).1 (fun e => hjk (hr.inj k j b e hj))]; exact hcs, rfl⟩
theorem Enc.re (hr : RepB G bx w β ok) (hc : Chg w w' (fun b => β[k]? = some (some b))) {v : Value} (h : Enc w ok β d v) (hn : Go.Am.nr k d = true) : Enc w' ok (β.set k o') d v := by
  have h3 := ((h.nr (o := none) (fun _ h => h) hn).mono (hr.stayN hc)).nr (o := o') (fun _ h => h) hn
  rwa [List.set_set] at h3
theorem RepB.rebox (hr : RepB G bx w β ok) (hk : k < β.length) (hn : nrBx k bx = true) (hc : Chg w w' (fun b => β[k]? = some (some b))) {b : Box} (hb : BoxOk w' ok (β.set k o') o' b)
    (ho : ∀ m, o' = some m → β[k]? = some (some m) ∨ (w.heap.size ≤ m ∧ m < w'.heap.size)) : RepB G (bx.set k b) w' (β.set k o') ok where
  len := by simp [hr.len]
  bxs := fun j b1 o1 h1 h2 => by
    by_cases e : k = j
    · subst e
      rw [List.getElem?_set_self (by rw [← hr.len]; exact hk)] at h1
      rw [List.getElem?_set_self hk] at h2
      obtain rfl := Option.some.inj h1
      obtain rfl := Option.some.inj h2
      exact hb
    · rw [List.getElem?_set_ne e] at h1 h2
      have h3 := (hr.bxs j b1 o1 h1 h2).nr (o := none) (fun _ h => h) (nrBx_get hn h1)
      have h4 := (h3.mono (hr.stayN hc) (fun m hm => hc.keep m (hr.blt j m (hm ▸ h2)).1 (fun e' => e (hr.inj k j m e' (hm ▸ h2))))).nr (o := o') (fun _ h => h) (nrBx_get hn h1)
      rwa [List.set_set] at h4
  inj := fun j j' m h1 h2 => by
    have key : ∀ {j}, (β.set k o')[j]? = some (some m) → (j = k ∧ o' = some m) ∨ (k ≠ j ∧ β[j]? = some (some m)) := fun {j} h => by
      by_cases e : k = j
      · subst e; rw [List.getElem?_set_self hk] at h; exact .inl ⟨rfl, Option.some.inj h⟩
      · rw [List.getElem?_set_ne e] at h; exact .inr ⟨e, h⟩
    have kk : ∀ {j}, k ≠ j → β[j]? = some (some m) → o' = some m → False := fun {j} hne hj he => by
      rcases ho m he with h | h
      · exact hne (hr.inj k j m h hj)
      · have := (hr.blt j m hj).1; omega
    rcases key h1 with ⟨e1, e2⟩ | ⟨e1, e2⟩ <;> rcases key h2 with ⟨f1, f2⟩ | ⟨f1, f2⟩
    · rw [e1, f1]
    · exact (kk f1 f2 e2).elim
    · exact (kk e1 e2 f2).elim
    · exact hr.inj j j' m e2 f2
  okf := fun m hm => by
    refine ⟨Nat.lt_of_lt_of_le (hr.okf m hm).1 hc.size, fun j hj => ?_⟩
    by_cases e : k = j
    · subst e
      rw [List.getElem?_set_self hk] at hj
      rcases ho m (Option.some.inj hj) with h | h
      · exact (hr.okf m hm).2 k h
      · have := (hr.okf m hm).1; omega
    · rw [List.getElem?_set_ne e] at hj; exact (hr.okf m hm).2 j hj
  blt := fun j m hj => by
    by_cases e : k = j
    · subst e
      rw [List.getElem?_set_self hk] at hj
      rcases ho m (Option.some.inj hj) with h | h
      · exact ⟨Nat.lt_of_lt_of_le (hr.blt k m h).1 hc.size, (hr.blt k m h).2⟩
      · exact ⟨h.2, .inl (Nat.le_trans hr.gsz h.1)⟩
    · rw [List.getElem?_set_ne e] at hj
      exact ⟨Nat.lt_of_lt_of_le (hr.blt j m hj).1 hc.size, (hr.blt j m hj).2⟩
  prot := fun m hm ho' => (hc.keep m (Nat.lt_of_lt_of_le hm hr.gsz) (fun e => by
    rcases (hr.blt k m e).2 with h | h
    · omega
    · exact ho' h)).trans (hr.prot m hm ho')
  gsz := Nat.le_trans hr.gsz hc.size
  os := hc.os.trans hr.os
  out := hc.out.trans hr.out
  tape := hc.tape.trans hr.tape
  ok0 := hr.ok0
  org := hr.org
def nrS (k : Nat) : List (Nat × Dat) → Bool
  | [] => true
  | (_, d) :: r => nr k d && nrS k r
theorem nrS_lk : ∀ {l : List (Nat × Dat)} {t : Nat} {d : Dat}, nrS k l = true → lk l t = some d → nr k d = true
  | (i, e) :: r, t, d, h, hl => by
    rw [lk_cons] at hl
    simp only [nrS, Bool.and_eq_true] at h
    split at hl
    · obtain rfl := Option.some.inj hl; exact h.1
    · exact nrS_lk h.2 hl
theorem Rep.rebox {a : Act} (hr : Rep G ⟨sl, bx, n⟩ a w β ok) (hk : k < β.length) (hn : nrBx k bx = true) (hc : Chg w w' (fun b => β[k]? = some (some b))) {b : Box} (hb : BoxOk w' ok (β.set k o') o' b)
    (ho : ∀ m, o' = some m → β[k]? = some (some m) ∨ (w.heap.size ≤ m ∧ m < w'.heap.size)) (hs : ∀ t d, lk sl1 t = some d → lk sl t = some d) (h2 : nrS k sl1 = true) : Rep G ⟨sl1, bx.set k b, n⟩ a w' (β.set k o') ok :=
  { hr.toRepB.rebox hk hn hc hb ho with hd := hr.hd, hs := hr.hs, sl := fun t d ht => ⟨(hr.sl t d (hs t d ht)).1, (hr.sl t d (hs t d ht)).2.re hr.toRepB hc (nrS_lk h2 ht)⟩ }
theorem BoxOk.arr_inv {o : Option Nat} {l : List Dat} {sz : Nat} {e : TypeId} (h : BoxOk w ok β o (.arr l sz e)) : (o = none ∧ l = []) ∨
    ∃ b vs us, o = some b ∧ w.heap[b]? = some (.cells (vs ++ us).toArray e (0, 0)) ∧ EncL w ok (l.flatMap Dat.cells) vs ∧ (∀ v ∈ vs, one v = true) ∧ ∀ d ∈ l, d.cells.length = sz := by
  cases h with
  | anil => exact .inl ⟨rfl, rfl⟩
  | arr hb h h1 hz => exact .inr ⟨_, _, _, rfl, hb, h, h1, hz⟩
theorem flat_len {sz : Nat} : ∀ {l : List Dat}, (∀ d ∈ l, d.cells.length = sz) → (l.flatMap Dat.cells).length = l.length * sz
  | [], _ => by simp
  | d :: l, h => by
    simp only [List.flatMap_cons, List.length_append, List.length_cons, Nat.add_mul]
    rw [h d List.mem_cons_self, flat_len (fun e he => h e (List.mem_cons_of_mem _ he))]; omega
theorem Enc.os_inv {sz off m : Nat} {v : Value} (h : Enc w ok β (.os sz k off m) v) : (v = .slice none 0 0 ∧ β[k]? = some none ∧ off = 0 ∧ m = 0) ∨
    ∃ b c cells t, v = .slice (some ⟨b, off * sz, none⟩) m c ∧ β[k]? = some (some b) ∧ w.heap[b]? = some (.cells cells t (0, 0)) ∧ m ≤ c ∧ c ≤ maxLen ∧ (off + c) * sz = cells.size := by
  cases h with
  | closed h => cases h
  | osnil h => exact .inl ⟨rfl, h, rfl, rfl⟩
  | os h hb hn hm hc => exact .inr ⟨_, _, _, _, rfl, h, hb, hn, hm, hc⟩
/-- 's = append(s, xs...)', of a row of one's own. -/
theorem TL.append {t1 : TypeId} {x y : Operand} {i ie : TI} {e : TypeId} {sz by_ : Nat} {l ds : List Dat} (ks : List Nat) (hi : lkT X.tab t1 = some i) (hd : i.desc = .slice e) (hie : lkT X.tab e = some ie) (hsz : ie.size = sz) (hbt : ie.bytes = by_) (hz : Nat.beq ie.zero.cells.size ie.size = true)
    (hx : ev sl x = some (.os sz k 0 l.length)) (hb : bx[k]? = some (.arr l sz e)) (hy : ev sl y = some (.sl sz ds)) (hne : Nat.blt 0 ds.length = true) (h63 : l.length + ds.length ≤ maxLen) (hby : (l.length + ds.length) * by_ ≤ 140737488355328)
    (hn : nrBx k bx = true) (h1 : Go.Am.only ks sl [] = some sl1) (h2 : nrS k sl1 = true) (hbx : setK k (.arr (l ++ ds) sz e) bx some = some bx') (ht : Nat.blt t n = true)
    (hk : TL X ops rest ⟨(t, .os sz k 0 (l ++ ds).length) :: sl1, bx', n⟩ Q) :
    TL X ops ({ dst := some t, op := .call { callee := .builtin .append, args := #[x, y], argTypes := #[t1, t1] }, type := ty, pos := pos, after := after, guard := none } :: rest) ⟨sl, bx, n⟩ Q := fun G a w β ok hr => by
  obtain rfl := Option.some.inj (setK_eq _ _ _ _ _ hbx)
  subst hsz hbt
  have u1 := (X.tok _ _ hi).desc
  obtain ⟨xi, i1, i2, i3, i4⟩ := (X.tok _ _ hie).info
  rw [hd] at u1
  have hklt : k < β.length := by rw [hr.len]; exact (List.getElem?_eq_some_iff.1 hb).1
  have hbox := hr.bxs k _ _ hb (List.getElem?_eq_getElem hklt)
  have hm : 0 < ds.length := Nat.le_of_ble_eq_true hne
  have ex := (hr.kn x _ hx).os_inv
  rcases (hr.kn y _ hy).sl_inv with ⟨h0, _⟩ | ⟨pa, c, ey, hc, es⟩
  · rw [h0] at hm; cases hm
  obtain ⟨news, n1, n2, n3, n4, n5⟩ := es.vals
  have hlk : ∀ t d, lk sl1 t = some d → lk sl t = some d := only_lk ks sl [] sl1 h1 (fun _ _ h => by simp [lk] at h)
  have hk0 : β[k]? = some β[k] := List.getElem?_eq_getElem hklt
  obtain ⟨vs, us, v1, v2, v3, v4, v5⟩ : ∃ vs us : List Value, vs.length = l.length * xi.size ∧ EncL w ok (l.flatMap Dat.cells) vs ∧ (∀ v ∈ vs, one v = true) ∧ (∀ d ∈ l, d.cells.length = ie.size) ∧
      ((a.eval x = .slice none 0 0 ∧ l.length = 0 ∧ vs = [] ∧ us = []) ∨ ∃ g c, a.eval x = .slice (some ⟨g, 0, none⟩) l.length c ∧ w.heap[g]? = some (.cells (vs ++ us).toArray e (0, 0)) ∧ l.length ≤ c ∧ c ≤ maxLen ∧ c * xi.size = (vs ++ us).length) := by
    rcases ex with ⟨ex, hβ, _, h0⟩ | ⟨b, c, cells, t', ex, hβ, hh, hnc, hcm, hcs⟩
    · have hl0 : l = [] := List.length_eq_zero_iff.1 h0
      subst hl0
      exact ⟨[], [], by simp, .nil, (fun _ h => by cases h), (fun _ h => by cases h), .inl ⟨ex, rfl, rfl, rfl⟩⟩
    · rw [hk0] at hβ
      rw [Option.some.inj hβ] at hbox
      rcases hbox.arr_inv with ⟨h, _⟩ | ⟨b', vs, us, hb', hh', hv, hv1, hv2⟩
      · cases h
      · obtain rfl := Option.some.inj hb'
        rw [hh] at hh'
        injection hh' with hh'; injection hh' with e1 e2 e3
        subst e1 e2
        refine ⟨vs, us, by rw [← hv.length, flat_len hv2, i2], hv, hv1, hv2, .inr ⟨b, c, by rw [ex, Nat.zero_mul], hh, hnc, hcm, ?_⟩⟩
        rw [i2, ← List.size_toArray, ← hcs, Nat.zero_add]
  obtain ⟨b', c', us', w', g1, g2, g3, g4, g5, g6, g7⟩ := append_run (P := X.P) w t1 ty e xi ie.zero u1 i1 i4 (by rw [i2]; exact Nat.eq_of_beq_eq_true hz) (a.eval x) vs us l.length v1 v5 pa ds.length c news (by rw [n2, i2]) n3 n4 hm h63 (by rw [i3]; exact hby)
  have hown : ∀ b, (a.eval x).ownBlock = some b → β[k]? = some (some b) := fun b hb' => by
    rcases ex with ⟨ex, _⟩ | ⟨b1, c1, _, _, ex, hβ, _⟩
    · rw [ex] at hb'; simp [Value.ownBlock] at hb'
    · rw [ex] at hb'; simp [Value.ownBlock] at hb'; rw [← hb']; exact hβ
  have hc' : Chg w w' (fun b => β[k]? = some (some b)) := ⟨g6.os, g6.out, g6.tape, g6.size, fun b hb hb' => g6.keep b hb (fun h => hb' (hown b h))⟩
  have hst : Stay w w' ok ok := ⟨fun _ h => h, fun b hb => hc'.keep b (hr.okf b hb).1 ((hr.okf b hb).2 k)⟩
  have hre := hr.rebox (sl1 := sl1) (o' := some b') hklt hn hc' (b := .arr (l ++ ds) ie.size e) (.arr g2 (by rw [List.flatMap_append]; exact (v2.mono hst).append (n1.mono hst)) (fun v hv => (List.mem_append.1 hv).elim (v3 v) (n4 v)) (fun d hd => (List.mem_append.1 hd).elim (v4 d) (n5 d)))
    (fun m hm => by
      obtain rfl := Option.some.inj hm
      rcases g7 with h | h
      · exact .inl (hown _ h)
      · exact .inr ⟨by rw [h.1]; exact Nat.le_refl _, by rw [h.1]; exact h.2⟩) hlk h2
  refine wp_value (v := .slice (some ⟨b', 0, none⟩) (l.length + ds.length) c') (w1 := w') rfl ?_ (hk G _ _ _ _ (hre.put ht ?_))
  · simp only [execOp, resolve, invoke, builtin, Sem.run_bind, Sem.run_pure, Result.andThen_ok, List.map_toArray, List.map_cons, List.map_nil, ey, g1]
  · rw [List.length_append]
    have := Enc.os (ok := ok) (off := 0) (sz := ie.size) (List.getElem?_set_self (a := some b') hklt) g2 g3 g4 (by rw [Nat.zero_add, ← i2, g5, List.size_toArray])
    rwa [Nat.zero_mul] at this
/-- A nil slice is a row of one's own. -/
theorem Gst.nilRow (sz : Nat) (e : TypeId) (hl : lk sl t = some (.val (.slice none 0 0))) : Gst ⟨sl, bx, n⟩ ⟨(t, .os sz bx.length 0 0) :: sl, bx ++ [.arr [] sz e], n⟩ := fun G a w β ok hr => by
  have h1 := hr.newBox (o := none) (b := .arr [] sz e) .anil (fun _ h => by cases h)
  refine ⟨_, _, { h1 with sl := fun s d hs => ?_ }⟩
  rw [lk_cons] at hs
  split at hs
  · rename_i e'; subst e'
    obtain rfl := Option.some.inj hs
    have h2 := h1.sl t _ hl
    refine ⟨h2.1, ?_⟩
    rw [h2.2.val_inv.1]
    exact .osnil (by rw [← hr.len, List.getElem?_append_right (Nat.le_refl _)]; simp)
  · exact h1.sl s d hs
/-- A row that nobody writes any more. -/
theorem Gst.freezeRow {sz : Nat} {e : TypeId} {l : List Dat} (ks : List Nat) (hx : lk sl t = some (.os sz k 0 l.length)) (hb : bx[k]? = some (.arr l sz e)) (hn : nrBx k bx = true) (h1 : Go.Am.only ks sl [] = some sl1) (h2 : nrS k sl1 = true)
    (hbx : setK k .gone bx some = some bx') : Gst ⟨sl, bx, n⟩ ⟨(t, .sl sz l) :: sl1, bx', n⟩ := fun G a w β ok hr => by
  obtain rfl := Option.some.inj (setK_eq _ _ _ _ _ hbx)
  have hklt : k < β.length := by rw [hr.len]; exact (List.getElem?_eq_some_iff.1 hb).1
  have hlk : ∀ t d, lk sl1 t = some d → lk sl t = some d := only_lk ks sl [] sl1 h1 (fun _ _ h => by simp [lk] at h)
  have hbox := hr.bxs k _ _ hb (List.getElem?_eq_getElem hklt)
  have hk0 : β[k]? = some β[k] := List.getElem?_eq_getElem hklt
  have hxt := hr.sl t _ hx
  rcases hxt.2.os_inv with ⟨ex, hβ, _, h0⟩ | ⟨b, c, cells, t', ex, hβ, hh, hnc, hcm, hcs⟩
  · have hl0 : l = [] := List.length_eq_zero_iff.1 h0
    subst hl0
    have hre := hr.rebox (sl1 := sl1) (o' := none) hklt hn (Chg.refl w _) (b := .gone) .gone (fun _ h => by cases h) hlk h2
    refine ⟨_, _, { hre with sl := fun s d hs => ?_ }⟩
    rw [lk_cons] at hs
    split at hs
    · rename_i e'; subst e'
      obtain rfl := Option.some.inj hs
      refine ⟨hxt.1, ?_⟩
      rw [ex]; exact .closed .slnil
    · exact hre.sl s d hs
  · have hg := hr.toRepB.give hβ hn
    rw [hk0] at hβ
    rw [Option.some.inj hβ] at hbox
    rcases hbox.arr_inv with ⟨h, _⟩ | ⟨b', vs, us, hb', hh', hv, hv1, hv2⟩
    · cases h
    obtain rfl := Option.some.inj hb'
    refine ⟨_, _, { hg with hd := hr.hd, hs := hr.hs, sl := fun s d hs => ?_ }⟩
    rw [lk_cons] at hs
    split at hs
    · rename_i e'; subst e'
      obtain rfl := Option.some.inj hs
      refine ⟨hxt.1, ?_⟩
      rw [ex]
      have h0 : EncL w (fun m => ok m ∨ m = b) (l.flatMap Dat.cells) vs := hv.mono ⟨fun _ h => .inl h, fun _ _ => rfl⟩
      have hC := EncL.toC hh' (.inr rfl) 0 h0 hv1 (fun j v hj => by
        have hlt := (List.getElem?_eq_some_iff.1 hj).1
        simp [List.getElem?_append_left hlt, hj])
      have := Enc0.sl (w := w) (ok := fun m => ok m ∨ m = b) (c := c) rfl hnc (hC.flat hv2)
      rw [Nat.zero_mul]
      exact .closed this
    · exact ⟨(hr.sl s d (hlk s d hs)).1, (hr.sl s d (hlk s d hs)).2.nr (fun _ h => .inl h) (nrS_lk h2 hs)⟩
/-- '[]T{..}', a row of one's own. -/
theorem TL.litRow {st : TypeId} {len sz : Nat} {parts : Array (Nat × Operand)} {i ie : TI} {e : TypeId} {ds : List Dat} (hi : lkT X.tab st = some i) (hd : i.desc = .slice e) (hie : lkT X.tab e = some ie) (hsz : ie.size = sz) (hlen : parts.toList.length = len) (hsm : Nat.ble (len * sz) 16777216 = true) (hlm : Nat.ble len 16777216 = true)
    (hp : partsK sz sl 0 parts.toList = some ds) (ht : Nat.blt t n = true) (hk : TL X ops rest ⟨(t, .os sz bx.length 0 ds.length) :: sl, bx ++ [.arr ds sz e], n⟩ Q) :
    TL X ops ({ dst := some t, op := .buildSlice st len parts, type := ty, pos := pos, after := after, guard := none } :: rest) ⟨sl, bx, n⟩ Q := fun G a w β ok hr => by
  subst hsz
  have u1 := run_underlying' (X.tok _ _ hi) w
  have u2 := run_sizeOf' (X.tok _ _ hie) w
  have u3 := run_zeroValue' (X.tok _ _ hie) w
  rw [hd] at u1
  have hsm' : ¬ (len * ie.size > 2 ^ 24) := by have := Nat.le_of_ble_eq_true hsm; omega
  let zs : Array Value := (Array.range (len * ie.size)).map fun q => ie.zero.cells[q % ie.zero.cells.size]!
  obtain ⟨vs, g1, g2, g3, g4, g5⟩ := partsK_run hr.kn zs.toList hp (by simp [zs, hlen])
  simp only [Nat.zero_mul, List.take_zero, List.nil_append] at g1
  have hr0 := hr.grow (Chg.alloc w (.cells vs.toArray e (0, 0)) _)
  have g2' : EncL (w.alloc (.cells vs.toArray e (0, 0))) ok (ds.flatMap Dat.cells) vs := g2.mono ⟨fun _ h => h, fun b hb => Below.heap_alloc w _ b (hr.okf b hb).1⟩
  have hr' := hr0.newBox (o := some w.heap.size) (b := .arr ds ie.size e) (.arr (us := []) (by rw [List.append_nil]; exact alloc_new w _) g2' g3 g4) (fun m hm => by
    obtain rfl := Option.some.inj hm
    refine ⟨by rw [alloc_size]; omega, hr.gsz, fun h => ?_, fun k hk => ?_⟩
    · have := (hr.okf _ h).1; omega
    · have := (hr.blt k _ hk).1; omega)
  have hle : len ≤ maxLen := by have := Nat.le_of_ble_eq_true hlm; simp only [maxLen]; omega
  have hos := Enc.os (w := w.alloc (.cells vs.toArray e (0, 0))) (ok := ok) (β := β ++ [some w.heap.size]) (sz := ie.size) (k := bx.length) (off := 0) (n := len) (c := len) (b := w.heap.size) (t := e) (cells := vs.toArray) (by rw [← hr.len]; simp) (alloc_new w _) (Nat.le_refl _) hle (by rw [List.size_toArray, ← g2.length, flat_len g4, g5, hlen, Nat.zero_add])
  rw [Nat.zero_mul, ← hlen, ← g5] at hos
  rw [g5, hlen] at hos hk
  refine wp_value (v := .slice (some ⟨w.heap.size, 0, none⟩) len len) (w1 := w.alloc (.cells vs.toArray e (0, 0))) rfl ?_ (hk G _ _ _ _ (hr'.put ht hos))
  have g1' : Instr.fill (fun q => some (q * ie.size, ie.size)) zs (parts.toList.map fun x => (x.1, a.eval x.2)) = some vs.toArray := by simpa using g1
  by_cases h0 : len * ie.size = 0
  · have hz0 : zs = #[] := by
      apply Array.toList_inj.1
      apply List.length_eq_zero_iff.1
      simp [zs, h0]
    rw [hz0] at g1'
    simp only [execOp, Instr.buildSlice]
    simp [u1, u2, h0, newRow, newObj]
    have e0 : (Array.map (fun _ : Nat => (default : Value)) (Array.range 0)) = #[] := by simp
    rw [e0, g1']
    rfl
  · simp only [execOp, Instr.buildSlice]
    simp [u1, u2, u3, hsm', h0, newRow, newObj]
    simp only [zs] at g1'
    rw [g1']
    rfl
/-! ### the same region, told so that every question is settled without 'decide' -/
def wr : List Oper → Nat → Nat → Option Nat
  | [], _, _ => none
  | o :: r, t, i => match o.dst with
    | some u => bif Nat.beq u t then some i else wr r t (i + 1)
    | none => wr r t (i + 1)
theorem beqN (a b : Nat) : Nat.beq a b = decide (a = b) := by
  cases h : Nat.beq a b
  · exact (decide_eq_false (fun e => by subst e; rw [Nat.beq_refl] at h; cases h)).symm
  · exact (decide_eq_true (Nat.eq_of_beq_eq_true h)).symm
theorem wr_eq (t : Nat) : ∀ (l : List Oper) (i : Nat), wr l t i = (writer l t).map (· + i)
  | [], i => rfl
  | o :: r, i => by
    unfold writer
    rw [List.findIdx?_cons]
    simp only [wr]
    cases ho : o.dst with
    | none =>
      have : ((none : Option Nat) == some t) = false := rfl
      rw [this]
      simp only [Bool.false_eq_true, if_false]
      rw [wr_eq t r (i + 1)]
      unfold writer
      rw [Option.map_map]
      congr 1
      funext x
      show x + (i + 1) = x + 1 + i
      omega
    | some u =>
      have : ((some u : Option Nat) == some t) = Nat.beq u t := by rw [beqN]; rfl
      rw [this]
      cases hb : Nat.beq u t with
      | true => simp [hb]
      | false =>
        simp only [Bool.false_eq_true, if_false]
        rw [hb, cond_false]
        rw [wr_eq t r (i + 1)]
        unfold writer
        rw [Option.map_map]
        congr 1
        funext x
        show x + (i + 1) = x + 1 + i
        omega
theorem wr_eq0 (l : List Oper) (t : Nat) : writer l t = wr l t 0 := by rw [wr_eq]; simp
def memN (a : Nat) : List Nat → Bool
  | [] => false
  | b :: r => bif Nat.beq a b then true else memN a r
theorem memN_eq (a : Nat) : ∀ l : List Nat, l.contains a = memN a l
  | [] => rfl
  | b :: r => by
    rw [List.contains_cons, memN_eq a r, memN, beqN]
    by_cases h : a = b
    · simp [h]
    · simp [h]
def bindsN (e : Edge) : Bool := match e.ground with
  | .textOnly _ => false
  | .gcOnly _ => false
  | _ => true
theorem bindsN_eq (e : Edge) : Region.binds .any e = bindsN e := by
  unfold Region.binds bindsN
  cases e.ground <;> rfl
def bindN (o : Oper) : List Nat := (o.after.toList.filter bindsN).map fun e => e.on
theorem bindN_eq (o : Oper) : binding o = bindN o := by
  unfold binding bindN
  exact congrArg (fun p => (List.filter p o.after.toList).map fun e => e.on) (funext bindsN_eq)
def knN (l : List Oper) (vals : List Dat) (base : List (Nat × Dat)) (o : Oper) : List (Nat × Dat) :=
  (looks l o).filterMap fun t => match wr l t 0 with
    | some j => bif memN j (bindN o) then (vals[j]?).map fun d => (t, d) else (lk base t).map fun d => (t, d)
    | none => (lk base t).map fun d => (t, d)
theorem knN_eq (l : List Oper) (vals : List Dat) (base : List (Nat × Dat)) (o : Oper) : knownAt l vals base o = knN l vals base o := by
  unfold knownAt knN
  congr 1
  funext t
  rw [wr_eq0]
  cases wr l t 0 with
  | none => rfl
  | some j =>
    simp only [bindN_eq, memN_eq]
    cases memN j (bindN o) <;> rfl
def slF (l : List Oper) (vals : List Dat) (base : List (Nat × Dat)) (t : Nat) : Option Dat := match wr l t 0 with
  | some j => vals[j]?
  | none => lk base t
theorem slF_eq (l : List Oper) (vals : List Dat) (base : List (Nat × Dat)) (t : Nat) : slOf l vals base (fun _ => true) t = slF l vals base t := by
  unfold slOf slF
  rw [wr_eq0]
  cases wr l t 0 with
  | none => rfl
  | some j => simp
def OpsN (X : Prg) (l : List Oper) (vals : List Dat) (base : List (Nat × Dat)) (n : Nat) : Nat → List Oper → Prop
  | _, [] => True
  | i, o :: os => (∃ t d, o.dst = some t ∧ vals[i]? = some d ∧ TL X l.toArray [o] ⟨knN l vals base o, [], n⟩ (fun e S => e = .normal ∧ lk S.sl t = some d ∧ S.bx = [] ∧ S.n = n)) ∧ OpsN X l vals base n (i + 1) os
theorem OpsN.of {X : Prg} {l : List Oper} {vals : List Dat} {base : List (Nat × Dat)} {n : Nat} : ∀ {os : List Oper} {i : Nat}, OpsN X l vals base n i os → OpsD X l vals base n i os
  | [], _, _ => trivial
  | _ :: _, _, ⟨⟨_, _, h1, h2, h3⟩, h⟩ => ⟨OpD.mk h1 h2 (by rw [knN_eq]; exact h3), OpsN.of h⟩
theorem T.drawnN {X : Prg} {l : List Oper} {base : List (Nat × Dat)} {n id : Nat} {Q : Exit → St → Prop} (vals : List Dat) {sl' : List (Nat × Dat)} (hm : X.P.follows .mixedOrders = true) (hok : drawOk l = true) (hlen : vals.length = l.length)
    (hops : OpsN X l vals base n 0 l) (hsl : ∀ t d, lk sl' t = some d → slF l vals base t = some d) (h : Q .normal ⟨sl', [], n⟩) : T X (.region id l.toArray true) ⟨base, [], n⟩ Q :=
  T.drawn vals hm hok hlen hops.of (fun t d ht => by rw [slF_eq]; exact hsl t d ht) h
theorem OpsN.cons {X : Prg} {l : List Oper} {vals : List Dat} {base : List (Nat × Dat)} {n i t : Nat} {d : Dat} {o : Oper} {os : List Oper} (h1 : o.dst = some t) (h2 : vals[i]? = some d)
    (h3 : TL X l.toArray [o] ⟨knN l vals base o, [], n⟩ (fun e S => e = .normal ∧ lk S.sl t = some d ∧ S.bx = [] ∧ S.n = n)) (h : OpsN X l vals base n (i + 1) os) : OpsN X l vals base n i (o :: os) := ⟨⟨t, d, h1, h2, h3⟩, h⟩
theorem Lk.nil {l : List Oper} {vals : List Dat} {base : List (Nat × Dat)} : ∀ t d, lk [] t = some d → slF l vals base t = some d := fun t d h => by simp [lk] at h
theorem Lk.cons {l : List Oper} {vals : List Dat} {base r : List (Nat × Dat)} {k : Nat} {e : Dat} (h : slF l vals base k = some e) (hr : ∀ t d, lk r t = some d → slF l vals base t = some d) :
    ∀ t d, lk ((k, e) :: r) t = some d → slF l vals base t = some d := fun t d ht => by
  rw [lk_cons] at ht
  split at ht
  · rename_i e'; subst e'
    obtain rfl := Option.some.inj ht
    exact h
  · exact hr t d ht
end
end Go.Am
