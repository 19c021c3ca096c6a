/- Chapter 5's rows, told plainly: rows alike, values, the whole file; the laws ScanAll, ScanWhole, ScanMarks. -/
import Derived.Test.YtbogkjbjgcclnaaScaB
set_option linter.unusedVariables false
namespace Go.Proofs.Ytbogkjbjgcclnaa.S
open Go Go.Sm
theorem starts_spec (b : List UInt8) (hb : b.length ≤ 1000000) (i : Nat) (hi : i ≤ b.length) : (∀ j ∈ (fs b i).1, j ≤ b.length) ∧ (fs b i).1.length ≤ 1000001 := by
  obtain ⟨h1, h2, h3, h4, h5, h6⟩ := fsF_spec b hb b.length i (by omega) hi
  exact ⟨h5, by have : (fs b i).1.length ≤ b.length + 1 - i := h6
                omega⟩
theorem places_good {b : List UInt8} (hb : b.length ≤ 1000000) {i : Nat} (hi : i ≤ b.length) : GoodP (fieldF b i).2.1 ∧ (fieldF b i).2.1.length ≤ 1000000 ∧ ∀ x ∈ (fieldF b i).2.1, 0 ≤ x ∧ x < (b.length : Int) := by
  obtain ⟨s1, s2, s3, s4, s5⟩ := fieldF_spec b hb i hi
  exact ⟨fun x hx => by have := s4 x hx; omega, by omega, s4⟩
theorem like5_eq (b : List UInt8) (hb : b.length ≤ 1000000) (i : Nat) (hi : i ≤ b.length) : law05_like (sRow b i) (rRow b i) = some true := by
  obtain ⟨h1, h2⟩ := starts_spec b hb i hi
  obtain ⟨t, g1, g2⟩ := loop_for (f := law05_like.l2 (sRow b i) (rRow b i)) (σ := Unit) (fun k _ => k) (fs b i).1 (fun _ _ => True) (fun t => t = Ex.brk ())
    (fun pre j suf _ hs _ => by
      have hj : j ≤ b.length := h1 j (by rw [hs]; simp)
      obtain ⟨p1, p2, p3⟩ := places_good hb hj
      have hc := canon_len (fieldF b j).2.1
      have hpl : pre.length + 1 ≤ (fs b i).1.length := by rw [hs]; simp
      refine .inl ⟨(), ?_, trivial⟩
      unfold law05_like.l2
      rw [show (sRow b i).fFields = (fs b i).1.map (sField b) from rfl, show (rRow b i).fFields = (fs b i).1.map (rField b) from rfl, if_pos (by simp; omega), idx_map, idx_map, show idx (fs b i).1 (pre.length : Int) = some j by rw [hs]; exact idx_at pre j suf]
      simp only [Option.map_some, bnd_some']
      rw [partsLoop (sField b j) (by show (canon _).length ≤ _; omega), bnd_some', if_pos (show (sField b j).fRaw.fAt = (rField b j).fRaw.fAt from rfl), if_pos (show (sField b j).fRaw.fN = (rField b j).fRaw.fN from rfl), if_pos (show (sField b j).fKind = (rField b j).fKind from rfl), show (rField b j).fBytes = (fieldF b j).2.1 from rfl, refSpans_eq _ p1 p2, bnd_some', show (sField b j).fParts = canon (fieldF b j).2.1 from rfl, same2_eq _ _ (by simp; omega), bnd_some', decide_eq_true rfl, bnd_some', if_neg (by simp), w64_id ⟨by omega, by omega⟩])
    (fun _ _ => by
      refine ⟨_, ?_, rfl⟩
      unfold law05_like.l2
      rw [show (sRow b i).fFields = (fs b i).1.map (sField b) from rfl, if_neg (by simp)]) (s0 := ()) trivial
  subst g2
  unfold law05_like
  rw [if_pos (by simp [sRow, rRow]), show (sRow b i).fEnd = (rRow b i).fEnd from rfl, beq_self_eq_true, bnd_some', if_neg (by simp), g1, bnd_some']
/-! ### values -/
def bytesAt (b : List UInt8) (p : List Int) : List UInt8 := p.filterMap fun x => b[x.toNat]?
theorem bytesAt_append (b : List UInt8) (p r : List Int) : bytesAt b (p ++ r) = bytesAt b p ++ bytesAt b r := by simp [bytesAt]
theorem bytesAt_len (b : List UInt8) (p : List Int) : (bytesAt b p).length ≤ p.length := List.length_filterMap_le _ _
theorem take_one (b : List UInt8) (n : Nat) (h : n < b.length) : b.take (n + 1) = b.take n ++ [b[n]] := List.take_succ_eq_append_getElem h
theorem bytes_range (b : List UInt8) (a : Nat) : ∀ n, a + n ≤ b.length → (b.take (a + n)).drop a = bytesAt b (rangeI (a : Int) n)
  | 0, h => by rw [List.drop_eq_nil_of_le (by simp; omega)]; rfl
  | n + 1, h => by
    rw [← Nat.add_assoc, take_one b (a + n) (by omega), List.drop_append_of_le_length (by simp; omega), bytes_range b a n (by omega), rangeI_succ, bytesAt_append]
    congr 1
    simp only [bytesAt, List.filterMap_cons, List.filterMap_nil]
    rw [show ((a : Int) + (n : Int)).toNat = a + n by omega, List.getElem?_eq_getElem (by omega)]
theorem text_eq (b : List UInt8) (hb : b.length ≤ 1000000) (p : List Int) (hp : ∀ x ∈ p, 0 ≤ x ∧ x < (b.length : Int)) (hl : p.length ≤ 1000000) : ref05_Text b p = some (bytesAt b p) := by
  have h := loop_fold (f := ref05_Text.l1 b p) (fun i (s : List UInt8) => (s, i)) p (fun pre => bytesAt b pre) (t := bytesAt b p)
    (fun pre x suf hs => by
      have hx := hp x (by rw [hs]; simp)
      have hpl : pre.length + 1 ≤ p.length := by rw [hs]; simp
      have hbl := bytesAt_len b pre
      unfold ref05_Text.l1
      simp only
      rw [if_pos (by omega), show idx p (pre.length : Int) = some x by rw [hs]; exact idx_at pre x suf, bnd_some', w64_id (x := x + 1) ⟨by omega, by omega⟩, cut_of ⟨by omega, by omega, by omega⟩, bnd_some', w64_id ⟨by omega, by omega⟩]
      have e : (b.take (x + 1).toNat).drop x.toNat = bytesAt b [x] := by
        have := bytes_range b x.toNat 1 (by omega)
        rw [show (x + 1).toNat = x.toNat + 1 by omega, this, show rangeI ((x.toNat : Nat) : Int) 1 = [x] by simp [rangeI]; omega]
      rw [e, bytesAt_append]
      have hl1 := bytesAt_len b [x]
      simp only [List.length_cons, List.length_nil] at hl1
      rw [catS, if_pos (by omega), bnd_some'])
    (by
      unfold ref05_Text.l1
      simp only
      rw [if_neg (by omega)])
  unfold ref05_Text
  have h' : loop (ref05_Text.l1 b p) ([], 0) = some (bytesAt b p) := by simpa [bytesAt] using h
  rw [h', bnd_some']
theorem value_eq (b : List UInt8) (hb : b.length ≤ 1000000) (i : Nat) (hi : i ≤ b.length) : scan_Value b (sField b i) = some (bytesAt b (fieldF b i).2.1) := by
  obtain ⟨p1, p2, p3⟩ := places_good hb hi
  generalize hp : (fieldF b i).2.1 = p at *
  have hf : (sField b i).fParts = canon p := by rw [← hp]; rfl
  have hc := canon_len p
  have hg := canon_good p p1
  have h := loop_fold (f := scan_Value.l1 b (sField b i)) (fun k (s : List UInt8) => (k, s)) (canon p) (fun pre => bytesAt b (expand pre)) (t := bytesAt b p)
    (fun pre x suf hs => by
      obtain ⟨g1, g2, g3⟩ := exp_sub p1 (show canon p = pre ++ (x :: suf) from hs)
      have hx : Good x := hg x (by rw [hs]; simp)
      have hpl : pre.length + 1 ≤ (canon p).length := by rw [hs]; simp
      have hbl := bytesAt_len b (expand pre)
      have hin : x.fAt + x.fN ≤ (b.length : Int) := by
        simp only [Good] at hx
        have hm : x.fAt + ((x.fN.toNat - 1 : Nat) : Int) ∈ p := by
          rw [g3, show x :: suf = [x] ++ suf from rfl, expand_append, expand_one]
          simp only [exp1, rangeI, List.mem_append, List.mem_map, List.mem_range]
          exact .inr (.inl ⟨x.fN.toNat - 1, by omega, rfl⟩)
        have := p3 _ hm
        omega
      simp only [Good] at hx
      unfold scan_Value.l1
      rw [hf]
      simp only
      rw [if_pos (by omega), show idx (canon p) (pre.length : Int) = some x by rw [hs]; exact idx_at pre x suf, bnd_some', if_pos (by omega), if_pos (by omega), if_pos (by omega), w64_id (x := (b.length : Int) - x.fAt) ⟨by omega, by omega⟩, decide_eq_true (by omega), bnd_some', if_pos rfl, w64_id (x := x.fAt + x.fN) ⟨by omega, by omega⟩, cut_of ⟨by omega, by omega, by omega⟩, bnd_some']
      have e : (b.take (x.fAt + x.fN).toNat).drop x.fAt.toNat = bytesAt b (exp1 x) := by
        have := bytes_range b x.fAt.toNat x.fN.toNat (by omega)
        rw [show (x.fAt + x.fN).toNat = x.fAt.toNat + x.fN.toNat by omega, this, exp1, show ((x.fAt.toNat : Nat) : Int) = x.fAt by omega]
      rw [e, expand_append, expand_one, bytesAt_append]
      have hl1 := bytesAt_len b (exp1 x)
      simp only [exp1, rangeI_len] at hl1
      rw [app_of (by simp only [exp1]; omega), bnd_some', bnd_some', w64_id ⟨by omega, by omega⟩])
    (by
      unfold scan_Value.l1
      rw [hf]
      simp only
      rw [if_neg (by omega), canon_expand p p1])
  unfold scan_Value
  have h' : loop (scan_Value.l1 b (sField b i)) (0, []) = some (bytesAt b p) := by simpa [bytesAt, expand] using h
  rw [h', bnd_some']
/-! ### the laws -/
theorem cut5_eq (a : List UInt8) (n : Nat) : law05_cut a (n : Int) = some (a.take n) := by
  unfold law05_cut
  by_cases h : (a.length : Int) > (n : Int)
  · rw [if_pos h, cut_of ⟨by omega, by omega, by omega⟩, bnd_some']; simp
  · rw [if_neg h, List.take_of_length_le (by omega)]
theorem awake5_eq : law05_awake = some true := by
  have hb : ([97, 44, 34, 98, 34, 34, 99, 34, 100] : List UInt8).length ≤ 1000000 := by simp
  have hr : rs [97, 44, 34, 98, 34, 34, 99, 34, 100] = [0] := by decide +kernel
  have hf : (sRow [97, 44, 34, 98, 34, 34, 99, 34, 100] 0).fFields = [sField [97, 44, 34, 98, 34, 34, 99, 34, 100] 0, sField [97, 44, 34, 98, 34, 34, 99, 34, 100] 2] := by decide +kernel
  have hk : sField [97, 44, 34, 98, 34, 34, 99, 34, 100] 2 = ⟨⟨2, 7⟩, 3, [⟨3, 2⟩, ⟨6, 1⟩, ⟨8, 1⟩]⟩ := by decide +kernel
  have hv := value_eq [97, 44, 34, 98, 34, 34, 99, 34, 100] hb 2 (by simp)
  have hv2 : bytesAt [97, 44, 34, 98, 34, 34, 99, 34, 100] (fieldF [97, 44, 34, 98, 34, 34, 99, 34, 100] 2).2.1 = [98, 34, 99, 100] := by decide +kernel
  unfold law05_awake
  rw [sAll_eq _ hb, bnd_some', hr]
  simp only [List.map_cons, List.map_nil]
  rw [if_pos (by rfl), show idx [sRow [97, 44, 34, 98, 34, 34, 99, 34, 100] 0] 0 = some (sRow [97, 44, 34, 98, 34, 34, 99, 34, 100] 0) from rfl, bnd_some', hf, bnd_some', if_neg (by simp)]
  simp only [bnd_some']
  rw [hf,
    show idx [sField [97, 44, 34, 98, 34, 34, 99, 34, 100] 0, sField [97, 44, 34, 98, 34, 34, 99, 34, 100] 2] 1 = some (sField [97, 44, 34, 98, 34, 34, 99, 34, 100] 2) from rfl, bnd_some', hv, hv2, hk]
  rfl
theorem ScanAll_holds (a0 : List UInt8) (w0 : a0.length ≤ maxLen) : law05_ScanAll a0 = some true := by
  unfold law05_ScanAll
  rw [show ((1000 : Int)) = ((1000 : Nat) : Int) from rfl, cut5_eq, bnd_some']
  generalize hbb : a0.take 1000 = b
  have hb : b.length ≤ 1000000 := by rw [← hbb]; simp; omega
  obtain ⟨r1, r2⟩ := rsF_spec b hb b.length 0 (by omega)
  have hin : ∀ (i : Nat) (R : List ref05_Row) (k : Int), i ≤ b.length → idx R k = some (rRow b i) → loop (law05_ScanAll.l1 b R k (sRow b i)) 0 = some (Ex.brk ()) := fun i R k hi hR => by
    obtain ⟨h1, h2⟩ := starts_spec b hb i hi
    obtain ⟨t, g1, g2⟩ := loop_for (f := law05_ScanAll.l1 b R k (sRow b i)) (σ := Unit) (fun k _ => k) (fs b i).1 (fun _ _ => True) (fun t => t = Ex.brk ())
      (fun pre j suf _ hs _ => by
        have hj : j ≤ b.length := h1 j (by rw [hs]; simp)
        obtain ⟨p1, p2, p3⟩ := places_good hb hj
        have hpl : pre.length + 1 ≤ (fs b i).1.length := by rw [hs]; simp
        refine .inl ⟨(), ?_, trivial⟩
        unfold law05_ScanAll.l1
        rw [show (sRow b i).fFields = (fs b i).1.map (sField b) from rfl, if_pos (by simp; omega), idx_map, show idx (fs b i).1 (pre.length : Int) = some j by rw [hs]; exact idx_at pre j suf]
        simp only [Option.map_some, bnd_some']
        rw [value_eq b hb j hj, bnd_some', hR, bnd_some', show (rRow b i).fFields = (fs b i).1.map (rField b) from rfl, idx_map, show idx (fs b i).1 (pre.length : Int) = some j by rw [hs]; exact idx_at pre j suf]
        simp only [Option.map_some, bnd_some']
        rw [show (rField b j).fBytes = (fieldF b j).2.1 from rfl, text_eq b hb _ p3 p2, bnd_some', if_pos rfl, w64_id ⟨by omega, by omega⟩])
      (fun _ _ => by
        refine ⟨_, ?_, rfl⟩
        unfold law05_ScanAll.l1
        rw [show (sRow b i).fFields = (fs b i).1.map (sField b) from rfl, if_neg (by simp)]) (s0 := ()) trivial
    rw [g1, g2]
  have hout : loop (law05_ScanAll.l2 b ((rs b).map (sRow b)) ((rs b).map (rRow b))) 0 = some (Ex.brk ()) := by
    obtain ⟨t, g1, g2⟩ := loop_for (f := law05_ScanAll.l2 b ((rs b).map (sRow b)) ((rs b).map (rRow b))) (σ := Unit) (fun k _ => k) (rs b) (fun _ _ => True) (fun t => t = Ex.brk ())
      (fun pre j suf _ hs _ => by
        have hj : j ≤ b.length := Nat.le_of_lt (r1 j (by rw [show rsF b b.length 0 = rs b from rfl, hs]; simp))
        have hpl : pre.length + 1 ≤ (rs b).length := by rw [hs]; simp
        have hlr : (rs b).length ≤ b.length := r2
        refine .inl ⟨(), ?_, trivial⟩
        have hjx : idx (rs b) (pre.length : Int) = some j := by rw [hs]; exact idx_at pre j suf
        unfold law05_ScanAll.l2
        rw [if_pos (by simp; omega), idx_map, idx_map, hjx]
        simp only [Option.map_some, bnd_some']
        rw [like5_eq b hb j hj, bnd_some', if_pos rfl, hin j _ _ hj (by rw [idx_map, hjx]; rfl), bnd_some']
        simp only
        rw [w64_id ⟨by omega, by omega⟩])
      (fun _ _ => by
        refine ⟨_, ?_, rfl⟩
        unfold law05_ScanAll.l2
        rw [if_neg (by simp)]) (s0 := ()) trivial
    rw [g1, g2]
  rw [sAll_eq b hb, bnd_some', rAll_eq b hb, bnd_some', if_pos (by simp), hout, bnd_some']
  simp only
  rw [awake5_eq, bnd_some']
theorem raw_ok (b : List UInt8) (hb : b.length ≤ 1000000) (i : Nat) (hi : i ≤ b.length) : (b.take i) ++ ((b.take (fe b i)).drop i) = b.take (fe b i) := by
  obtain ⟨s1, s2, s3, s4, s5⟩ := fieldF_spec b hb i hi
  have h0 : i ≤ fe b i := s1
  have : b.take i = (b.take (fe b i)).take i := by rw [List.take_take, Nat.min_eq_left h0]
  rw [this, List.take_append_drop]
theorem wholeIn (b : List UInt8) (hb : b.length ≤ 1000000) (R : scan_Row) : ∀ n (j : Nat) (pre : List Nat) (all : List UInt8), b.length ≤ j + n → j ≤ b.length → R.fFields = (pre ++ (fsF b n j).1).map (sField b) → pre.length ≤ j →
    (pre = [] ∧ all = b.take j ∨ pre ≠ [] ∧ 1 ≤ j ∧ all = b.take (j - 1) ∧ at_ b 44 (j - 1) = true) → loop (law05_ScanWhole.l1 b R) (all, (pre.length : Int)) = some (Ex.brk (b.take (fsF b n j).2)) := by
  have one : ∀ (j : Nat) (pre suf : List Nat) (all : List UInt8), j ≤ b.length → R.fFields = (pre ++ j :: suf).map (sField b) → pre.length ≤ j →
      (pre = [] ∧ all = b.take j ∨ pre ≠ [] ∧ 1 ≤ j ∧ all = b.take (j - 1) ∧ at_ b 44 (j - 1) = true) → law05_ScanWhole.l1 b R (all, (pre.length : Int)) = some (.next (b.take (fe b j), (pre.length : Int) + 1)) := fun j pre suf all hj hR hpl hall => by
    obtain ⟨s1, s2, s3, s4, s5⟩ := fieldF_spec b hb j hj
    have h0 : j ≤ fe b j := s1
    have h0' : fe b j ≤ b.length := s2
    unfold law05_ScanWhole.l1
    rw [hR]
    simp only
    rw [if_pos (by simp; omega), idx_map, idx_at]
    simp only [Option.map_some, bnd_some']
    have e : (if (pre.length : Int) > 0 then bnd (catS all [44]) fun x31 => some x31 else some all : Option (List UInt8)) = some (b.take j) := by
      rcases hall with ⟨rfl, rfl⟩ | ⟨hne, h1, rfl, hc⟩
      · rw [if_neg (by simp)]
      · have hlt := at_in hc
        have hpos : 0 < pre.length := List.length_pos_iff.2 hne
        rw [if_pos (by omega), catS, if_pos (by simp; omega), bnd_some']
        have hb44 : b[j - 1] = 44 := by simpa [at_, List.getElem?_eq_getElem hlt] using hc
        have := take_one b (j - 1) hlt
        rw [hb44, show j - 1 + 1 = j by omega] at this
        rw [this]
    rw [e, bnd_some']
    have hat : (sField b j).fRaw.fAt = (j : Int) := rfl
    have hn : (sField b j).fRaw.fN = ((fe b j - j : Nat) : Int) := rfl
    have hlen : (b.take j).length = j := by simp; omega
    rw [hat, hn, hlen, if_pos rfl, if_neg (by omega), w64_id (x := (b.length : Int) - (j : Int)) ⟨by omega, by omega⟩, decide_eq_false (by omega), bnd_some', if_neg (by simp), w64_id (x := (j : Int) + ((fe b j - j : Nat) : Int)) ⟨by omega, by omega⟩, cut_of ⟨by omega, by omega, by omega⟩, bnd_some', show ((j : Int) + ((fe b j - j : Nat) : Int)).toNat = fe b j by omega, Int.toNat_natCast,
      catS, if_pos (by simp; omega), bnd_some', raw_ok b hb j hj, w64_id ⟨by omega, by omega⟩]
  have stop : ∀ (L : List Nat) (all : List UInt8), R.fFields = L.map (sField b) → law05_ScanWhole.l1 b R (all, (L.length : Int)) = some (.done (Ex.brk all)) := fun L all hR => by
    unfold law05_ScanWhole.l1
    rw [hR]
    simp only
    rw [if_neg (by simp)]
  intro n
  induction n with
  | zero =>
    intro j pre all h hj hR hpl hall
    refine loop_next (one j pre [] all hj hR hpl hall) (loop_done ?_)
    have := stop (pre ++ [j]) (b.take (fe b j)) (by simpa [fsF] using hR)
    simpa [fsF] using this
  | succ n ih =>
    intro j pre all h hj hR hpl hall
    simp only [fsF] at hR ⊢
    by_cases c : at_ b 44 (fe b j) = true
    · obtain ⟨s1, s2, s3, s4, s5⟩ := fieldF_spec b hb j hj
      have h0 : j ≤ fe b j := s1
      have hlt := at_in c
      simp only [if_pos c] at hR ⊢
      refine loop_next (one j pre _ all hj hR hpl hall) ?_
      have := ih (fe b j + 1) (pre ++ [j]) (b.take (fe b j)) (by omega) (by omega) (by simpa using hR) (by simp; omega) (.inr ⟨by simp, by omega, by simp, by simpa using c⟩)
      simpa using this
    · simp only [if_neg c] at hR ⊢
      refine loop_next (one j pre [] all hj hR hpl hall) (loop_done ?_)
      have := stop (pre ++ [j]) (b.take (fe b j)) (by simpa using hR)
      simpa using this
theorem wholeOut (b : List UInt8) (hb : b.length ≤ 1000000) (R : List scan_Row) : ∀ n (i : Nat) (pre : List Nat), b.length ≤ i + n → i ≤ b.length → R = (pre ++ rsF b n i).map (sRow b) → pre.length ≤ i → loop (law05_ScanWhole.l2 b R) (b.take i, (pre.length : Int)) = some (Ex.brk b) := by
  have stop : ∀ (L : List Nat) (all : List UInt8), R = L.map (sRow b) → law05_ScanWhole.l2 b R (all, (L.length : Int)) = some (.done (Ex.brk all)) := fun L all hR => by
    unfold law05_ScanWhole.l2
    rw [hR]
    simp only
    rw [if_neg (by simp)]
  intro n
  induction n with
  | zero =>
    intro i pre h hi hR hpl
    have := stop pre (b.take i) (by simpa [rsF] using hR)
    rw [List.take_of_length_le (by omega)] at this ⊢
    exact loop_done this
  | succ n ih =>
    intro i pre h hi hR hpl
    simp only [rsF] at hR
    by_cases c : i < b.length
    · simp only [if_pos c] at hR
      obtain ⟨n1, n2⟩ := nx_lt b hb i c
      obtain ⟨f1, f2, f3, f4, f5, f6⟩ := fsF_spec b hb b.length i (by omega) hi
      have hin := wholeIn b hb (sRow b i) b.length i [] (b.take i) (by omega) hi rfl (by simp) (.inl ⟨rfl, rfl⟩)
      rw [show (([] : List Nat).length : Int) = 0 from rfl, show fsF b b.length i = fs b i from rfl] at hin
      refine loop_next (s' := (b.take (nx b i), (pre.length : Int) + 1)) ?_ ?_
      · unfold law05_ScanWhole.l2
        simp only
        rw [if_pos (by rw [hR]; simp; omega), show idx R (pre.length : Int) = some (sRow b i) by rw [hR, idx_map, idx_at]; rfl, bnd_some', hin, bnd_some']
        simp only
        rw [show fsF b b.length i = fs b i from rfl] at f1 f2 f3 f4
        have e : (if (sRow b i).fEnd = 0 then if (pre.length : Int) < w64 ((R.length : Int) - 1) then some true else some (((b.take (fs b i).2).length : Int) == ((b.take i).length : Int)) else some false : Option Bool) = some false := by
          by_cases h0 : (sRow b i).fEnd = 0
          · rw [if_pos h0]
            have hend : (fs b i).2 = b.length ∧ nx b i = (fs b i).2 := by
              have hx : (endF b (fs b i).2).1 = 0 := h0
              have hm : nx b i = (endF b (fs b i).2).2 := rfl
              unfold endF at hx hm
              by_cases c1 : at_ b 10 (fs b i).2 = true
              · rw [if_pos c1] at hx; simp at hx
              · by_cases c2 : at_ b 13 (fs b i).2 = true
                · rw [if_neg c1, if_pos c2] at hx; split at hx <;> simp at hx
                · rw [if_neg c1, if_neg c2] at hm
                  refine ⟨?_, hm⟩
                  rcases Nat.lt_or_ge (fs b i).2 b.length with hlt | hge
                  · exfalso
                    obtain ⟨_, _, g3⟩ := endF_spec b (fs b i).2 f2
                    have := g3 f3 f4 hlt
                    unfold endF at this
                    rw [if_neg c1, if_neg c2] at this
                    simp at this
                  · omega
            have hlast : rsF b n (nx b i) = [] := by
              rw [hend.2, hend.1]
              cases n with
              | zero => rfl
              | succ n => simp [rsF]
            have hRl : R.length = pre.length + 1 := by rw [hR, hlast]; simp
            rw [hRl, w64_id ⟨by omega, by omega⟩, if_neg (by omega)]
            congr 1
            rw [beq_eq_false_iff_ne]
            simp only [List.length_take]
            omega
          · rw [if_neg h0]
        rw [e, bnd_some', if_neg (by simp)]
        have hm : scan_Mark (sRow b i).fEnd = some ((b.take (nx b i)).drop (fs b i).2) := by
          rw [show (sRow b i).fEnd = (endF b (fs b i).2).1 from rfl, show nx b i = (endF b (fs b i).2).2 from rfl]
          generalize (fs b i).2 = E at *
          unfold endF scan_Mark
          have one : ∀ (m : Nat) (x : UInt8), at_ b x m = true → (b.take (m + 1)) = b.take m ++ [x] := fun m x hx => by
            have hlt := at_in hx
            have : b[m] = x := by simpa [at_, List.getElem?_eq_getElem hlt] using hx
            rw [take_one b m hlt, this]
          by_cases c1 : at_ b 10 E = true
          · have := at_in c1
            simp only [if_pos c1]
            show (some [10] : Option (List UInt8)) = some _
            rw [one E 10 c1, List.drop_left' (by simp; omega)]
          · simp only [if_neg c1]
            by_cases c2 : at_ b 13 E = true
            · have := at_in c2
              simp only [if_pos c2]
              by_cases c3 : at_ b 10 (E + 1) = true
              · have := at_in c3
                simp only [if_pos c3]
                show (some [13, 10] : Option (List UInt8)) = some _
                rw [show E + 2 = (E + 1) + 1 from rfl, one (E + 1) 10 c3, one E 13 c2, List.append_assoc, List.drop_left' (by simp; omega)]; rfl
              · simp only [if_neg c3]
                show (some [13] : Option (List UInt8)) = some _
                rw [one E 13 c2, List.drop_left' (by simp; omega)]
            · simp only [if_neg c2]
              show (some [] : Option (List UInt8)) = some _
              rw [List.drop_eq_nil_of_le (by simp; omega)]
        have hle : (fs b i).2 ≤ nx b i := (endF_spec b (fs b i).2 f2).1
        have htk : b.take (fs b i).2 ++ (b.take (nx b i)).drop (fs b i).2 = b.take (nx b i) := by
          have : b.take (fs b i).2 = (b.take (nx b i)).take (fs b i).2 := by rw [List.take_take, Nat.min_eq_left hle]
          rw [this, List.take_append_drop]
        rw [hm, bnd_some', catS, if_pos (by simp; omega), bnd_some', htk, w64_id ⟨by omega, by omega⟩]
      · have := ih (nx b i) (pre ++ [i]) (by omega) n2 (by simpa using hR) (by simp; omega)
        simpa using this
    · simp only [if_neg c] at hR
      have := stop pre (b.take i) (by simpa using hR)
      rw [List.take_of_length_le (by omega)] at this ⊢
      exact loop_done this
theorem ScanWhole_holds (a0 : List UInt8) (w0 : a0.length ≤ maxLen) : law05_ScanWhole a0 = some true := by
  unfold law05_ScanWhole
  rw [show ((1000 : Int)) = ((1000 : Nat) : Int) from rfl, cut5_eq, bnd_some']
  generalize hbb : a0.take 1000 = b
  have hb : b.length ≤ 1000000 := by rw [← hbb]; simp; omega
  have h := wholeOut b hb ((rs b).map (sRow b)) b.length 0 [] (by omega) (by omega) rfl (by simp)
  have h' : loop (law05_ScanWhole.l2 b ((rs b).map (sRow b))) ([], 0) = some (Ex.brk b) := by simpa using h
  rw [sAll_eq b hb, bnd_some', h', bnd_some']
  simp only
  rw [if_pos trivial, awake5_eq]
  rfl
/-! ### any spans -/
def gv (b : List UInt8) (acc : List UInt8) (p : arena_Span) : List UInt8 :=
  if p.fAt ≥ 0 ∧ p.fN ≥ 0 ∧ p.fAt ≤ (b.length : Int) ∧ p.fN ≤ (b.length : Int) - p.fAt then acc ++ (b.take (p.fAt + p.fN).toNat).drop p.fAt.toNat else acc
theorem gv_len (b : List UInt8) (L : List arena_Span) : (L.foldl (gv b) []).length ≤ b.length * L.length := by
  induction L using snoc_ind with
  | nil => simp
  | snoc L p ih =>
    rw [List.foldl_append]
    simp only [List.foldl_cons, List.foldl_nil, gv, List.length_append, List.length_cons, List.length_nil]
    rw [show b.length * (L.length + (0 + 1)) = b.length * L.length + b.length by rw [Nat.zero_add, Nat.mul_add, Nat.mul_one]]
    split
    · simp only [List.length_append, List.length_drop, List.length_take]; omega
    · omega
theorem gv_test (b : List UInt8) (hb : b.length ≤ 100) (p : arena_Span) : (if p.fAt ≥ 0 then if p.fN ≥ 0 then if p.fAt ≤ (b.length : Int) then some (decide (p.fN ≤ (w64 ((b.length : Int) - p.fAt)))) else some false else some false else some false : Option Bool) = some (decide (p.fAt ≥ 0 ∧ p.fN ≥ 0 ∧ p.fAt ≤ (b.length : Int) ∧ p.fN ≤ (b.length : Int) - p.fAt)) := by
  by_cases c1 : p.fAt ≥ 0
  · by_cases c2 : p.fN ≥ 0
    · by_cases c3 : p.fAt ≤ (b.length : Int)
      · rw [if_pos c1, if_pos c2, if_pos c3, w64_id ⟨by omega, by omega⟩]
        simp [c1, c2, c3]
      · rw [if_pos c1, if_pos c2, if_neg c3]; simp [c3]
    · rw [if_pos c1, if_neg c2]; simp [c2]
  · rw [if_neg c1]; simp [c1]
theorem marksLoop (b : List UInt8) (hb : b.length ≤ 100) (z : law05_Spot) (hz : z.fParts.length ≤ maxLen) : loop (law05_ScanMarks.l1 z b) ([], 0, []) = some ((z.fParts.take 20).foldl (gv b) [], z.fParts.take 20) := by
  simp only [maxLen] at hz
  obtain ⟨t, h1, h2⟩ := loop_for (f := law05_ScanMarks.l1 z b) (fun i (s : List UInt8 × List arena_Span) => (s.1, i, s.2)) z.fParts (fun pre s => pre.length ≤ 20 ∧ s = (pre.foldl (gv b) [], pre)) (fun t => t = ((z.fParts.take 20).foldl (gv b) [], z.fParts.take 20))
    (fun pre p suf s hs hI => by
      obtain ⟨hp, rfl⟩ := hI
      have hg := gv_len b pre
      have hg2 : b.length * pre.length ≤ 100 * 20 := Nat.mul_le_mul hb hp
      have hpl : pre.length + 1 ≤ z.fParts.length := by rw [hs]; simp
      unfold law05_ScanMarks.l1
      simp only
      rw [if_pos (by omega), show idx z.fParts (pre.length : Int) = some p by rw [hs]; exact idx_at pre p suf, bnd_some']
      by_cases h20 : (pre.length : Int) ≥ 20
      · rw [if_pos h20]
        refine .inr ⟨_, rfl, ?_⟩
        have : z.fParts.take 20 = pre := by rw [hs, List.take_append_of_le_length (by omega), List.take_of_length_le (by omega)]
        rw [this]
      · rw [if_neg h20, app_of (by simp; omega), bnd_some', gv_test b hb p, bnd_some']
        have e : (if decide (p.fAt ≥ 0 ∧ p.fN ≥ 0 ∧ p.fAt ≤ (b.length : Int) ∧ p.fN ≤ (b.length : Int) - p.fAt) = true then bnd (cut b p.fAt (w64 (p.fAt + p.fN))) fun x26 => bnd (catS (pre.foldl (gv b) []) x26) fun x27 => some x27 else some (pre.foldl (gv b) []) : Option (List UInt8)) = some (gv b (pre.foldl (gv b) []) p) := by
          unfold gv
          by_cases c : p.fAt ≥ 0 ∧ p.fN ≥ 0 ∧ p.fAt ≤ (b.length : Int) ∧ p.fN ≤ (b.length : Int) - p.fAt
          · rw [if_pos (by simpa using c), if_pos c]
            obtain ⟨c1, c2, c3, c4⟩ := c
            rw [w64_id ⟨by omega, by omega⟩, cut_of ⟨by omega, by omega, by omega⟩, bnd_some', catS, if_pos (by
              have : (List.foldl (gv b) [] pre).length ≤ 2000 := by omega
              have h3 : ((b.take (p.fAt + p.fN).toNat).drop p.fAt.toNat).length ≤ 100 := by simp; omega
              unfold gv at this
              omega), bnd_some']
          · rw [if_neg (by simpa using c), if_neg c]
        rw [e, bnd_some', w64_id ⟨by omega, by omega⟩]
        refine .inl ⟨(gv b (pre.foldl (gv b) []) p, pre ++ [p]), rfl, by simp; omega, by simp [List.foldl_append]⟩)
    (fun s hI => by
      obtain ⟨hp, rfl⟩ := hI
      unfold law05_ScanMarks.l1
      simp only
      rw [if_neg (by omega)]
      exact ⟨_, rfl, by rw [List.take_of_length_le hp]⟩) (s0 := ([], [])) ⟨by simp, rfl⟩
  rw [h1, h2]
theorem value2_eq (b : List UInt8) (hb : b.length ≤ 100) (r : arena_Span) (k : Int) (L : List arena_Span) (hL : L.length ≤ 20) : scan_Value_2 b r k L = some (L.foldl (gv b) []) := by
  have h := loop_fold (f := scan_Value_2.l1 b L) (fun i (s : List UInt8) => (i, s)) L (fun pre => pre.foldl (gv b) []) (t := L.foldl (gv b) [])
    (fun pre p suf hs => by
      have hg := gv_len b pre
      have hpl : pre.length + 1 ≤ L.length := by rw [hs]; simp
      have hg2 : b.length * pre.length ≤ 100 * 20 := Nat.mul_le_mul hb (by omega)
      unfold scan_Value_2.l1
      simp only
      rw [if_pos (by omega), show idx L (pre.length : Int) = some p by rw [hs]; exact idx_at pre p suf, bnd_some', gv_test b hb p, bnd_some']
      have e : (if decide (p.fAt ≥ 0 ∧ p.fN ≥ 0 ∧ p.fAt ≤ (b.length : Int) ∧ p.fN ≤ (b.length : Int) - p.fAt) = true then bnd (cut b p.fAt (w64 (p.fAt + p.fN))) fun x26 => bnd (app 1 (pre.foldl (gv b) []) x26) fun x27 => some x27 else some (pre.foldl (gv b) []) : Option (List UInt8)) = some (gv b (pre.foldl (gv b) []) p) := by
        conv => rhs; unfold gv
        by_cases c : p.fAt ≥ 0 ∧ p.fN ≥ 0 ∧ p.fAt ≤ (b.length : Int) ∧ p.fN ≤ (b.length : Int) - p.fAt
        · rw [if_pos (by simpa using c), if_pos c]
          obtain ⟨c1, c2, c3, c4⟩ := c
          have h3 : ((b.take (p.fAt + p.fN).toNat).drop p.fAt.toNat).length ≤ 100 := by simp; omega
          rw [w64_id ⟨by omega, by omega⟩, cut_of ⟨by omega, by omega, by omega⟩, bnd_some', app_of (by omega), bnd_some']
          rfl
        · rw [if_neg (by simpa using c), if_neg c]
          rfl
      rw [e, bnd_some', w64_id ⟨by omega, by omega⟩]
      simp [List.foldl_append])
    (by
      unfold scan_Value_2.l1
      simp only
      rw [if_neg (by omega)])
  unfold scan_Value_2
  have h' : loop (scan_Value_2.l1 b L) (0, []) = some (L.foldl (gv b) []) := by simpa using h
  rw [h', bnd_some']
theorem mark_some (n : Int) : ∃ m, scan_Mark n = some m ∧ ref05_Mark n = some m := by
  unfold scan_Mark ref05_Mark
  by_cases c1 : n = 1
  · simp [c1]
  · by_cases c2 : n = 2
    · simp [c2]
    · by_cases c3 : n = 3
      · simp [c3]
      · simp [c1, c2, c3]
theorem ScanMarks_holds (a0 a1 : Int) (a2 : law05_Spot) (w0 : (Lit.int .i64 a0).wf = true) (w1 : (Lit.int .i64 a1).wf = true) (w2 : a2.fS.length ≤ maxLen ∧ a2.fParts.length ≤ maxLen ∧ ∀ a ∈ a2.fParts, (Lit.int .i64 a.fAt).wf = true ∧ (Lit.int .i64 a.fN).wf = true) : law05_ScanMarks a0 a1 a2 = some true := by
  unfold law05_ScanMarks
  rw [show ((100 : Int)) = ((100 : Nat) : Int) from rfl, cut5_eq, bnd_some']
  generalize hbb : a2.fS.take 100 = b
  have hb : b.length ≤ 100 := by rw [← hbb]; simp; omega
  obtain ⟨m, m1, m2⟩ := mark_some a0
  have hv := value2_eq b hb ⟨0, 0⟩ 0 (a2.fParts.take 20) (by simp; omega)
  rw [marksLoop b hb a2 w2.2.1, bnd_some', m1, bnd_some', m2, bnd_some', if_pos rfl]
  simp only
  rw [hv]
  by_cases c : a1 = 0
  · have hf : scan_Fine a1 = some true := by unfold scan_Fine; rw [if_pos c]; rfl
    rw [hf, bnd_some', if_pos c, if_pos (by rfl), bnd_some', if_pos rfl, awake5_eq]
    rfl
  · have hf : scan_Fine a1 = some (a1 == 1) := by unfold scan_Fine; rw [if_neg c]; rfl
    rw [hf, bnd_some', if_neg c, if_pos (beq_self_eq_true _), bnd_some', if_pos rfl, awake5_eq]
    rfl
end Go.Proofs.Ytbogkjbjgcclnaa.S
