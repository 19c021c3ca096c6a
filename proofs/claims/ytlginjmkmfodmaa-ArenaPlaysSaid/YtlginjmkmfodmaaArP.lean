/- The document's arena; the law ArenaPlays. -/
import Derived.Test.YtlginjmkmfodmaaG0
import Derived.Test.YtlginjmkmfodmaaG5xa
import Derived.Test.YtlginjmkmfodmaaG7xa
import Derived.Test.YtlginjmkmfodmaaG7xb
import Derived.Test.YtlginjmkmfodmaaArL
set_option linter.unusedVariables false
namespace Go.Proofs.Ytlginjmkmfodmaa.S
open Go Go.Sm
theorem refAdd_eq (b a : List UInt8) (ha : a.length ≤ 16384) (hb : b.length ≤ 1000000000) : ref03_Arena_Add b a = some (ofS (addA b a).1, (addA b a).2.1, (addA b a).2.2) := by
  unfold ref03_Arena_Add addA
  by_cases h0 : b = []
  · rw [if_pos h0, if_pos (by simp [h0])]
  · have h0' : b.length ≠ 0 := fun e => h0 (List.length_eq_zero_iff.1 e)
    rw [if_neg h0, if_neg h0', w64_id ⟨by omega, by omega⟩]
    by_cases h1 : 16384 < b.length + a.length
    · rw [if_pos (by omega), if_pos h1]
    · rw [if_neg (by omega), if_neg h1, catS, if_pos (by omega), bnd_some']
theorem placeLoop (s b : List UInt8) (hs : s.length ≤ 1000000000) (hb : b.length ≤ 1000000000) : ∀ n (j : Nat), s.length + 1 ≤ j + n → (∀ i, i < j → i + b.length ≤ s.length → (s.drop i).take b.length ≠ b) →
    ∃ t, loop (ref03_Place.l1 s b) (j : Int) = some t ∧ (match t with | .ret v => ∃ k : Nat, v = k ∧ k + b.length ≤ s.length ∧ (s.drop k).take b.length = b ∧ ∀ i, i < k → (s.drop i).take b.length ≠ b | .brk _ => ∀ i, i + b.length ≤ s.length → (s.drop i).take b.length ≠ b) := by
  intro n
  induction n with
  | zero =>
    intro j hj hn
    refine ⟨_, loop_done (t := Ex.brk ()) ?_, fun i hi => hn i (by omega) hi⟩
    unfold ref03_Place.l1
    rw [w64_id ⟨by omega, by omega⟩, if_neg (by omega)]
  | succ n ih =>
    intro j hj hn
    by_cases h : j + b.length ≤ s.length
    · have hcut : cut s (j : Int) (w64 ((j : Int) + (b.length : Int))) = some ((s.drop j).take b.length) := by
        rw [w64_id ⟨by omega, by omega⟩, cut_of ⟨by omega, by omega, by omega⟩]
        congr 1
        rw [show ((j : Int) + (b.length : Int)).toNat = j + b.length by omega, Int.toNat_natCast, List.drop_take]
        congr 1; omega
      by_cases he : (s.drop j).take b.length = b
      · refine ⟨_, loop_done (t := Ex.ret (j : Int)) ?_, j, rfl, h, he, fun i hi => hn i hi (by omega)⟩
        unfold ref03_Place.l1
        rw [if_pos (by rw [w64_id ⟨by omega, by omega⟩]; omega), hcut, bnd_some', if_pos he]
      · obtain ⟨t, t1, t2⟩ := ih (j + 1) (by omega) (fun i hi hi2 => by
          by_cases hij : i = j
          · subst hij; exact he
          · exact hn i (by omega) hi2)
        refine ⟨t, loop_next (s' := (j : Int) + 1) ?_ (by simpa using t1), t2⟩
        unfold ref03_Place.l1
        rw [if_pos (by rw [w64_id ⟨by omega, by omega⟩]; omega), hcut, bnd_some', if_neg he, w64_id ⟨by omega, by omega⟩]
    · refine ⟨_, loop_done (t := Ex.brk ()) ?_, fun i hi => hn i (by omega) hi⟩
      unfold ref03_Place.l1
      rw [w64_id ⟨by omega, by omega⟩, if_neg (by omega)]
theorem refPlace_eq (s b : List UInt8) (hs : s.length ≤ 1000000000) (hb : b.length ≤ 1000000000) : ∃ p, ref03_Place s b = some p ∧ (0 < b.length → p = Go.Lib.index s b) := by
  obtain ⟨t, t1, t2⟩ := placeLoop s b hs hb (s.length + 1) 0 (by omega) (fun i hi => by omega)
  have t1' : loop (ref03_Place.l1 s b) 0 = some t := t1
  unfold ref03_Place
  rw [t1', bnd_some']
  cases t with
  | brk u =>
    refine ⟨-1, rfl, fun hpos => ?_⟩
    by_cases hx : 0 ≤ Go.Lib.index s b
    · obtain ⟨k, _, k2, k3, _⟩ := index_of hx hpos
      exact absurd k3 (t2 k k2)
    · have := Go.Lib.index_ge s b
      omega
  | ret v =>
    obtain ⟨k, rfl, k2, k3, k4⟩ := t2
    refine ⟨k, rfl, fun hpos => ?_⟩
    by_cases hx : 0 ≤ Go.Lib.index s b
    · obtain ⟨q, q1, q2, q3, q4⟩ := index_of hx hpos
      rw [q1]
      rcases Nat.lt_trichotomy k q with h | h | h
      · exact absurd k3 (q4 k h)
      · rw [h]
      · exact absurd q3 (k4 q h)
    · exact absurd k3 (index_not hx hpos k k2)
theorem refKeep_eq (b a : List UInt8) (ha : a.length ≤ 16384) (hb : b.length ≤ 1000000000) : ref03_Arena_Keep b a = some (ofS (keepA b a).1, (keepA b a).2.1, (keepA b a).2.2) := by
  obtain ⟨p, p1, p2⟩ := refPlace_eq a b (by omega) hb
  unfold ref03_Arena_Keep keepA
  rw [p1, bnd_some']
  by_cases h0 : b = []
  · rw [if_pos h0, bnd_some', if_pos rfl, refAdd_eq b a ha hb, bnd_some', if_pos (by simp [h0])]
    unfold addA; rw [if_pos (by simp [h0])]
  · have h0' : b.length ≠ 0 := fun e => h0 (List.length_eq_zero_iff.1 e)
    have p3 := p2 (by omega)
    rw [if_neg h0, bnd_some', if_neg h0', p3]
    by_cases h1 : 0 ≤ Go.Lib.index a b
    · rw [if_neg (by simpa using h1), if_pos h1]
    · rw [if_pos (by simpa using h1), if_neg h1, refAdd_eq b a ha hb, bnd_some']
theorem refRight_eq3 (s : arena_Span) (a : List UInt8) (ha : a.length ≤ 1000000000) : ref03_Arena_Right (ofS s) a = some (rightA s a) := by
  have h : ref03_Arena_Right (ofS s) a = arena_Arena_Right s a := rfl
  rw [h, Right_eq s a ha]
theorem refBytes_eq (s : arena_Span) (a : List UInt8) (ha : a.length ≤ 1000000000) : ref03_Arena_Bytes (ofS s) a = some (bytesA s a) := by
  unfold ref03_Arena_Bytes
  rw [refRight_eq3 s a ha, bnd_some']
  cases h : rightA s a with
  | false => rw [if_neg (by simp)]; simp [bytesA, h]
  | true =>
    have hr := h
    unfold rightA at hr
    simp only [decide_eq_true_eq] at hr
    dsimp only
    rw [if_pos rfl, w64_id ⟨by omega, by omega⟩, cut_of ⟨by omega, by omega, by omega⟩, bnd_some']
    simp [bytesA, h]
theorem Byte_eq (i : Int) (a : List UInt8) (ha : a.length ≤ 1000000000) : ∃ x ok, arena_Arena_Byte_2 i a = some (x, ok) ∧ (bytesA ⟨i, 1⟩ a = [] ∧ x = 0 ∧ ok = false ∨ bytesA ⟨i, 1⟩ a = [x] ∧ ok = true) := by
  unfold arena_Arena_Byte_2 arena_Arena_part
  rw [Right_eq _ a ha, bnd_some']
  cases h : rightA ⟨i, 1⟩ a with
  | false =>
    rw [if_neg (by simp), bnd_some']
    dsimp only
    exact ⟨0, false, by rw [if_pos (by simp)], .inl ⟨by simp [bytesA, h], rfl, rfl⟩⟩
  | true =>
    have hr := h
    unfold rightA at hr
    simp only [decide_eq_true_eq] at hr
    have hb : bytesA ⟨i, 1⟩ a = (a.take (i + 1).toNat).drop i.toNat := by simp [bytesA, h]
    have hl : (bytesA ⟨i, 1⟩ a).length = 1 := by rw [hb, List.length_drop, List.length_take]; omega
    obtain ⟨x, hx⟩ := List.length_eq_one_iff.1 hl
    rw [if_pos rfl]
    dsimp only
    rw [w64_id ⟨by omega, by omega⟩, cut_of ⟨by omega, by omega, by omega⟩, bnd_some', bnd_some']
    dsimp only
    rw [cut_of ⟨by omega, by omega, by omega⟩, bnd_some', ← hb, hx, if_neg (by simp)]
    exact ⟨x, true, rfl, .inr ⟨rfl, rfl⟩⟩
theorem put2_eq (t : List UInt8) (k : Bool) (a : List UInt8) (ha : a.length ≤ 16384) (ht : t.length ≤ 1000000000) : ∃ a', law03_put_2 t k a a = some (true, a', a') ∧ a'.length ≤ 16384 := by
  unfold law03_put_2
  cases k with
  | true =>
    refine ⟨(keepA t a).2.2, ?_, (keepA_spec t a ha).1⟩
    rw [if_pos rfl, Keep_eq t a ha ht, bnd_some', refKeep_eq t a ha ht, bnd_some', ours_eq, bnd_some', if_pos rfl, bnd_some']
    simp
  | false =>
    refine ⟨(addA t a).2.2, ?_, addA_len t a ha⟩
    rw [if_neg (by simp), Add_eq t a ha ht, bnd_some', refAdd_eq t a ha ht, bnd_some', ours_eq, bnd_some', if_pos rfl, bnd_some']
    simp
theorem ArenaPlays_holds (a0 : List UInt8) (a1 : List law03_Put) (a2 : arena_Span) (w0 : a0.length ≤ maxLen) (w1 : a1.length ≤ maxLen ∧ ∀ a ∈ a1, a.fText.length ≤ maxLen ∧ True) (w2 : (Lit.int .i64 a2.fAt).wf = true ∧ (Lit.int .i64 a2.fN).wf = true) : law03_ArenaPlays a0 a1 a2 = some true := by
  have w1' := w1.1
  simp only [maxLen] at w1'
  unfold law03_ArenaPlays
  rw [show ((5000 : Int)) = ((5000 : Nat) : Int) from rfl, cut3_eq, bnd_some']
  generalize hf : a0.take 5000 = f0
  by_cases hbig : f0.length ≤ 4096
  · rw [New_eq f0 hbig, bnd_some']
    dsimp only
    rw [show ref03_New f0 = some (.inr (0, f0)) by unfold ref03_New; rw [if_neg (by omega)], bnd_some']
    dsimp only
    rw [if_pos rfl, bnd_some', if_neg (by simp)]
    obtain ⟨t, t1, t2⟩ := loop_for (f := law03_ArenaPlays.l2 a1) (σ := List UInt8 × List UInt8) (fun k s => (k, s.1, s.2)) a1 (fun _ s => s.1 = s.2 ∧ s.1.length ≤ 16384) (fun t => match t with | .ret _ => False | .brk u => u.1 = u.2 ∧ u.1.length ≤ 16384)
      (fun pre c suf s hs hI => by
        obtain ⟨A, B⟩ := s
        obtain ⟨i1, i2⟩ := hI
        dsimp only at i1 i2 ⊢
        subst i1
        have hpl : pre.length + 1 ≤ a1.length := by rw [hs]; simp
        unfold law03_ArenaPlays.l2
        dsimp only
        rw [if_pos (by omega), show idx a1 (pre.length : Int) = some c by rw [hs]; exact idx_at pre c suf, bnd_some']
        by_cases h30 : (pre.length : Int) ≥ 30
        · rw [if_pos h30]; exact .inr ⟨_, rfl, rfl, i2⟩
        · rw [if_neg h30, show ((600 : Int)) = ((600 : Nat) : Int) from rfl, cut3_eq, bnd_some']
          obtain ⟨A', p1, p2⟩ := put2_eq (c.fText.take 600) c.fKeep A i2 (by simp; omega)
          rw [p1, bnd_some', if_pos rfl]
          dsimp only
          rw [Len_eq, bnd_some', if_pos rfl, Room_eq A' p2, bnd_some', w64_id ⟨by omega, by omega⟩, bnd_some']
          dsimp only
          rw [if_neg (by simp), w64_id ⟨by omega, by omega⟩]
          exact .inl ⟨(A', A'), rfl, rfl, p2⟩)
      (fun s hI => ⟨Ex.brk (s.1, s.2), by unfold law03_ArenaPlays.l2; rw [if_neg (by simp)], hI.1, hI.2⟩) (s0 := (f0, f0)) ⟨rfl, by simp; omega⟩
    dsimp only at t1
    rw [t1, bnd_some']
    cases t with
    | ret v => exact t2.elim
    | brk u =>
      obtain ⟨A, B⟩ := u
      obtain ⟨i1, i2⟩ := t2
      dsimp only at i1 i2 ⊢
      subst i1
      obtain ⟨x, ok, x1, x2⟩ := Byte_eq a2.fAt A (by omega)
      have hone := refBytes_eq ⟨a2.fAt, 1⟩ A (by omega)
      rw [x1, bnd_some', hone, bnd_some', Right_eq a2 A (by omega), bnd_some', ours_eq, bnd_some', refRight_eq3 a2 A (by omega), bnd_some', if_pos (by simp), Bytes_eq a2 A (by omega), bnd_some', bnd_some', refBytes_eq a2 A (by omega), bnd_some', if_pos rfl]
      dsimp only
      rcases x2 with ⟨y1, rfl, rfl⟩ | ⟨y1, rfl⟩
      · rw [y1, if_pos (by simp), if_neg (by simp), if_pos (by simp), awake3_eq, bnd_some', bnd_some']
      · rw [y1, if_pos (by simp), if_pos rfl, if_pos rfl, awake3_eq, bnd_some', bnd_some']
  · rw [show arena_New f0 = some (.inl 8) by unfold arena_New; rw [if_pos (by omega)], bnd_some']
    dsimp only
    rw [show ref03_New f0 = some (.inl 8) by unfold ref03_New; rw [if_pos (by omega)], bnd_some']
    dsimp only
    rw [if_pos rfl, bnd_some', if_neg (by simp), awake3_eq, bnd_some']
end Go.Proofs.Ytlginjmkmfodmaa.S
