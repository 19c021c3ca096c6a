/- The law ArenaStays. -/
import Derived.Test.YtlginjmkmfodmaaG0
import Derived.Test.YtlginjmkmfodmaaG5xa
import Derived.Test.YtlginjmkmfodmaaG6xa
import Derived.Test.YtlginjmkmfodmaaArL
set_option linter.unusedVariables false
namespace Go.Proofs.Ytlginjmkmfodmaa.S
open Go Go.Sm
theorem zeroLoop (x : List UInt8) (hx : x.length ≤ 1000000000) : loop (law03_ArenaStays.l1 x) (0, x) = some () := by
  obtain ⟨t, t1, _⟩ := loop_for (f := law03_ArenaStays.l1 x) (σ := List UInt8) (fun k s => (k, s)) x (fun _ s => s.length = x.length) (fun _ => True) (fun pre c suf s hs hI => by
    have hpl : pre.length + 1 ≤ x.length := by rw [hs]; simp
    have hg : idx s (pre.length : Int) = some s[pre.length] := idx_nat (List.getElem?_eq_getElem (by omega))
    unfold law03_ArenaStays.l1
    rw [if_pos (by simp only; omega)]
    dsimp only
    rw [hg, bnd_some', w64_id ⟨by omega, by omega⟩]
    exact .inl ⟨s.set pre.length 0, rfl, by simpa using hI⟩) (fun s hI => ⟨(), by unfold law03_ArenaStays.l1; rw [if_neg (by simp)], trivial⟩) (s0 := x) rfl
  exact t1
theorem ArenaStays_holds (a0 : List UInt8) (a1 : List (List UInt8)) (w0 : a0.length ≤ maxLen) (w1 : a1.length ≤ maxLen ∧ ∀ a ∈ a1, a.length ≤ maxLen) : law03_ArenaStays a0 a1 = some true := by
  have w1' := w1.1
  simp only [maxLen] at w1'
  unfold law03_ArenaStays
  rw [show ((4096 : Int)) = ((4096 : Nat) : Int) from rfl, cut3_eq, bnd_some']
  generalize hf : a0.take 4096 = f0
  have hf0 : f0.length ≤ 4096 := by rw [← hf]; simp; omega
  rw [New_eq f0 hf0, bnd_some']
  dsimp only
  rw [if_pos rfl]
  obtain ⟨t, t1, t2⟩ := loop_for (f := law03_ArenaStays.l2 a1) (σ := List arena_Span × List (List UInt8) × List UInt8) (fun k s => (k, s.1, s.2.1, s.2.2)) a1
    (fun pre s => s.1.length = s.2.1.length ∧ s.1.length ≤ pre.length ∧ pre.length ≤ 40 ∧ s.2.2.length ≤ 16384 ∧ ∀ (k : Nat) x y, s.1[k]? = some x → s.2.1[k]? = some y → rightA x s.2.2 = true ∧ bytesA x s.2.2 = y)
    (fun t => match t with | .ret _ => False | .brk u => u.1.length = u.2.1.length ∧ u.1.length ≤ 40 ∧ u.2.2.length ≤ 16384 ∧ ∀ (k : Nat) x y, u.1[k]? = some x → u.2.1[k]? = some y → rightA x u.2.2 = true ∧ bytesA x u.2.2 = y)
    (fun pre c suf s hs hI => by
      obtain ⟨S, T, A⟩ := s
      obtain ⟨i1, i2, i3, i4, i5⟩ := hI
      dsimp only at i1 i2 i4 i5 ⊢
      have hpl : pre.length + 1 ≤ a1.length := by rw [hs]; simp
      unfold law03_ArenaStays.l2
      dsimp only
      rw [if_pos (by omega), show idx a1 (pre.length : Int) = some c by rw [hs]; exact idx_at pre c suf, bnd_some']
      by_cases h40 : (pre.length : Int) ≥ 40
      · rw [if_pos h40]
        exact .inr ⟨_, rfl, i1, by dsimp only; omega, i4, i5⟩
      · rw [if_neg h40, show ((900 : Int)) = ((900 : Nat) : Int) from rfl, cut3_eq, bnd_some']
        generalize hc : c.take 900 = b
        have hb : b.length ≤ 900 := by rw [← hc]; simp; omega
        rw [Add_eq b A i4 (by omega), bnd_some']
        have hlen := addA_len b A i4
        obtain ⟨m, hm⟩ := addA_pre b A
        have hkeep : ∀ (k : Nat) x y, S[k]? = some x → T[k]? = some y → rightA x (addA b A).2.2 = true ∧ bytesA x (addA b A).2.2 = y := fun k x y hx hy => by
          obtain ⟨g1, g2⟩ := i5 k x y hx hy
          rw [hm, (bytesA_app g1 m).1, g2]
          exact ⟨(bytesA_app g1 m).2, rfl⟩
        have hrest : ∀ (S' : List arena_Span) (T' : List (List UInt8)), S'.length = T'.length ∧ S'.length ≤ (pre ++ [c]).length ∧ (∀ (k : Nat) x y, S'[k]? = some x → T'[k]? = some y → rightA x (addA b A).2.2 = true ∧ bytesA x (addA b A).2.2 = y) →
            (∃ s' : List arena_Span × List (List UInt8) × List UInt8, (bnd (arena_Arena_Bytes (addA b A).1 (addA b A).2.2) fun x36 => bnd (loop (law03_ArenaStays.l1 x36) (0, x36) : Option Unit) fun t38 => bnd (arena_Arena_Len (addA b A).2.2) fun x49 => if x49 > 16384 then some (Lp.done (Ex.ret false)) else some (Lp.next (w64 ((pre.length : Int) + 1), S', T', (addA b A).2.2)) : Option (Lp (Int × (List arena_Span) × (List (List UInt8)) × (List UInt8)) (Ex ((List arena_Span) × (List (List UInt8)) × (List UInt8)) Bool))) = some (.next ((pre.length : Int) + 1, s'.1, s'.2.1, s'.2.2)) ∧
              (s'.1.length = s'.2.1.length ∧ s'.1.length ≤ (pre ++ [c]).length ∧ (pre ++ [c]).length ≤ 40 ∧ s'.2.2.length ≤ 16384 ∧ ∀ (k : Nat) x y, s'.1[k]? = some x → s'.2.1[k]? = some y → rightA x s'.2.2 = true ∧ bytesA x s'.2.2 = y)) := fun S' T' ⟨q1, q2, q3⟩ => by
          have hbl := bytesA_len (addA b A).1 (addA b A).2.2
          refine ⟨(S', T', (addA b A).2.2), ?_, q1, q2, by simp; omega, hlen, q3⟩
          rw [Bytes_eq _ _ (by omega), bnd_some', zeroLoop _ (by omega), bnd_some', Len_eq, bnd_some', if_neg (by omega), w64_id ⟨by omega, by omega⟩]
        by_cases he : (addA b A).2.1 = 0
        · have hadd : bytesA (addA b A).1 (addA b A).2.2 = b ∧ rightA (addA b A).1 (addA b A).2.2 = true := by
            unfold addA at he ⊢
            by_cases h0 : b.length = 0
            · obtain rfl := List.length_eq_zero_iff.1 h0
              rw [if_pos h0]; simp [bytesA, rightA]
            · by_cases h1 : 16384 < b.length + A.length
              · rw [if_neg h0, if_pos h1] at he; cases he
              · rw [if_neg h0, if_neg h1]; exact bytesA_add A b
          rw [if_pos he, app_of (by simp; omega), bnd_some', app_of (by simp; omega), bnd_some', bnd_some']
          dsimp only
          obtain ⟨s', h1, h2⟩ := hrest (S ++ [(addA b A).1]) (T ++ [b]) ⟨by simp [i1], by simp; omega, fun k x y hx hy => by
            by_cases hk : k < S.length
            · rw [List.getElem?_append_left hk] at hx
              rw [List.getElem?_append_left (by omega)] at hy
              exact hkeep k x y hx hy
            · rw [List.getElem?_append_right (by omega)] at hx
              rw [List.getElem?_append_right (by omega)] at hy
              have hk0 : k - S.length = 0 := by
                have := (List.getElem?_eq_some_iff.1 hx).1
                simp at this; omega
              rw [hk0] at hx
              rw [show k - T.length = 0 by omega] at hy
              simp at hx hy
              subst hx hy
              exact ⟨hadd.2, hadd.1⟩⟩
          exact .inl ⟨s', h1, h2⟩
        · rw [if_neg he, bnd_some']
          dsimp only
          obtain ⟨s', h1, h2⟩ := hrest S T ⟨i1, by simp; omega, hkeep⟩
          exact .inl ⟨s', h1, h2⟩)
    (fun s hI => by
      obtain ⟨i1, i2, i3, i4, i5⟩ := hI
      exact ⟨Ex.brk (s.1, s.2.1, s.2.2), by unfold law03_ArenaStays.l2; rw [if_neg (by simp)], i1, by dsimp only; omega, i4, i5⟩) (s0 := ([], [], f0)) ⟨rfl, by simp, by simp, by simp; omega, fun k x y hx => by simp at hx⟩
  dsimp only at t1
  rw [t1, bnd_some']
  cases t with
  | ret v => exact t2.elim
  | brk u =>
    obtain ⟨S, T, A⟩ := u
    obtain ⟨i1, i2, i4, i5⟩ := t2
    dsimp only at i1 i2 i4 i5 ⊢
    obtain ⟨r, r1, r2⟩ := loop_for (f := law03_ArenaStays.l3 (S, T, A)) (σ := Unit) (fun k _ => k) S (fun _ _ => True) (fun t => match t with | .brk _ => True | .ret _ => False) (fun pre x suf _ hs _ => by
      have hpl : pre.length + 1 ≤ S.length := by rw [hs]; simp
      have hx : S[pre.length]? = some x := by rw [hs]; simp
      have hy : T[pre.length]? = some T[pre.length] := List.getElem?_eq_getElem (by omega)
      unfold law03_ArenaStays.l3
      dsimp only
      rw [if_pos (by omega), idx_nat hx, bnd_some', Bytes_eq _ _ (by omega), bnd_some', idx_nat hy, bnd_some', (i5 _ _ _ hx hy).2, if_pos rfl, w64_id ⟨by omega, by omega⟩]
      exact .inl ⟨(), rfl, trivial⟩) (fun _ _ => ⟨Ex.brk (), by unfold law03_ArenaStays.l3; rw [if_neg (by simp)], trivial⟩) (s0 := ()) trivial
    rw [r1, bnd_some']
    cases r with
    | ret v => exact r2.elim
    | brk u => dsimp only; rw [awake3_eq, bnd_some']
end Go.Proofs.Ytlginjmkmfodmaa.S
