/- The laws ArenaNil, ArenaSpans. -/
import Derived.Test.YtlginjmkmfodmaaG0
import Derived.Test.YtlginjmkmfodmaaG10xa
import Derived.Test.YtlginjmkmfodmaaG11xa
import Derived.Test.YtlginjmkmfodmaaG8xa
import Derived.Test.YtlginjmkmfodmaaArL
set_option linter.unusedVariables false
namespace Go.Proofs.Ytlginjmkmfodmaa.S
open Go Go.Sm
theorem ArenaNil_holds (a0 : List UInt8) (a1 : arena_Span) (w0 : a0.length ≤ maxLen ∧ ∀ a ∈ a0, True) (w1 : (Lit.int .i64 a1.fAt).wf = true ∧ (Lit.int .i64 a1.fN).wf = true) : law03_ArenaNil a0 a1 = some true := by
  unfold law03_ArenaNil arena_Arena_Keep_2 arena_Arena_Add_2 arena_Arena_Byte arena_Arena_Bytes_2 arena_Arena_part_2 arena_Arena_Right_2 arena_Arena_Len_2 arena_Arena_Room_2
  have hm : mkz 1 ((([] : List UInt8).length : Int)) (0 : UInt8) = some [] := made [] (by simp)
  simp only [bnd_some', awake3_eq]
  simp only [if_neg (show ¬ (false = true) by simp), bnd_some', hm]
  simp [over]
theorem span_eq (a : arena_Span) (p : Int) : (a == (⟨p, a.fN⟩ : arena_Span)) = (a.fAt == p) := by
  rw [Bool.eq_iff_iff]; cases a; simp
theorem Join_eq3 (s t : arena_Span) : ∃ x b, arena_Join s t = some (x, b) ∧ ref03_Join (ofS s) (ofS t) = some (ofS x, b) := by
  unfold arena_Join ref03_Join
  rw [span_eq]
  by_cases h1 : s.fN < 0
  · simp only [if_pos h1, bnd_some', if_true]; exact ⟨_, _, rfl, rfl⟩
  · by_cases h2 : t.fN < 0
    · simp only [if_neg h1, if_pos h2, bnd_some', if_true]; exact ⟨_, _, rfl, rfl⟩
    · simp only [if_neg h1, if_neg h2, bnd_some']
      by_cases h3 : (!(t.fAt == w64 (s.fAt + s.fN))) = true
      · simp only [if_pos h3]; exact ⟨_, _, rfl, rfl⟩
      · simp only [if_neg h3]; exact ⟨_, _, rfl, rfl⟩
theorem Sub_eq3 (s : arena_Span) (i j : Int) : ∃ x, arena_Sub s i j = some x ∧ ref03_Sub (ofS s) i j = some (ofS x) := by
  unfold arena_Sub ref03_Sub
  by_cases h1 : s.fN < 0
  · simp only [if_pos h1]; exact ⟨_, rfl, rfl⟩
  · simp only [if_neg h1, bnd_some']
    have h2 : ref03_held i 0 s.fN = some (if s.fN < (if 0 > i then 0 else i) then s.fN else (if 0 > i then 0 else i)) := by
      unfold ref03_held
      repeat' split
      all_goals first | rfl | (congr 1; omega)
    rw [h2, bnd_some']
    generalize hp : (if s.fN < (if 0 > i then 0 else i) then s.fN else (if 0 > i then 0 else i)) = p
    have hpb : p ≤ s.fN := by rw [← hp]; repeat' split
                              all_goals omega
    have h3 : ref03_held j p s.fN = some (if s.fN < (if p > j then p else j) then s.fN else (if p > j then p else j)) := by
      unfold ref03_held
      repeat' split
      all_goals first | rfl | (congr 1; omega)
    rw [h3, bnd_some']
    exact ⟨_, rfl, rfl⟩
theorem ArenaSpans_holds (a0 a1 : arena_Span) (a2 : Int × Int) (w0 : (Lit.int .i64 a0.fAt).wf = true ∧ (Lit.int .i64 a0.fN).wf = true) (w1 : (Lit.int .i64 a1.fAt).wf = true ∧ (Lit.int .i64 a1.fN).wf = true) (w2 : (Lit.int .i64 a2.1).wf = true ∧ (Lit.int .i64 a2.2).wf = true) : law03_ArenaSpans a0 a1 a2 = some true := by
  unfold law03_ArenaSpans
  obtain ⟨t, t1, t2⟩ := loop_for (f := law03_ArenaSpans.l1 a0 a1) (σ := Unit) (fun k _ => k) [a0.fAt, a0.fN, a1.fAt, a1.fN] (fun _ _ => True) (fun t => match t with | .brk _ => True | .ret v => v = true) (fun pre x suf _ hs _ => by
    have hpl : pre.length + 1 ≤ 4 := by
      have := congrArg List.length hs
      simp at this; omega
    unfold law03_ArenaSpans.l1
    rw [if_pos (by omega), show idx [a0.fAt, a0.fN, a1.fAt, a1.fN] (pre.length : Int) = some x by rw [hs]; exact idx_at pre x suf, bnd_some']
    by_cases h1 : x < -1099511627776
    · rw [if_pos h1, bnd_some', if_pos rfl, awake3_eq, bnd_some']
      exact .inr ⟨_, rfl, rfl⟩
    · rw [if_neg h1, bnd_some']
      by_cases h2 : x > 1099511627776
      · rw [if_pos (by simpa using h2), awake3_eq, bnd_some']
        exact .inr ⟨_, rfl, rfl⟩
      · rw [if_neg (by simpa using h2), w64_id ⟨by omega, by omega⟩]
        exact .inl ⟨(), rfl, trivial⟩) (fun _ _ => by
    refine ⟨Ex.brk (), ?_, trivial⟩
    unfold law03_ArenaSpans.l1
    rw [if_neg (by simp)]) (s0 := ()) trivial
  rw [t1, bnd_some']
  cases t with
  | ret v => rw [show v = true from t2]
  | brk u =>
    obtain ⟨x, b, j1, j2⟩ := Join_eq3 a0 a1
    obtain ⟨y, s1, s2⟩ := Sub_eq3 a0 a2.1 a2.2
    dsimp only
    rw [j1, bnd_some', ours_eq, bnd_some', ours_eq, bnd_some', j2, bnd_some', s1, bnd_some', ours_eq, bnd_some', bnd_some', s2, bnd_some', if_pos rfl, ours_eq, bnd_some', if_pos rfl, if_pos (by simp), awake3_eq, bnd_some', bnd_some']
end Go.Proofs.Ytlginjmkmfodmaa.S
