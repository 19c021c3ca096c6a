/- Chapter 3's arena, told plainly: what is added, kept, told. -/
import Derived.Test.YtbcbggdgkdfciaaG0
import Derived.Test.YtbcbggdgkdfciaaG2xa
import Derived.Test.YtbcbggdgkdfciaaSD
import Derived.Test.YtbcbggdgkdfciaaSH
set_option linter.unusedVariables false
namespace Go.Proofs.Ytbcbggdgkdfciaa.S
open Go Go.Sm
theorem made (b : List UInt8) (h : b.length ≤ 1000000000) : mkz 1 (b.length : Int) (0 : UInt8) = some (List.replicate b.length 0) := by
  rw [mkz_of (by omega)]; simp
theorem made_over (b : List UInt8) : over (List.replicate b.length (0 : UInt8)) b = b := over_same (by simp)
theorem New_eq (a : List UInt8) (h : a.length ≤ 4096) : arena_New a = some (.inr (0, a)) := by
  unfold arena_New
  rw [if_neg (by omega), made a (by omega), bnd_some', made_over]
def addA (b a : List UInt8) : arena_Span × Int × List UInt8 := if b.length = 0 then (⟨0, 0⟩, 0, a) else if 16384 < b.length + a.length then (⟨0, 0⟩, 6, a) else (⟨a.length, b.length⟩, 0, a ++ b)
theorem Room_eq (a : List UInt8) (ha : a.length ≤ 16384) : arena_Arena_Room a = some (16384 - (a.length : Int)) := by
  unfold arena_Arena_Room; rw [w64_id ⟨by omega, by omega⟩]
theorem Add_eq (b a : List UInt8) (ha : a.length ≤ 16384) (hb : b.length ≤ 1000000000) : arena_Arena_Add b a = some (addA b a) := by
  unfold arena_Arena_Add addA
  by_cases h0 : b.length = 0
  · rw [if_pos (by omega), if_pos h0]
  · rw [if_neg (by omega), if_neg h0, Room_eq a ha, bnd_some']
    by_cases h1 : 16384 < b.length + a.length
    · rw [if_pos (by omega), if_pos h1]
    · rw [if_neg (by omega), if_neg h1, app_of (by omega), bnd_some']
theorem addA_len (b a : List UInt8) (ha : a.length ≤ 16384) : (addA b a).2.2.length ≤ 16384 := by
  unfold addA
  by_cases h0 : b.length = 0
  · rw [if_pos h0]; exact ha
  · by_cases h1 : 16384 < b.length + a.length
    · rw [if_neg h0, if_pos h1]; exact ha
    · rw [if_neg h0, if_neg h1]; simp only [List.length_append]; omega
theorem addA_pre (b a : List UInt8) : ∃ m, (addA b a).2.2 = a ++ m := by
  unfold addA
  by_cases h0 : b.length = 0
  · exact ⟨[], by rw [if_pos h0]; simp⟩
  · by_cases h1 : 16384 < b.length + a.length
    · exact ⟨[], by rw [if_neg h0, if_pos h1]; simp⟩
    · exact ⟨b, by rw [if_neg h0, if_neg h1]⟩
def keepA (b a : List UInt8) : arena_Span × Int × List UInt8 := if b.length = 0 then (⟨0, 0⟩, 0, a) else if 0 ≤ Go.Lib.index a b then (⟨Go.Lib.index a b, b.length⟩, 0, a) else addA b a
theorem Keep_eq (b a : List UInt8) (ha : a.length ≤ 16384) (hb : b.length ≤ 1000000000) : arena_Arena_Keep b a = some (keepA b a) := by
  unfold arena_Arena_Keep keepA
  by_cases h0 : b.length = 0
  · rw [if_neg (by omega), bnd_some', if_pos h0]
    simp only
    rw [Add_eq b a ha hb, bnd_some']
    unfold addA; rw [if_pos h0]
  · rw [if_pos (by omega), if_neg h0, bIndex, if_pos ⟨by omega, by omega⟩, bnd_some']
    by_cases h1 : 0 ≤ Go.Lib.index a b
    · rw [if_pos h1, if_pos h1, bnd_some']
    · rw [if_neg h1, if_neg h1, bnd_some']
      simp only
      rw [Add_eq b a ha hb, bnd_some']
def rightA (s : arena_Span) (a : List UInt8) : Bool := decide (0 ≤ s.fAt ∧ 0 ≤ s.fN ∧ s.fAt ≤ a.length ∧ s.fN ≤ a.length - s.fAt)
theorem Right_eq (s : arena_Span) (a : List UInt8) (ha : a.length ≤ 1000000000) : arena_Arena_Right s a = some (rightA s a) := by
  unfold arena_Arena_Right rightA
  by_cases h1 : 0 ≤ s.fAt
  · rw [if_pos h1]
    by_cases h2 : 0 ≤ s.fN
    · rw [if_pos h2]
      by_cases h3 : s.fAt ≤ (a.length : Int)
      · rw [if_pos h3, w64_id ⟨by omega, by omega⟩, bnd_some']
        simp [h1, h2, h3]
      · rw [if_neg h3, bnd_some']; simp [h3]
    · rw [if_neg h2, bnd_some']; simp [h2]
  · rw [if_neg h1, bnd_some']; simp [h1]
def bytesA (s : arena_Span) (a : List UInt8) : List UInt8 := if rightA s a = true then (a.take (s.fAt + s.fN).toNat).drop s.fAt.toNat else []
theorem bytesA_len (s : arena_Span) (a : List UInt8) : (bytesA s a).length ≤ a.length := by
  unfold bytesA; split <;> simp; omega
theorem Bytes_eq (s : arena_Span) (a : List UInt8) (ha : a.length ≤ 1000000000) : arena_Arena_Bytes s a = some (bytesA s a) := by
  have hl := bytesA_len s a
  unfold arena_Arena_Bytes arena_Arena_part
  rw [Right_eq s a ha, bnd_some']
  cases h : rightA s a with
  | false =>
    rw [if_neg (by simp), bnd_some']
    simp only
    rw [made [] (by simp), bnd_some', made_over]
    simp [bytesA, h]
  | true =>
    have hr := h
    unfold rightA at hr
    simp only [decide_eq_true_eq] at hr
    have hb : bytesA s a = (a.take (s.fAt + s.fN).toNat).drop s.fAt.toNat := by simp [bytesA, h]
    rw [if_pos rfl, w64_id ⟨by omega, by omega⟩, cut_of ⟨by omega, by omega, by omega⟩, bnd_some', bnd_some']
    simp only
    rw [cut_of ⟨by omega, by omega, by omega⟩, bnd_some', ← hb, made _ (by omega), bnd_some', made_over]
/-- What a span told it tells for ever. -/
theorem bytesA_app {s : arena_Span} {a : List UInt8} (h : rightA s a = true) (m : List UInt8) : bytesA s (a ++ m) = bytesA s a ∧ rightA s (a ++ m) = true := by
  have hr := h
  unfold rightA at hr
  simp only [decide_eq_true_eq] at hr
  have h' : rightA s (a ++ m) = true := by
    unfold rightA
    simp only [decide_eq_true_eq, List.length_append]
    omega
  refine ⟨?_, h'⟩
  unfold bytesA
  rw [if_pos h, if_pos h', List.take_append_of_le_length (by omega)]
theorem bytesA_add (a b : List UInt8) : bytesA ⟨a.length, b.length⟩ (a ++ b) = b ∧ rightA ⟨a.length, b.length⟩ (a ++ b) = true := by
  have h' : rightA ⟨a.length, b.length⟩ (a ++ b) = true := by
    unfold rightA
    simp only [decide_eq_true_eq, List.length_append]
    omega
  refine ⟨?_, h'⟩
  unfold bytesA
  rw [if_pos h']
  simp only
  rw [show ((a.length : Int) + (b.length : Int)).toNat = (a ++ b).length by simp; omega, List.take_length]
  simp
/-- Where a text stands. -/
theorem index_of {a b : List UInt8} (h : 0 ≤ Go.Lib.index a b) (hb : 0 < b.length) : ∃ k : Nat, Go.Lib.index a b = k ∧ k + b.length ≤ a.length ∧ (a.drop k).take b.length = b ∧ ∀ j, j < k → (a.drop j).take b.length ≠ b := by
  by_cases hx : ∃ j, j ≤ a.length ∧ Go.Lib.occAt a b j = true
  · -- the first such place
    have hfirst : ∃ k, k ≤ a.length ∧ Go.Lib.occAt a b k = true ∧ ∀ j, j < k → Go.Lib.occAt a b j = false := by
      obtain ⟨j, hj⟩ := hx
      have key : ∀ n j, j ≤ n → j ≤ a.length → Go.Lib.occAt a b j = true → ∃ k, k ≤ a.length ∧ Go.Lib.occAt a b k = true ∧ ∀ j, j < k → Go.Lib.occAt a b j = false := by
        intro n
        induction n with
        | zero => intro j hn hj ho; exact ⟨j, hj, ho, fun i hi => by omega⟩
        | succ n ih =>
          intro j hn hj ho
          by_cases hi : ∃ i, i < j ∧ Go.Lib.occAt a b i = true
          · obtain ⟨i, h1, h2⟩ := hi
            exact ih i (by omega) (by omega) h2
          · exact ⟨j, hj, ho, fun i h1 => by
              cases hc : Go.Lib.occAt a b i with
              | false => rfl
              | true => exact absurd ⟨i, h1, hc⟩ hi⟩
      exact key j j (Nat.le_refl _) hj.1 hj.2
    obtain ⟨k, k1, k2, k3⟩ := hfirst
    have hroom := Go.Lib.occAt_room k2
    have hr : k + b.length ≤ a.length := hroom.elim id (fun e => by rw [e] at hb; simp at hb)
    refine ⟨k, Go.Lib.index_first k1 k2 k3, hr, ?_, fun j hj e => ?_⟩
    · have := Go.Lib.occAt_iff_take a b k hr
      rw [k2] at this
      simpa using this.symm
    · have := Go.Lib.occAt_iff_take a b j (by omega)
      rw [k3 j hj, e] at this
      simp at this
  · have := Go.Lib.index_none (s := a) (sub := b) (fun j hj => by
      cases hc : Go.Lib.occAt a b j with
      | false => rfl
      | true => exact absurd ⟨j, hj, hc⟩ hx)
    omega
theorem index_not {a b : List UInt8} (h : ¬ 0 ≤ Go.Lib.index a b) (hb : 0 < b.length) : ∀ j, j + b.length ≤ a.length → (a.drop j).take b.length ≠ b := fun j hj e => by
  have ho : Go.Lib.occAt a b j = true := by rw [Go.Lib.occAt_iff_take a b j hj, e]; simp
  -- an instance: the index is a place
  have key : ∀ n j, j ≤ n → j ≤ a.length → Go.Lib.occAt a b j = true → ∃ k, k ≤ a.length ∧ Go.Lib.occAt a b k = true ∧ ∀ j, j < k → Go.Lib.occAt a b j = false := by
    intro n
    induction n with
    | zero => intro j hn hj ho; exact ⟨j, hj, ho, fun i hi => by omega⟩
    | succ n ih =>
      intro j hn hj ho
      by_cases hi : ∃ i, i < j ∧ Go.Lib.occAt a b i = true
      · obtain ⟨i, h1, h2⟩ := hi
        exact ih i (by omega) (by omega) h2
      · exact ⟨j, hj, ho, fun i h1 => by
          cases hc : Go.Lib.occAt a b i with
          | false => rfl
          | true => exact absurd ⟨i, h1, hc⟩ hi⟩
  obtain ⟨k, k1, k2, k3⟩ := key j j (Nat.le_refl _) (by omega) ho
  have := Go.Lib.index_first k1 k2 k3
  omega
/-- What is kept is told. -/
theorem keepA_spec (b a : List UInt8) (ha : a.length ≤ 16384) : (keepA b a).2.2.length ≤ 16384 ∧ (∃ m, (keepA b a).2.2 = a ++ m) ∧
    ((keepA b a).2.1 = 0 ∧ bytesA (keepA b a).1 (keepA b a).2.2 = b ∧ rightA (keepA b a).1 (keepA b a).2.2 = true ∧ (keepA b a).1.fN = b.length ∨ (keepA b a).2.1 = 6 ∧ 16384 < b.length + a.length ∧ (keepA b a).2.2 = a) := by
  unfold keepA
  by_cases h0 : b.length = 0
  · rw [if_pos h0]
    obtain rfl := List.length_eq_zero_iff.1 h0
    refine ⟨ha, ⟨[], by simp⟩, .inl ⟨rfl, ?_, ?_, rfl⟩⟩
    · simp [bytesA]
    · simp [rightA]
  · rw [if_neg h0]
    by_cases h1 : 0 ≤ Go.Lib.index a b
    · rw [if_pos h1]
      obtain ⟨k, k1, k2, k3, _⟩ := index_of h1 (by omega)
      have hr : rightA ⟨Go.Lib.index a b, b.length⟩ a = true := by
        unfold rightA; rw [k1]; simp only [decide_eq_true_eq]; omega
      refine ⟨ha, ⟨[], by simp⟩, .inl ⟨rfl, ?_, hr, rfl⟩⟩
      unfold bytesA
      rw [if_pos hr]
      simp only
      rw [k1, show ((k : Int) + (b.length : Int)).toNat = k + b.length by omega, show ((k : Int)).toNat = k by omega]
      rw [show (a.take (k + b.length)).drop k = (a.drop k).take b.length by rw [List.drop_take]; congr 1; omega]
      exact k3
    · rw [if_neg h1]
      refine ⟨addA_len b a ha, addA_pre b a, ?_⟩
      unfold addA
      rw [if_neg h0]
      by_cases h2 : 16384 < b.length + a.length
      · rw [if_pos h2]; exact .inr ⟨rfl, h2, rfl⟩
      · rw [if_neg h2]; exact .inl ⟨rfl, (bytesA_add a b).1, (bytesA_add a b).2, rfl⟩
end Go.Proofs.Ytbcbggdgkdfciaa.S
