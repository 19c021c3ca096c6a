/- Chapter 6's fields, told plainly: the first field read, the automaton of right files; the laws QuotePuts, QuoteReads. -/
import Derived.Test.YtkjcogmngoogcaaG1xa
import Derived.Test.YtkjcogmngoogcaaG3xa
import Derived.Test.YtkjcogmngoogcaaG5xa
import Derived.Test.YtkjcogmngoogcaaG6xa
import Derived.Test.YtkjcogmngoogcaaG7xa
import Derived.Test.YtkjcogmngoogcaaG9xa
import Derived.Test.YtkjcogmngoogcaaQuoA
set_option linter.unusedVariables false
namespace Go.Proofs.Ytkjcogmngoogcaa.S
open Go Go.Sm
theorem fs_head (b : List UInt8) (i : Nat) : ∃ L, (fs b i).1 = i :: L := by
  unfold fs
  cases b.length with
  | zero => exact ⟨[], rfl⟩
  | succ n =>
    simp only [fsF]
    split
    · exact ⟨_, rfl⟩
    · exact ⟨[], rfl⟩
theorem sOne_eq (b : List UInt8) (hb : b.length ≤ 1000000) (i : Nat) (hi : i < b.length) : scan_One b (i : Int) = some (sRow b i, ((nx b i : Nat) : Int)) := by
  unfold scan_One
  rw [if_neg (by omega), done_eq, bnd_some', bnd_some', decide_eq_false (by omega), if_neg (by simp), sRow_eq b hb i (by omega), bnd_some']
theorem sOne_nil : scan_One [] 0 = some (⟨[], 0⟩, 0) := by
  unfold scan_One scan_reader_done
  rfl
theorem rOne_nil : ref05_One [] 0 = some (⟨[], 0⟩, 0) := by
  unfold ref05_One
  rfl
/-- The first field's value, and its kind. -/
def read (b : List UInt8) : List UInt8 × Int := if b = [] then ([], 0) else (bytesAt b (fieldF b 0).2.1, (fieldF b 0).1)
theorem read_eq (b : List UInt8) (hb : b.length ≤ 1000000) : quote_Read b = some (read b) := by
  unfold quote_Read read
  by_cases h : b = []
  · subst h; rw [sOne_nil]; rfl
  · have hpos : 0 < b.length := List.length_pos_iff.2 h
    have := sOne_eq b hb 0 hpos
    rw [show ((0 : Nat) : Int) = 0 from rfl] at this
    obtain ⟨L, hL⟩ := fs_head b 0
    have hf : (sRow b 0).fFields = sField b 0 :: L.map (sField b) := by
      show (fs b 0).1.map (sField b) = _
      rw [hL]; rfl
    rw [this, bnd_some', if_neg h]
    simp only
    rw [hf, if_neg (by simp; omega), show idx (sField b 0 :: L.map (sField b)) 0 = some (sField b 0) from rfl, bnd_some', value_eq b hb 0 (by omega), bnd_some']
    rfl
theorem refRead_eq (b : List UInt8) (hb : b.length ≤ 1000000) : ref06_Read b = some (read b) := by
  unfold ref06_Read read
  by_cases h : b = []
  · subst h; rw [rOne_nil]; rfl
  · have hpos : 0 < b.length := List.length_pos_iff.2 h
    have := rRow_eq b hb 0 hpos
    rw [show ((0 : Nat) : Int) = 0 from rfl] at this
    obtain ⟨L, hL⟩ := fs_head b 0
    have hf : (rRow b 0).fFields = rField b 0 :: L.map (rField b) := by
      show (fs b 0).1.map (rField b) = _
      rw [hL]; rfl
    obtain ⟨p1, p2, p3⟩ := places_good hb (i := 0) (by omega)
    rw [this, bnd_some', if_neg h]
    simp only
    rw [hf, if_neg (by simp; omega), show idx (rField b 0 :: L.map (rField b)) 0 = some (rField b 0) from rfl, bnd_some', show (rField b 0).fBytes = (fieldF b 0).2.1 from rfl, text_eq b hb _ p3 p2, bnd_some']
    rfl
/-! ### the automaton -/
def cls (x : UInt8) : Int := if x = 44 then 1 else if x = 34 then 2 else if x = 13 then 3 else if x = 10 then 4 else 0
def stepN (a : Int) (x : UInt8) : Int :=
  if a = 2 then (if cls x = 2 then 3 else 2)
  else if a = 4 then (if cls x = 4 then 0 else 5)
  else if a = 0 then (if cls x = 2 then 2 else if cls x = 0 then 1 else if cls x = 1 then 0 else if cls x = 3 then 4 else 5)
  else if a = 1 then (if cls x = 0 then 1 else if cls x = 1 then 0 else if cls x = 3 then 4 else 5)
  else if a = 3 then (if cls x = 1 then 0 else if cls x = 3 then 4 else if cls x = 2 then 2 else 5)
  else 5
theorem step_eq (a : Int) (x : UInt8) : quote_step a x = some (stepN a x) := by
  have hc : quote_class x = some (cls x) := class_eq x
  unfold quote_step stepN
  rw [hc, bnd_some']
  generalize cls x = c
  by_cases a2 : a = 2
  · subst a2; by_cases c2 : c = 2 <;> simp [c2]
  · by_cases a4 : a = 4
    · subst a4; by_cases c4 : c = 4 <;> simp [c4]
    · by_cases a0 : a = 0
      · subst a0
        by_cases c2 : c = 2
        · simp [c2]
        · by_cases c0 : c = 0
          · simp [c0]
          · by_cases c1 : c = 1
            · simp [c1]
            · by_cases c3 : c = 3
              · simp [c3]
              · simp [c2, c0, c1, c3]
      · by_cases a1 : a = 1
        · subst a1
          by_cases c0 : c = 0
          · simp [c0]
          · by_cases c1 : c = 1
            · simp [c1]
            · by_cases c3 : c = 3
              · simp [c3]
              · by_cases c2 : c = 2
                · simp [c2]
                · simp [c2, c0, c1, c3]
        · by_cases a3 : a = 3
          · subst a3
            by_cases c1 : c = 1
            · simp [c1]
            · by_cases c3 : c = 3
              · simp [c3]
              · by_cases c2 : c = 2
                · simp [c2]
                · simp [c2, c1, c3]
          · simp [a2, a4, a0, a1, a3]
theorem stepN_range (a : Int) (x : UInt8) : 0 ≤ stepN a x ∧ stepN a x ≤ 5 := by
  unfold stepN
  repeat' split
  all_goals omega
def auto (b : List UInt8) : Int := b.foldl stepN 0
theorem auto_range (b : List UInt8) : 0 ≤ auto b ∧ auto b ≤ 5 := by
  induction b using snoc_ind with
  | nil => simp [auto]
  | snoc b x ih => unfold auto; rw [List.foldl_append]; exact stepN_range _ _
def accept (a : Int) : Bool := a == 0 || a == 1 || a == 3
theorem right_eq (b : List UInt8) (hb : b.length ≤ 1000000) : quote_Right b = some (accept (auto b)) := by
  have h := loop_fold (f := quote_Right.l1 b) (fun i (s : Int) => (s, i)) b (fun pre => auto pre) (t := auto b)
    (fun pre x suf hs => by
      have hpl : pre.length + 1 ≤ b.length := by rw [hs]; simp
      unfold quote_Right.l1
      simp only
      rw [if_pos (by omega), show idx b (pre.length : Int) = some x by rw [hs]; exact idx_at pre x suf, bnd_some', step_eq, bnd_some', w64_id ⟨by omega, by omega⟩]
      simp [auto, List.foldl_append])
    (by
      unfold quote_Right.l1
      simp only
      rw [if_neg (by omega)])
  unfold quote_Right
  have h' : loop (quote_Right.l1 b) (0, 0) = some (auto b) := by simpa [auto] using h
  rw [h', bnd_some']
  obtain ⟨r1, r2⟩ := auto_range b
  generalize auto b = a at *
  have : a = 0 ∨ a = 1 ∨ a = 2 ∨ a = 3 ∨ a = 4 ∨ a = 5 := by omega
  rcases this with rfl | rfl | rfl | rfl | rfl | rfl <;> rfl
theorem awake6_eq : law06_awake = some true := by
  have h1 : quote_Read [34, 120, 34, 121, 44, 122] = some ([120, 121], 3) := by
    rw [read_eq _ (by simp)]; exact congrArg some (by decide +kernel)
  have h2 : quote_Put [97, 34, 98] = some [34, 97, 34, 34, 98, 34] := by
    rw [put_eq _ (by simp)]; exact congrArg some (by decide +kernel)
  have h3 : quote_Right [97, 44, 98, 13, 10, 99] = some true := by
    rw [right_eq _ (by simp)]; exact congrArg some (by decide +kernel)
  have h4 : quote_Right [97, 10, 98] = some false := by
    rw [right_eq _ (by simp)]; exact congrArg some (by decide +kernel)
  unfold law06_awake
  rw [h1, bnd_some', h2, bnd_some', h3, bnd_some', h4]
  rfl
theorem cut6_eq (a : List UInt8) (n : Nat) : law06_cut a (n : Int) = some (a.take n) := by
  unfold law06_cut
  by_cases h : (a.length : Int) > (n : Int)
  · rw [if_pos h, cut_of ⟨by omega, by omega, by omega⟩, bnd_some']; simp
  · rw [if_neg h, List.take_of_length_le (by omega)]
theorem QuotePuts_holds (a0 : List UInt8) (w0 : a0.length ≤ maxLen) : law06_QuotePuts a0 = some true := by
  unfold law06_QuotePuts
  rw [show ((400 : Int)) = ((400 : Nat) : Int) from rfl, cut6_eq, bnd_some']
  generalize hbb : a0.take 400 = b
  have hb : b.length ≤ 1000000 := by rw [← hbb]; simp; omega
  rw [refPut_eq b hb, bnd_some', needs_eq b hb, bnd_some', refNeeds_eq b hb, bnd_some', if_pos (beq_self_eq_true _), put_eq b hb, bnd_some', if_pos rfl, width_eq b hb, bnd_some', if_pos rfl, awake6_eq]
  rfl
theorem QuoteReads_holds (a0 : List UInt8) (w0 : a0.length ≤ maxLen) : law06_QuoteReads a0 = some true := by
  unfold law06_QuoteReads
  rw [show ((400 : Int)) = ((400 : Nat) : Int) from rfl, cut6_eq, bnd_some']
  generalize hbb : a0.take 400 = b
  have hb : b.length ≤ 1000000 := by rw [← hbb]; simp; omega
  rw [read_eq b hb, bnd_some', refRead_eq b hb, bnd_some']
  generalize read b = r
  rw [if_pos (rfl : r.1 = r.1), if_pos (rfl : r.2 = r.2), awake6_eq]
  rfl
end Go.Proofs.Ytkjcogmngoogcaa.S
