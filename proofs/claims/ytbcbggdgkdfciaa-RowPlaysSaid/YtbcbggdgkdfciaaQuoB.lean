/- Chapter 6's fields, told plainly: the first field read, the automaton of right files; the laws QuotePuts, QuoteReads. -/
import Derived.Test.YtbcbggdgkdfciaaG11xa
import Derived.Test.YtbcbggdgkdfciaaG1xa
import Derived.Test.YtbcbggdgkdfciaaG4xa
import Derived.Test.YtbcbggdgkdfciaaQuoA
set_option linter.unusedVariables false
namespace Go.Proofs.Ytbcbggdgkdfciaa.S
open Go Go.Sm
theorem fs_head (b : List UInt8) (i : Nat) : ∃ L, (fs b i).1 = i :: L := by
  unfold fs
  cases b.length with
  | zero => exact ⟨[], rfl⟩
  | succ n =>
    simp only [fsF]
    split
    · exact ⟨_, rfl⟩
    · exact ⟨[], rfl⟩
theorem sOne_eq (b : List UInt8) (hb : b.length ≤ 1000000) (i : Nat) (hi : i < b.length) : scan_One b (i : Int) = some (sRow b i, ((nx b i : Nat) : Int)) := by
  unfold scan_One
  rw [if_neg (by omega), done_eq, bnd_some', bnd_some', decide_eq_false (by omega), if_neg (by simp), sRow_eq b hb i (by omega), bnd_some']
theorem sOne_nil : scan_One [] 0 = some (⟨[], 0⟩, 0) := by
  unfold scan_One scan_reader_done
  rfl
theorem rOne_nil : ref05_One [] 0 = some (⟨[], 0⟩, 0) := by
  unfold ref05_One
  rfl
/-- The first field's value, and its kind. -/
def read (b : List UInt8) : List UInt8 × Int := if b = [] then ([], 0) else (bytesAt b (fieldF b 0).2.1, (fieldF b 0).1)
/-! ### the automaton -/
def cls (x : UInt8) : Int := if x = 44 then 1 else if x = 34 then 2 else if x = 13 then 3 else if x = 10 then 4 else 0
def stepN (a : Int) (x : UInt8) : Int :=
  if a = 2 then (if cls x = 2 then 3 else 2)
  else if a = 4 then (if cls x = 4 then 0 else 5)
  else if a = 0 then (if cls x = 2 then 2 else if cls x = 0 then 1 else if cls x = 1 then 0 else if cls x = 3 then 4 else 5)
  else if a = 1 then (if cls x = 0 then 1 else if cls x = 1 then 0 else if cls x = 3 then 4 else 5)
  else if a = 3 then (if cls x = 1 then 0 else if cls x = 3 then 4 else if cls x = 2 then 2 else 5)
  else 5
theorem stepN_range (a : Int) (x : UInt8) : 0 ≤ stepN a x ∧ stepN a x ≤ 5 := by
  unfold stepN
  repeat' split
  all_goals omega
def auto (b : List UInt8) : Int := b.foldl stepN 0
theorem auto_range (b : List UInt8) : 0 ≤ auto b ∧ auto b ≤ 5 := by
  induction b using snoc_ind with
  | nil => simp [auto]
  | snoc b x ih => unfold auto; rw [List.foldl_append]; exact stepN_range _ _
def accept (a : Int) : Bool := a == 0 || a == 1 || a == 3
end Go.Proofs.Ytbcbggdgkdfciaa.S
