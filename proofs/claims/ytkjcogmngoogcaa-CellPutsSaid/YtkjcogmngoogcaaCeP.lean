/- The laws CellPuts and CellBack. -/
import Derived.Test.YtkjcogmngoogcaaG10xa
import Derived.Test.YtkjcogmngoogcaaG22xa
import Derived.Test.YtkjcogmngoogcaaG24xa
import Derived.Test.YtkjcogmngoogcaaG25xa
import Derived.Test.YtkjcogmngoogcaaG26xa
import Derived.Test.YtkjcogmngoogcaaCel
import Derived.Test.YtkjcogmngoogcaaQuoC
set_option linter.unusedVariables false
namespace Go.Proofs.Ytkjcogmngoogcaa.S
open Go Go.Sm
theorem CPut_eq (b a : List UInt8) (ha : a.length ≤ 16384) (hb : b.length ≤ 400) :
    (∃ s a', cell_Put b a = some (⟨tOf (exp1 s), ⟨0, 0⟩, false⟩, 0, a') ∧ InA (exp1 s) a' ∧ bytesAt a' (exp1 s) = b ∧ a'.length ≤ 16384 ∧ (exp1 s).length = b.length) ∨
    (cell_Put b a = some (⟨⟨[], 0⟩, ⟨0, 0⟩, false⟩, 6, a) ∧ 16384 < b.length + a.length) := by
  unfold cell_Put
  rw [if_neg (by omega), Keep_eq b a ha (by omega), bnd_some']
  obtain ⟨k1, k2, k3⟩ := keepA_spec b a ha
  rcases k3 with ⟨q1, q2, q3, q4⟩ | ⟨q1, q2, q3⟩
  · obtain ⟨o1, o2, o3⟩ := Of1_eq _ _ q3 (by omega)
    rw [if_pos q1, o1, bnd_some']
    refine .inl ⟨_, _, rfl, o2, by rw [← o3, q2], k1, ?_⟩
    rw [show (exp1 (keepA b a).1).length = (keepA b a).1.fN.toNat from rangeI_len _ _, q4]; omega
  · rw [if_neg (by rw [q1]; decide), q1, q3]
    exact .inr ⟨rfl, q2⟩
theorem CellPuts_holds (a0 a1 : List UInt8) (a2 : Int) (w0 : a0.length ≤ maxLen) (w1 : a1.length ≤ maxLen) (w2 : (Lit.int .u16 a2).wf = true) : law07_CellPuts a0 a1 a2 = some true := by
  have w2' : 0 ≤ a2 ∧ a2 ≤ 65535 := by
    simp [Lit.wf] at w2
    simpa [IntKind.min, IntKind.max, IntKind.bits, IntKind.signed] using w2
  unfold law07_CellPuts
  rw [show ((300 : Int)) = ((300 : Nat) : Int) from rfl, show ((600 : Int)) = ((600 : Nat) : Int) from rfl, cut7_eq, bnd_some', cut7_eq, bnd_some']
  generalize hf : a0.take 300 = f
  generalize hb : a1.take 600 = b
  have hfl : f.length ≤ 300 := by rw [← hf]; simp; omega
  have hbl : b.length ≤ 600 := by rw [← hb]; simp; omega
  rw [New_eq f (by omega), bnd_some']
  dsimp only
  have hrem : rem (w64 a2) 16399 = ((a2 % 16400).toNat : Int) := by
    rw [w64_id ⟨by omega, by omega⟩]
    unfold rem
    rw [Int.tmod_eq_emod_of_nonneg w2'.1]
    show a2 % 16400 = _
    omega
  have hz : (a2 % 16400).toNat ≤ 16399 := by omega
  generalize (a2 % 16400).toNat = n at hrem hz
  rw [hrem, mkz_of (by omega), bnd_some', Int.toNat_natCast, Add_eq _ f (by omega) (by simp; omega), bnd_some']
  have hal := addA_len (List.replicate n 0) f (by omega)
  generalize (addA (List.replicate n 0) f).2.2 = a at hal
  rw [Len_eq, bnd_some']
  by_cases h400 : b.length > 400
  · have hp : cell_Put b a = some (⟨⟨[], 0⟩, ⟨0, 0⟩, false⟩, 7, a) := by unfold cell_Put; rw [if_pos (by omega)]
    rw [hp, bnd_some', if_pos (by omega)]
    dsimp only
    rw [if_pos rfl, show cell_Cell_Empty ⟨⟨[], 0⟩, ⟨0, 0⟩, false⟩ = some true from rfl, bnd_some', if_pos rfl, Len_eq, bnd_some', if_pos rfl, awake7_eq, bnd_some', bnd_some']
  · rcases CPut_eq b a hal (by omega) with ⟨s, a', p1, p2, p3, p4, p5⟩ | ⟨p1, p2⟩
    · rw [p1, bnd_some', if_neg (by omega)]
      dsimp only
      rw [if_pos rfl, PlainW_eq _ _ _ p2 p4 (by omega), bnd_some', p3, if_pos rfl, PrintW_eq _ _ _ p2 p4 (by omega), bnd_some', p3, refPut_eq b (by omega), bnd_some', if_pos rfl, awake7_eq, bnd_some', bnd_some']
    · rw [p1, bnd_some', if_neg (by omega)]
      dsimp only
      rw [if_neg (by decide), if_pos rfl, w64_id ⟨by omega, by omega⟩, if_pos (by omega), Len_eq, bnd_some', if_pos rfl, awake7_eq, bnd_some', bnd_some']
theorem CellBack_holds (a0 : List UInt8) (w0 : a0.length ≤ maxLen) : law07_CellBack a0 = some true := by
  unfold law07_CellBack
  rw [show ((400 : Int)) = ((400 : Nat) : Int) from rfl, cut7_eq, bnd_some']
  generalize hb : a0.take 400 = b
  have hbl : b.length ≤ 400 := by rw [← hb]; simp; omega
  rw [show arena_New_2 = some (0, []) from rfl, bnd_some']
  dsimp only
  rcases CPut_eq b [] (by simp) hbl with ⟨s, a', p1, p2, p3, p4, p5⟩ | ⟨p1, p2⟩
  · have hp := put_len b
    have r1 : read (put b) = (b, if needs b = true then 1 else 0) := by
      have := read_put b [] (.inl rfl) (by simpa using put_nil)
      simpa using this
    rw [p1, bnd_some']
    dsimp only
    rw [PrintW_eq _ _ _ p2 p4 (by omega), bnd_some', p3, read_eq _ (by omega), bnd_some', r1, if_pos rfl]
    dsimp only
    rw [if_pos rfl]
    cases needs b with
    | false =>
      have hf : scan_Fine (if false = true then 1 else 0) = some true := rfl
      rw [hf, bnd_some', if_pos rfl, awake7_eq]; rfl
    | true =>
      have hf : scan_Fine (if true = true then 1 else 0) = some true := rfl
      rw [hf, bnd_some', if_pos rfl, awake7_eq]; rfl
  · simp only [List.length_nil] at p2; omega
end Go.Proofs.Ytkjcogmngoogcaa.S
