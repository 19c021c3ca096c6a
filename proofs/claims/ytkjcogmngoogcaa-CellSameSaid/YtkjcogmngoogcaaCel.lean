/- Chapter 7's cells, told plainly. -/
import Derived.Test.YtkjcogmngoogcaaG0
import Derived.Test.YtkjcogmngoogcaaG17xa
import Derived.Test.YtkjcogmngoogcaaG21xa
import Derived.Test.YtkjcogmngoogcaaG23xa
import Derived.Test.YtkjcogmngoogcaaG24xa
import Derived.Test.YtkjcogmngoogcaaG26xa
import Derived.Test.YtkjcogmngoogcaaFla
import Derived.Test.YtkjcogmngoogcaaQuoB
set_option linter.unusedVariables false
namespace Go.Proofs.Ytkjcogmngoogcaa.S
open Go Go.Sm
theorem cut7_eq (a : List UInt8) (n : Nat) : law07_cut a (n : Int) = some (a.take n) := by
  unfold law07_cut
  by_cases h : a.length > n
  · rw [if_pos (by omega), cut_of ⟨by omega, by omega, by omega⟩, bnd_some']; simp
  · rw [if_neg (by omega), List.take_of_length_le (by omega)]
theorem CBytes_eq (r : List Int) (raw : arena_Span) (k : Bool) (a : List UInt8) (hr : InA r a) (ha : a.length ≤ 16384) (hl : r.length ≤ 1000000) : cell_Cell_Bytes ⟨tOf r, raw, k⟩ a = some (bytesAt a r) := by
  unfold cell_Cell_Bytes
  rw [Flat_eq (tOf r) r a rfl hr (by omega) hl, bnd_some']
theorem Plain_eq (r : List Int) (raw : arena_Span) (k : Bool) (a : List UInt8) (hr : InA r a) (ha : a.length ≤ 16384) (hl : r.length ≤ 1000000) : law07_Plain ⟨tOf r, raw, k⟩ a = some ⟨bytesAt a r, if k = true then bytesA raw a else [], k⟩ := by
  unfold law07_Plain
  rw [CBytes_eq r raw k a hr ha hl, bnd_some']
  dsimp only
  cases k with
  | true => rw [if_pos rfl, if_pos rfl, Bytes_eq _ _ (by omega), bnd_some', bnd_some']
  | false => rw [if_neg (by simp), if_neg (by simp), bnd_some']
theorem Print_eq (r : List Int) (raw : arena_Span) (k : Bool) (a : List UInt8) (hr : InA r a) (ha : a.length ≤ 16384) (hl : r.length ≤ 100000) : cell_Cell_Print ⟨tOf r, raw, k⟩ a = some (if k = true then bytesA raw a else put (bytesAt a r)) := by
  unfold cell_Cell_Print
  have hb := bytesAt_len a r
  cases k with
  | true => rw [if_pos rfl, if_pos rfl, Bytes_eq _ _ (by omega), bnd_some']
  | false => rw [if_neg (by simp), if_neg (by simp), CBytes_eq r raw false a hr ha (by omega), bnd_some', put_eq _ (by omega), bnd_some']
theorem PlainK_eq (r : List Int) (raw : arena_Span) (a : List UInt8) (hr : InA r a) (ha : a.length ≤ 16384) (hl : r.length ≤ 1000000) : law07_Plain ⟨tOf r, raw, true⟩ a = some ⟨bytesAt a r, bytesA raw a, true⟩ := by
  rw [Plain_eq r raw true a hr ha hl, if_pos rfl]
theorem PlainW_eq (r : List Int) (raw : arena_Span) (a : List UInt8) (hr : InA r a) (ha : a.length ≤ 16384) (hl : r.length ≤ 1000000) : law07_Plain ⟨tOf r, raw, false⟩ a = some ⟨bytesAt a r, [], false⟩ := by
  rw [Plain_eq r raw false a hr ha hl, if_neg (by simp)]
theorem PrintK_eq (r : List Int) (raw : arena_Span) (a : List UInt8) (hr : InA r a) (ha : a.length ≤ 16384) (hl : r.length ≤ 100000) : cell_Cell_Print ⟨tOf r, raw, true⟩ a = some (bytesA raw a) := by
  rw [Print_eq r raw true a hr ha hl, if_pos rfl]
theorem PrintW_eq (r : List Int) (raw : arena_Span) (a : List UInt8) (hr : InA r a) (ha : a.length ≤ 16384) (hl : r.length ≤ 100000) : cell_Cell_Print ⟨tOf r, raw, false⟩ a = some (put (bytesAt a r)) := by
  rw [Print_eq r raw false a hr ha hl, if_neg (by simp)]
theorem Empty_eq (r : List Int) (raw : arena_Span) (k : Bool) : cell_Cell_Empty ⟨tOf r, raw, k⟩ = some ((r.length : Int) == 0) := rfl
theorem Load_eq (r : List Int) (raw : arena_Span) (k : Int) (hr : GoodP r) (hl : r.length ≤ 1000000) : cell_Load ⟨raw, k, canon r⟩ = some ⟨tOf r, raw, true⟩ := by
  unfold cell_Load
  rw [OfC_eq r hr hl, bnd_some']
theorem Tidy_few (r : List Int) (a : List UInt8) (h : (canon r).length ≤ 32) : piece_Text_Tidy (tOf r) a = some (tOf r, 0, a) := by
  unfold piece_Text_Tidy
  rw [show (tOf r).fL = canon r from rfl, if_pos (by omega)]
theorem CPut_eq (b a : List UInt8) (ha : a.length ≤ 16384) (hb : b.length ≤ 400) :
    (∃ s a', cell_Put b a = some (⟨tOf (exp1 s), ⟨0, 0⟩, false⟩, 0, a') ∧ InA (exp1 s) a' ∧ bytesAt a' (exp1 s) = b ∧ a'.length ≤ 16384 ∧ (exp1 s).length = b.length) ∨
    (cell_Put b a = some (⟨⟨[], 0⟩, ⟨0, 0⟩, false⟩, 6, a) ∧ 16384 < b.length + a.length) := by
  unfold cell_Put
  rw [if_neg (by omega), Keep_eq b a ha (by omega), bnd_some']
  obtain ⟨k1, k2, k3⟩ := keepA_spec b a ha
  rcases k3 with ⟨q1, q2, q3, q4⟩ | ⟨q1, q2, q3⟩
  · obtain ⟨o1, o2, o3⟩ := Of1_eq _ _ q3 (by omega)
    rw [if_pos q1, o1, bnd_some']
    refine .inl ⟨_, _, rfl, o2, by rw [← o3, q2], k1, ?_⟩
    rw [show (exp1 (keepA b a).1).length = (keepA b a).1.fN.toNat from rangeI_len _ _, q4]; omega
  · rw [if_neg (by rw [q1]; decide), q1, q3]
    exact .inr ⟨rfl, q2⟩
theorem awake7_eq : law07_awake = some true := by
  have hb : ([34, 97, 34] : List UInt8).length ≤ 1000000 := by decide
  have hs : sRow [34, 97, 34] 0 = ⟨[⟨⟨0, 3⟩, 1, [⟨1, 1⟩]⟩], 0⟩ := by decide
  have hc : canon [1] = [⟨1, 1⟩] := by decide
  have hin : InA [1] [34, 97, 34] := fun x hx => by simp at hx; subst hx; decide
  have hone := sOne_eq [34, 97, 34] hb 0 (by decide)
  rw [show (((0 : Nat)) : Int) = 0 from rfl] at hone
  have hl := Load_eq [1] ⟨0, 3⟩ 1 (inA_good hin hb) (by decide)
  rw [hc] at hl
  have hby : bytesAt [34, 97, 34] [1] = [97] := by decide
  have hraw : bytesA ⟨0, 3⟩ [34, 97, 34] = [34, 97, 34] := by decide
  have hput : put [97] = [97] := by decide
  unfold law07_awake
  rw [New_eq _ (by decide), bnd_some']
  dsimp only
  rw [hone, bnd_some', hs]
  dsimp only
  rw [if_pos (by decide), show idx [(⟨⟨0, 3⟩, 1, [⟨1, 1⟩]⟩ : scan_Field)] 0 = some ⟨⟨0, 3⟩, 1, [⟨1, 1⟩]⟩ from rfl, bnd_some', hl, bnd_some']
  dsimp only
  have hw : cell_Cell_Write ⟨tOf [1], ⟨0, 3⟩, true⟩ (tOf [1]) [34, 97, 34] = some (⟨tOf [1], ⟨0, 0⟩, false⟩, 0, [34, 97, 34]) := by
    unfold cell_Cell_Write
    rw [PLen_eq, bnd_some', if_neg (by decide), Tidy_few _ _ (by rw [hc]; decide), bnd_some', if_pos rfl]
    rfl
  rw [hw, bnd_some', if_pos rfl, PrintK_eq [1] ⟨0, 3⟩ _ hin (by decide) (by decide), bnd_some', hraw, if_pos rfl]
  dsimp only
  rw [if_pos rfl, PrintW_eq [1] ⟨0, 0⟩ _ hin (by decide) (by decide), bnd_some', hby, hput, if_pos rfl, CBytes_eq [1] ⟨0, 3⟩ true _ hin (by decide) (by decide), bnd_some', hby, if_pos rfl]
  have hsame : cell_Same ⟨tOf [1], ⟨0, 3⟩, true⟩ ⟨tOf [1], ⟨0, 0⟩, false⟩ [34, 97, 34] = some false := by
    unfold cell_Same
    rw [if_neg (by decide), bnd_some', if_pos rfl]
  rw [hsame]
  rfl
end Go.Proofs.Ytkjcogmngoogcaa.S
