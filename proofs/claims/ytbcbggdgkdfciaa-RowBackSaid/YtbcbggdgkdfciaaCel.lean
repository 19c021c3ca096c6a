/- Chapter 7's cells, told plainly. -/
import Derived.Test.YtbcbggdgkdfciaaG0
import Derived.Test.YtbcbggdgkdfciaaG1xa
import Derived.Test.YtbcbggdgkdfciaaG1xb
import Derived.Test.YtbcbggdgkdfciaaFla
import Derived.Test.YtbcbggdgkdfciaaQuoB
set_option linter.unusedVariables false
namespace Go.Proofs.Ytbcbggdgkdfciaa.S
open Go Go.Sm
theorem CBytes_eq (r : List Int) (raw : arena_Span) (k : Bool) (a : List UInt8) (hr : InA r a) (ha : a.length ≤ 16384) (hl : r.length ≤ 1000000) : cell_Cell_Bytes ⟨tOf r, raw, k⟩ a = some (bytesAt a r) := by
  unfold cell_Cell_Bytes
  rw [Flat_eq (tOf r) r a rfl hr (by omega) hl, bnd_some']
theorem Plain_eq (r : List Int) (raw : arena_Span) (k : Bool) (a : List UInt8) (hr : InA r a) (ha : a.length ≤ 16384) (hl : r.length ≤ 1000000) : law07_Plain ⟨tOf r, raw, k⟩ a = some ⟨bytesAt a r, if k = true then bytesA raw a else [], k⟩ := by
  unfold law07_Plain
  rw [CBytes_eq r raw k a hr ha hl, bnd_some']
  dsimp only
  cases k with
  | true => rw [if_pos rfl, if_pos rfl, Bytes_eq _ _ (by omega), bnd_some', bnd_some']
  | false => rw [if_neg (by simp), if_neg (by simp), bnd_some']
theorem Print_eq (r : List Int) (raw : arena_Span) (k : Bool) (a : List UInt8) (hr : InA r a) (ha : a.length ≤ 16384) (hl : r.length ≤ 100000) : cell_Cell_Print ⟨tOf r, raw, k⟩ a = some (if k = true then bytesA raw a else put (bytesAt a r)) := by
  unfold cell_Cell_Print
  have hb := bytesAt_len a r
  cases k with
  | true => rw [if_pos rfl, if_pos rfl, Bytes_eq _ _ (by omega), bnd_some']
  | false => rw [if_neg (by simp), if_neg (by simp), CBytes_eq r raw false a hr ha (by omega), bnd_some', put_eq _ (by omega), bnd_some']
theorem PlainK_eq (r : List Int) (raw : arena_Span) (a : List UInt8) (hr : InA r a) (ha : a.length ≤ 16384) (hl : r.length ≤ 1000000) : law07_Plain ⟨tOf r, raw, true⟩ a = some ⟨bytesAt a r, bytesA raw a, true⟩ := by
  rw [Plain_eq r raw true a hr ha hl, if_pos rfl]
theorem PlainW_eq (r : List Int) (raw : arena_Span) (a : List UInt8) (hr : InA r a) (ha : a.length ≤ 16384) (hl : r.length ≤ 1000000) : law07_Plain ⟨tOf r, raw, false⟩ a = some ⟨bytesAt a r, [], false⟩ := by
  rw [Plain_eq r raw false a hr ha hl, if_neg (by simp)]
theorem PrintK_eq (r : List Int) (raw : arena_Span) (a : List UInt8) (hr : InA r a) (ha : a.length ≤ 16384) (hl : r.length ≤ 100000) : cell_Cell_Print ⟨tOf r, raw, true⟩ a = some (bytesA raw a) := by
  rw [Print_eq r raw true a hr ha hl, if_pos rfl]
theorem PrintW_eq (r : List Int) (raw : arena_Span) (a : List UInt8) (hr : InA r a) (ha : a.length ≤ 16384) (hl : r.length ≤ 100000) : cell_Cell_Print ⟨tOf r, raw, false⟩ a = some (put (bytesAt a r)) := by
  rw [Print_eq r raw false a hr ha hl, if_neg (by simp)]
theorem Empty_eq (r : List Int) (raw : arena_Span) (k : Bool) : cell_Cell_Empty ⟨tOf r, raw, k⟩ = some ((r.length : Int) == 0) := rfl
theorem Load_eq (r : List Int) (raw : arena_Span) (k : Int) (hr : GoodP r) (hl : r.length ≤ 1000000) : cell_Load ⟨raw, k, canon r⟩ = some ⟨tOf r, raw, true⟩ := by
  unfold cell_Load
  rw [OfC_eq r hr hl, bnd_some']
theorem CPut_eq (b a : List UInt8) (ha : a.length ≤ 16384) (hb : b.length ≤ 400) :
    (∃ s a', cell_Put b a = some (⟨tOf (exp1 s), ⟨0, 0⟩, false⟩, 0, a') ∧ InA (exp1 s) a' ∧ bytesAt a' (exp1 s) = b ∧ a'.length ≤ 16384 ∧ (exp1 s).length = b.length) ∨
    (cell_Put b a = some (⟨⟨[], 0⟩, ⟨0, 0⟩, false⟩, 6, a) ∧ 16384 < b.length + a.length) := by
  unfold cell_Put
  rw [if_neg (by omega), Keep_eq b a ha (by omega), bnd_some']
  obtain ⟨k1, k2, k3⟩ := keepA_spec b a ha
  rcases k3 with ⟨q1, q2, q3, q4⟩ | ⟨q1, q2, q3⟩
  · obtain ⟨o1, o2, o3⟩ := Of1_eq _ _ q3 (by omega)
    rw [if_pos q1, o1, bnd_some']
    refine .inl ⟨_, _, rfl, o2, by rw [← o3, q2], k1, ?_⟩
    rw [show (exp1 (keepA b a).1).length = (keepA b a).1.fN.toNat from rangeI_len _ _, q4]; omega
  · rw [if_neg (by rw [q1]; decide), q1, q3]
    exact .inr ⟨rfl, q2⟩
end Go.Proofs.Ytbcbggdgkdfciaa.S
