/- Chapter 4's texts, told plainly: what is put in. -/
import Derived.Test.YtbcbggdgkdfciaaG3xa
import Derived.Test.YtbcbggdgkdfciaaPie1
set_option linter.unusedVariables false
namespace Go.Proofs.Ytbcbggdgkdfciaa.S
open Go Go.Sm
theorem Insert_eq (r q : List Int) (hr : GoodP r) (hq : GoodP q) (hl : r.length + q.length ≤ 1000000) (i : Int) : piece_Text_Insert (tOf r) i (tOf q) = some (tOf (r.take (pl r.length i) ++ q ++ r.drop (pl r.length i))) := by
  unfold piece_Text_Insert
  rw [Slice_eq r hr (by omega), bnd_some', Slice_eq r hr (by omega), bnd_some']
  have e0 : pl r.length 0 = 0 := by simp [pl]
  have e3 : pl r.length (tOf r).fN = r.length := by simp [pl, tOf]
  have h1 : pl r.length i ≤ r.length := Nat.min_le_right _ _
  rw [e0, e3, List.drop_zero, List.take_length]
  have := Concat_eq [r.take (pl r.length i), q, r.drop (pl r.length i)] (by
    intro q' hq'
    simp at hq'
    rcases hq' with rfl | rfl | rfl
    · exact fun x hx => hr x (List.mem_of_mem_take hx)
    · exact hq
    · exact fun x hx => hr x (List.mem_of_mem_drop hx)) (by simp; omega) (by simp)
  simp only [List.map_cons, List.map_nil] at this
  rw [this, bnd_some']
  simp
end Go.Proofs.Ytbcbggdgkdfciaa.S
