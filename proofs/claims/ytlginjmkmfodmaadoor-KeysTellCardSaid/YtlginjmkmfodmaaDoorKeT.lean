/- The law KeysTell. -/
import Derived.Test.YtlginjmkmfodmaaDoorG2xa
import Derived.Test.YtlginjmkmfodmaaDoorKea
set_option linter.unusedVariables false
namespace Go.Proofs.YtlginjmkmfodmaaDoor.S
open Go Go.Sm
theorem KeysTell_holds (a0 : Int) (a1 : UInt8) (w0 : (Lit.int .i64 a0).wf = true) (w1 : True) : law22_KeysTell a0 a1 = some true := by
  unfold law22_KeysTell
  obtain ⟨c, hc⟩ := Option.isSome_iff_exists.1 (refCtrl_some a1)
  rw [Is_eqK, bnd_some', refIs_eqK, bnd_some', if_pos (by simp), Types_eqK, bnd_some', refTypes_eqK, bnd_some', if_pos (by simp), Text_eqK, bnd_some', refText_eqK, bnd_some', if_pos rfl, Ctrl_eqK, hc, bnd_some', bnd_some', if_pos rfl, awake22]
  rfl
end Go.Proofs.YtlginjmkmfodmaaDoor.S
