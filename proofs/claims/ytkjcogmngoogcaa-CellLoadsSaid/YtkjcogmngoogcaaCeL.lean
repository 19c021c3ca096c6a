/- The law CellLoads. -/
import Derived.Test.YtkjcogmngoogcaaG23xa
import Derived.Test.YtkjcogmngoogcaaCel
set_option linter.unusedVariables false
namespace Go.Proofs.Ytkjcogmngoogcaa.S
open Go Go.Sm
theorem CellLoads_holds (a0 : List UInt8) (w0 : a0.length ≤ maxLen) : law07_CellLoads a0 = some true := by
  unfold law07_CellLoads
  rw [show ((600 : Int)) = ((600 : Nat) : Int) from rfl, cut7_eq, bnd_some']
  generalize hw : a0.take 600 = w
  have hwl : w.length ≤ 600 := by rw [← hw]; simp; omega
  have hb : w.length ≤ 1000000 := by omega
  rw [New_eq w (by omega), bnd_some']
  dsimp only
  rw [if_pos rfl, rAll_eq w hb, bnd_some', sAll_eq w hb, bnd_some', if_pos (by simp)]
  obtain ⟨rs1, rs2⟩ := rsF_spec w hb w.length 0 (by omega)
  have hrs1 : ∀ j ∈ rs w, j < w.length := rs1
  have hrs2 : (rs w).length ≤ w.length := rs2
  obtain ⟨t, t1, t2⟩ := loop_for (f := law07_CellLoads.l2 w (0, w) ((rs w).map (rRow w)) ((rs w).map (sRow w))) (σ := Unit) (fun k _ => k) (rs w) (fun _ _ => True) (fun t => match t with | .brk _ => True | .ret _ => False) (fun pre i suf _ hs _ => by
    have hpl : pre.length + 1 ≤ (rs w).length := by rw [hs]; simp
    have hi : i < w.length := hrs1 i (by rw [hs]; simp)
    have hidx : idx (rs w) (pre.length : Int) = some i := by rw [hs]; exact idx_at pre i suf
    obtain ⟨st1, st2⟩ := starts_spec w hb i (by omega)
    obtain ⟨q, q1, q2⟩ := loop_for (f := law07_CellLoads.l1 w (0, w) ((rs w).map (rRow w)) (pre.length : Int) (sRow w i)) (σ := Unit) (fun k _ => k) (fs w i).1 (fun _ _ => True) (fun t => match t with | .brk _ => True | .ret _ => False) (fun pre2 p suf2 _ hs2 _ => by
      have hpl2 : pre2.length + 1 ≤ (fs w i).1.length := by rw [hs2]; simp
      have hp : p ≤ w.length := st1 p (by rw [hs2]; simp)
      have hidx2 : idx (fs w i).1 (pre2.length : Int) = some p := by rw [hs2]; exact idx_at pre2 p suf2
      obtain ⟨f1, f2, f3, f4, f5⟩ := fieldF_spec w hb p hp
      have hin : InA (fieldF w p).2.1 w := f4
      have hraw : bytesA ⟨(p : Int), (((fieldF w p).2.2 - p : Nat) : Int)⟩ w = (w.take (fieldF w p).2.2).drop p := by
        have hr : rightA ⟨(p : Int), (((fieldF w p).2.2 - p : Nat) : Int)⟩ w = true := by unfold rightA; simp only [decide_eq_true_eq]; omega
        unfold bytesA
        rw [if_pos hr]
        dsimp only
        rw [show ((p : Int) + (((fieldF w p).2.2 - p : Nat) : Int)).toNat = (fieldF w p).2.2 by omega, Int.toNat_natCast]
      have hcut : cut w (p : Int) (w64 ((p : Int) + (((fieldF w p).2.2 - p : Nat) : Int))) = some ((w.take (fieldF w p).2.2).drop p) := by
        rw [w64_id ⟨by omega, by omega⟩, cut_of ⟨by omega, by omega, by omega⟩]
        rw [show ((p : Int) + (((fieldF w p).2.2 - p : Nat) : Int)).toNat = (fieldF w p).2.2 by omega, Int.toNat_natCast]
      have hl := Load_eq (fieldF w p).2.1 ⟨(p : Int), (((fieldF w p).2.2 - p : Nat) : Int)⟩ (fieldF w p).1 (inA_good hin hb) (by omega)
      refine .inl ⟨(), ?_, trivial⟩
      unfold law07_CellLoads.l1
      rw [show (sRow w i).fFields = (fs w i).1.map (sField w) from rfl, if_pos (by simp; omega), idx_map, hidx2]
      simp only [Option.map_some, bnd_some']
      rw [idx_map, hidx]
      simp only [Option.map_some, bnd_some']
      rw [show (rRow w i).fFields = (fs w i).1.map (rField w) from rfl, idx_map, hidx2]
      simp only [Option.map_some, bnd_some']
      rw [show (rField w p).fRaw = ⟨(p : Int), (((fieldF w p).2.2 - p : Nat) : Int)⟩ from rfl, show (rField w p).fBytes = (fieldF w p).2.1 from rfl]
      dsimp only
      rw [hcut, bnd_some', show sField w p = ⟨⟨(p : Int), (((fieldF w p).2.2 - p : Nat) : Int)⟩, (fieldF w p).1, canon (fieldF w p).2.1⟩ from rfl, hl, bnd_some', PlainK_eq _ _ _ hin (by omega) (by omega), bnd_some', text_eq w hb _ f4 (by omega), bnd_some', hraw, if_pos rfl, PrintK_eq _ _ _ hin (by omega) (by omega), bnd_some', hraw, if_pos rfl, Empty_eq, bnd_some', beq_self_eq_true, bnd_some', if_neg (by simp), w64_id ⟨by omega, by omega⟩]) (fun _ _ => by
      refine ⟨Ex.brk (), ?_, trivial⟩
      unfold law07_CellLoads.l1
      rw [show (sRow w i).fFields = (fs w i).1.map (sField w) from rfl, if_neg (by simp)]) (s0 := ()) trivial
    unfold law07_CellLoads.l2
    rw [if_pos (by simp; omega), idx_map, hidx]
    simp only [Option.map_some, bnd_some']
    rw [idx_map, hidx]
    simp only [Option.map_some, bnd_some']
    rw [if_pos (by simp [sRow, rRow]), q1, bnd_some']
    cases q with
    | ret v => exact q2.elim
    | brk u =>
      dsimp only
      rw [w64_id ⟨by omega, by omega⟩]
      exact .inl ⟨(), rfl, trivial⟩) (fun _ _ => by
    refine ⟨Ex.brk (), ?_, trivial⟩
    unfold law07_CellLoads.l2
    rw [if_neg (by simp)]) (s0 := ()) trivial
  rw [t1, bnd_some']
  cases t with
  | ret v => exact t2.elim
  | brk u => dsimp only; rw [awake7_eq, bnd_some']
end Go.Proofs.Ytkjcogmngoogcaa.S
