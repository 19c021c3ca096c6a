/- A small program logic over the kit's wp. Part 15: whether two bools are the same; tests that hold. -/
import Derived.Test.YtbogkjbjgcclnaaAmE
namespace Go.Am
open Go.RowKit
section
variable {X : Prg} {ops : Array Oper} {rest : List Oper} {ty : TypeId} {pos : String} {after : Array Edge} {t : Nat} {sl : List (Nat × Dat)} {bx : List Box} {n : Nat} {Q : Exit → St → Prop}
theorem run_equalIn_bool {P : Program} (d : Nat) {t : TypeId} (h : P.underlying t = some .bool) (p q : Bool) (w : World) : (Op.equalIn (d + 1) t (.bool p) (.bool q)).run P w = .ok (p == q) w := by
  simp [Op.equalIn, underlying, program, Sem.run, h]
theorem run_equal_bool {P : Program} {t : TypeId} (h : P.underlying t = some .bool) (p q : Bool) (w : World) : (Op.equal t (.bool p) (.bool q)).run P w = .ok (p == q) w := run_equalIn_bool 9999 h p q w
theorem TL.eqBool {bt yt : TypeId} {x y : Operand} {i : TI} {p q : Bool} (hi : lkT X.tab bt = some i) (hd : i.desc = .bool) (hx : ev sl x = some (.val (.bool p))) (hy : ev sl y = some (.val (.bool q)))
    (ht : Nat.blt t n = true) (hk : TL X ops rest ⟨(t, .val (.bool (p == q))) :: sl, bx, n⟩ Q) :
    TL X ops ({ dst := some t, op := .binOp .eql bt x y yt, type := ty, pos := pos, after := after, guard := none } :: rest) ⟨sl, bx, n⟩ Q :=
  TL.run (d := .val (.bool (p == q))) (fun a w β ok kn dst ty pos after g => by
    have ex := (kn x _ hx).val_inv.1
    have ey := (kn y _ hy).val_inv.1
    have u1 := (X.tok _ _ hi).desc
    rw [hd] at u1
    refine ⟨.bool (p == q), ?_, .closed (.val rfl)⟩
    have hb : (binOp .eql bt (.bool p) (.bool q)).run X.P w = .ok (.bool (p == q)) w := by
      simp [binOp, run_equal_bool u1 p q w]
    simp [execOp, eqGuard, ex, ey, hb]) ht hk
theorem TL.eqBoolT {bt yt : TypeId} {x y : Operand} {i : TI} {p : Bool} (hi : lkT X.tab bt = some i) (hd : i.desc = .bool) (hx : ev sl x = some (.val (.bool p))) (hy : ev sl y = some (.val (.bool p)))
    (ht : Nat.blt t n = true) (hk : TL X ops rest ⟨(t, .val (.bool true)) :: sl, bx, n⟩ Q) :
    TL X ops ({ dst := some t, op := .binOp .eql bt x y yt, type := ty, pos := pos, after := after, guard := none } :: rest) ⟨sl, bx, n⟩ Q :=
  TL.eqBool hi hd hx hy ht (by rw [beq_self_eq_true]; exact hk)
end
theorem neF {a b : Int} (h : a = b) : Dat.val (.bool (a != b)) = .val (.bool false) := by subst h; simp
theorem eqT {b : Bool} : Dat.val (.bool (b == b)) = .val (.bool true) := by cases b <;> rfl
end Go.Am
