/- A small program logic over the kit's wp. Part 9: calls of one answer; numbers. -/
import Derived.Test.YtbogkjbjgcclnaaAm8
namespace Go.Am
section
variable {X : Prg} {ops : Array Oper} {rest : List Oper} {op : Op} {ty : TypeId} {pos : String} {after : Array Edge} {t : Nat} {d : Dat} {sl : List (Nat × Dat)} {bx : List Box} {n : Nat} {Q : Exit → St → Prop}
/-- A call without boxes, of one answer. -/
def CallE (X : Prg) (f : FuncId) (ds : List Dat) (r : Dat) : Prop := CallT X f ds [] fun r' _ => r' = r
theorem CallE.mk {f : FuncId} {fn : Func} {c : Code} {args : List Dat} {r : Dat} (hf : X.P.funcs[f]? = some fn) (hb : fn.body = some c) {rs : List ResultVar} (hrs : fn.results = rs.toArray) {m : Nat} (hn : fn.ntmps = m)
    (ha : Nat.ble args.length m = true) {sl : List (Nat × Dat)} (hsl : idxK 0 args [] = some sl) (h : T X c ⟨sl, [], m⟩ (Post X rs fun r' _ => r' = r)) : CallE X f args r := CallT.mk hf hb hrs hn ha hsl h
theorem TL.callE {f : FuncId} {as : Array Operand} {ats : Array TypeId} {ds : List Dat} {r : Dat} (hf : IsFn X f) (hc : CallE X f ds r) (ha : evs sl as.toList = some ds) (hcl : cloL ds = true) (hcr : clo r = true) (ht : Nat.blt t n = true) (hk : TL X ops rest ⟨(t, r) :: sl, bx, n⟩ Q) :
    TL X ops ({ dst := some t, op := .call { callee := .value (.func f), args := as, argTypes := ats }, type := ty, pos := pos, after := after, guard := none } :: rest) ⟨sl, bx, n⟩ Q :=
  TL.call hf hc ha hcl ht (fun r' _ h => by subst h; exact ⟨hcr, hk⟩)
end
theorem wrapI {n : Int} (h : -9223372036854775808 ≤ n ∧ n ≤ 9223372036854775807) : IntKind.i64.wrap n = n := by
  unfold IntKind.wrap
  simp only [IntKind.bits, IntKind.signed, Bool.true_and, decide_eq_true_eq, ge_iff_le]
  split <;> omega
theorem T.retE {X : Prg} {rs : List ResultVar} {r : Dat} {S : St} {ds : List Dat} (h : resL (lkT X.tab) S rs = some ds) (hq : pack ds = r) : Post X rs (fun r' _ => r' = r) .ret S := ⟨ds, h, hq⟩
end Go.Am
