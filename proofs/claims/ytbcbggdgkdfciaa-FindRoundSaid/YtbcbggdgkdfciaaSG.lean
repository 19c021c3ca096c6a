import Derived.Test.YtbcbggdgkdfciaaSTab
import Derived.Test.YtbcbggdgkdfciaaSC
import Derived.Shelf.Vars
import Derived.Deep.Draws
set_option linter.unusedVariables false
namespace Go.Proofs.Ytbcbggdgkdfciaa.S
open Go Go.Sm
theorem glOk {W : World} (h : W.ShapedOpen Try.prog) : GlOk W (OkW W) := fun g hg => by
  have key : ∃ m, W.cell? ⟨g, 0, none⟩ = some (.int .i64 m) := by
    first
    | (cases hg; done)
    | (obtain rfl := List.mem_singleton.1 hg
       exact Go.Proofs.cell_of_shapedOpen_int (zero := #[.int .i64 0]) (t := 3) h (of_decide_eq_true (by kernel_rfl)) (by kernel_rfl) rfl (by kernel_rfl) (by kernel_rfl) Try.underlying3)
  obtain ⟨m, hm⟩ := key
  refine ⟨?_, m, hm⟩
  show g < W.heap.size
  unfold World.cell? at hm
  by_cases hlt : g < W.heap.size
  · exact hlt
  · rw [show W.heap[(⟨g, 0, none⟩ : Addr).block]? = none from Array.getElem?_eq_none (by show W.heap.size ≤ g; omega)] at hm
    cases hm
end Go.Proofs.Ytbcbggdgkdfciaa.S
namespace Go.Sm
section
variable {X : Prg} {sl : List (Nat × Dat)} {ow : List Own} {w : World} {ok : Nat → Prop}
theorem OpS.same {l : List Oper} {base : List (Nat × Dat)} {valsE : (Nat → Value) → List Dat} {OW : (Nat → Bool) → (Nat → Value) → List Own} {pre : List Nat} {i : Nat} {o : Oper} {D : Nat → Bool} {env : Nat → Value} {d : Dat} (hw : Want l (knS l (valsE env) base o) o true)
    (hd : ∀ x, ((valsE (upd env i x))[i]?).getD .dead = d) (e1 : ∀ x, OW (ins i D) (upd env i x) = OW D env) (h : OpR X o.op (knS l (valsE env) base o) (OW D env) (fun _ => d) (fun _ => OW D env)) : OpS X l valsE OW base pre i o true D env := OpS.yes hw rfl e1 hd h
theorem oS {l : List Oper} {base : List (Nat × Dat)} {valsE : (Nat → Value) → List Dat} {OW : (Nat → Bool) → (Nat → Value) → List Own} {pre : List Nat} {i : Nat} {o : Oper} {os : List Oper} {d : Dat} (hw : ∀ env, Want l (knS l (valsE env) base o) o true) (hd : ∀ env, ((valsE env)[i]?).getD .dead = d)
    (e1 : ∀ D env x, OW (ins i D) (upd env i x) = OW D env) (h : ∀ D env, OpR X o.op (knS l (valsE env) base o) (OW D env) (fun _ => d) (fun _ => OW D env)) (hs : ∀ D, At l pre i D → Same valsE D i) (hr : OpsS X l valsE OW base pre (i + 1) os) : OpsS X l valsE OW base pre i (o :: os) :=
  OpsS.cons' true (fun D env _ => OpS.same (hw env) (fun x => hd (upd env i x)) (e1 D env) (h D env)) hs hr
theorem ReS.refl {R : Dat → Dat → Prop} : ∀ sl : List (Nat × Dat), ReS R sl sl
  | [] => .nil
  | (_, _) :: l => .cons .refl (ReS.refl l)
end
end Go.Sm
