/- What the row's condition tells: the table of names lies where the code looks for it. -/
import Derived.Test.YtlginjmkmfodmaaDoorG0
import Derived.Test.YtlginjmkmfodmaaDoorRows
import Derived.Test.YtlginjmkmfodmaaDoorSG
import Derived.Test.YtlginjmkmfodmaaDoorG0
import Derived.LaidMore
import Derived.MakeChecks
import Derived.OpenShut
set_option linter.unusedVariables false
namespace Go.Proofs.YtlginjmkmfodmaaDoor.S
open Go Go.Sm
theorem gNames : Tryd.prog.globalNamed "damier/keys.names" = some 0 := by kernel_rfl
theorem tNames : (Tryd.prog.globals[0]?).map (·.type) = some 52 := by kernel_rfl
def laidL : List (String × DataW Unit) := [("damier/keys.names", Rows.laid_damier_keys_names)]
def nameD (H : Type) (x : keys_name) : DataW H := .agg [.lit (.int .i64 x.fKey), .lit (.string x.fText)]
theorem laid_eq {H : Type} : (Rows.laid_damier_keys_names : DataW H) = .agg (tab_keys_names.map (nameD H)) := rfl
theorem name_cells {H : Type} {enc : TypeId × Value → H} {w : World} {sp : Nat → Bool} {held : Bool} {n : Nat} {cs : List Value} {x : DataW H × List MemPlace} {y : keys_name} (h : DataW.trod enc Tryd.prog w 0 sp held n 51 cs = some x) (hx : x.1 = nameD H y) :
    cs = [.int .i64 y.fKey, .string (bs y.fText)] := by
  obtain ⟨xs, m, rfl, rfl, hl, hn, hf⟩ := DataW.trod_struct Tryd.underlying51 h
  have c51 : Tryd.prog.cellsOf 51 = 2 := by kernel_rfl
  have c3 : Tryd.prog.cellsOf 3 = 1 := by kernel_rfl
  have c9 : Tryd.prog.cellsOf 9 = 1 := by kernel_rfl
  rw [c51] at hl
  match cs, hl with
  | [u, v], _ =>
    match xs, hn, hx with
    | [p, q], _, hx =>
      have h0 : DataW.trod enc Tryd.prog w 0 sp held m 3 (([u, v].drop 0).take (Tryd.prog.cellsOf 3)) = some p := hf 0 _ rfl
      have h1 : DataW.trod enc Tryd.prog w 0 sp held m 9 (([u, v].drop 1).take (Tryd.prog.cellsOf 9)) = some q := hf 1 _ rfl
      rw [c3] at h0; rw [c9] at h1
      obtain ⟨a, e1, e2, _⟩ := DataW.trod_int Tryd.underlying3 h0
      obtain ⟨s, e3, e4, _⟩ := DataW.trod_string Tryd.underlying9 h1
      subst e2 e4
      simp only [nameD, List.map_cons, List.map_nil, DataW.agg.injEq, List.cons.injEq, DataW.lit.injEq, Lit.int.injEq, Lit.string.injEq, true_and, and_true] at hx
      have e1' : [u] = [Value.int .i64 a] := by simpa using e1
      have e3' : [v] = [Value.string s] := by simpa using e3
      injection e1' with e1' _
      injection e3' with e3' _
      subst e1' e3'
      rw [← hx.1, ← hx.2, bs_data]
theorem arr_oe {w : World} {cs : List Value} : ∀ (L : List keys_name) (o : Nat), cs.length ≤ o + 2 * L.length → (∀ i x, L[i]? = some x → (cs.drop (o + i * 2)).take 2 = [.int .i64 x.fKey, .string (bs x.fText)]) → OE w ((L.map e_keys_name).flatMap Dat.cells) (cs.drop o)
  | [], o, hl, _ => by simpa using OE.nil0 (cs := cs) (o := o) (by simpa using hl)
  | x :: L, o, hl, h => by
    have ih := arr_oe (w := w) (cs := cs) L (o + 2) (by simp at hl; omega) (fun i y hy => by
      have := h (i + 1) y (by simpa using hy)
      rwa [show o + (i + 1) * 2 = o + 2 + i * 2 by omega] at this)
    have h0 := h 0 x rfl
    rw [Nat.zero_mul, Nat.add_zero] at h0
    rw [List.map_cons, List.flatMap_cons]
    refine OE.chain (z := 2) ?_ rfl ih
    rw [h0]
    exact ⟨.cons (.val rfl) (.cons (.val rfl) .nil), by simp [Go.Sm.one]⟩
theorem tabsOk {W : World} (h : laidMetH Tryd.prog laidL W) : ∀ t d, lk tabs t = some d → Enc W (OkW W) d (.pointer (some ⟨t, 0, none⟩)) := by
  rw [MakeChecks.laidMetH_plain _ _ _ (by kernel_rfl)] at h
  obtain ⟨ps, ⟨g0, t0, cs0, f0, p0, q0, hg0, ht0, hv0, hd0, _, _⟩, _, _⟩ := h
  obtain rfl := Option.some.inj (gNames.symm.trans hg0)
  obtain rfl := Option.some.inj (tNames.symm.trans ht0)
  have cA : Tryd.prog.cellsOf 52 = 24 := by kernel_rfl
  have cE : Tryd.prog.cellsOf 51 = 2 := by kernel_rfl
  obtain ⟨xs, m, rfl, hx, hl, hn, he⟩ := DataW.trod_array Tryd.underlying52 hd0
  rw [cA] at hl
  simp only [cE] at he
  have hx1 : (Rows.laid_damier_keys_names : DataW Unit) = .agg (xs.map (·.1)) := congrArg Prod.fst hx
  rw [laid_eq] at hx1
  have hxs : tab_keys_names.map (nameD Unit) = xs.map (·.1) := by injection hx1
  have oe := arr_oe (w := W) (cs := cs0.toList) tab_keys_names 0 (by rw [hl]; decide) (fun i x hi => by
    have hi' : i < 12 := (List.getElem?_eq_some_iff.1 hi).1
    have hlt : i < xs.length := by omega
    have e := he i hi'
    rw [List.getElem?_eq_getElem hlt] at e
    have e2 : xs[i].1 = nameD Unit x := by
      have : (xs.map (·.1))[i]? = some (nameD Unit x) := by rw [← hxs, List.getElem?_map, hi]; rfl
      rw [List.getElem?_map, List.getElem?_eq_getElem hlt] at this
      exact Option.some.inj this
    rw [Nat.zero_add]
    exact name_cells e e2)
  rw [List.drop_zero] at oe
  intro t d ht
  have key : ∀ t d, lk tabs t = some d → t = 0 ∧ d = .nod ((tab_keys_names.map e_keys_name).flatMap Dat.cells) := by
    intro t d ht
    unfold tabs at ht
    rw [lk_cons] at ht
    split at ht
    · rename_i e
      exact ⟨e.symm, (Option.some.inj ht).symm⟩
    · cases ht
  obtain ⟨rfl, rfl⟩ := key t d ht
  refine .nod (encC_of oe fun j v hj => ?_)
  have := World.var?_cell hg0 hv0 j
  rw [show (⟨0, 0, none⟩ : Addr).add j = ⟨0, j, none⟩ by rw [addr_add, Nat.zero_add], this]
  simpa using hj
theorem glOkL {W : World} (h : laidMetH Tryd.prog laidL W) : GlOk W (OkW W) := ⟨fun g hg => (by cases hg), tabsOk h⟩
theorem door_met (os : Os) (args : Array Value) : laidMetH Tryd.prog laidL ((World.doorLaid Tryd.prog 400 os).forCall (fun _ _ => 0) ⟨#[], args, []⟩).memory :=
  laidMetH_of_parts3 (fuel := 8) (laidMet_of_run' 8 (by kernel_rfl) (by kernel_rfl)) (by kernel_rfl) (by kernel_rfl)
end Go.Proofs.YtlginjmkmfodmaaDoor.S
