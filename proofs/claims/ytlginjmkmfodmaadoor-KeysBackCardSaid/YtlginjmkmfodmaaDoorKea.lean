/- Keys as texts, told plainly: what a key's text is, and which key a text begins with. -/
import Derived.Test.YtlginjmkmfodmaaDoorG0
import Derived.Test.YtlginjmkmfodmaaDoorG1xa
import Derived.Test.YtlginjmkmfodmaaDoorG2xa
import Derived.Test.YtlginjmkmfodmaaDoorG3xa
import Derived.Test.YtlginjmkmfodmaaDoorUty
set_option linter.unusedVariables false
namespace Go.Proofs.YtlginjmkmfodmaaDoor.S
open Go Go.Sm
def types (k : Int) : Bool := decide (32 ≤ k ∧ k ≠ 127) && scalar k
def isK (k : Int) : Bool := decide (-6 ≤ k ∧ k ≤ 27 ∧ k ≠ 0) || decide (k = 127) || types k
def keyT (k : Int) : List UInt8 :=
  match tab_keys_names.find? (fun x => decide (x.fKey = k)) with
  | some x => 60 :: (x.fText ++ [62])
  | none => if 1 ≤ k ∧ k ≤ 26 then [60, 67, 45, UInt8.ofNat (96 + k).toNat, 62] else if types k = true then putB k else []
theorem putB_len {k : Int} : 0 < (putB k).length ↔ scalar k = true := by
  constructor
  · intro h
    cases hs : scalar k with
    | true => rfl
    | false => rw [putB_nil hs] at h; simp at h
  · intro h
    have := (dec_put h []).2.1
    omega
theorem Types_eqK (k : Int) : keys_Types k = some (types k) := by
  unfold keys_Types types
  by_cases h1 : 32 ≤ k
  · rw [if_pos h1]
    by_cases h2 : k = 127
    · rw [if_pos h2, bnd_some', decide_eq_false (by omega)]; rfl
    · have e : decide (32 ≤ k ∧ k ≠ 127) = true := decide_eq_true ⟨h1, h2⟩
      rw [if_neg h2, Put_eqU, bnd_some', bnd_some', e, Bool.true_and]
      cases hs : scalar k with
      | true => rw [decide_eq_true (by have := putB_len.2 hs; omega)]
      | false => rw [decide_eq_false (fun h => by have := putB_len.1 (by omega : 0 < (putB k).length); rw [hs] at this; cases this)]
  · rw [if_neg h1, bnd_some', decide_eq_false (by omega)]; rfl
theorem refTypes_eqK (k : Int) : ref22_Types k = some (types k) := by
  unfold ref22_Types types
  by_cases h1 : 32 ≤ k
  · rw [if_pos h1]
    by_cases h2 : k = 127
    · rw [if_pos h2, bnd_some', decide_eq_false (by omega)]; rfl
    · rw [if_neg h2, refPut_eqU, bnd_some', bnd_some', decide_eq_true ⟨h1, h2⟩, Bool.true_and]
      cases hs : scalar k with
      | true =>
        have := putB_len.2 hs
        cases hp : putB k with
        | nil => rw [hp] at this; simp at this
        | cons a l => rfl
      | false => rw [putB_nil hs]; rfl
  · rw [if_neg h1, bnd_some', decide_eq_false (by omega)]; rfl
theorem Is_eqK (k : Int) : keys_Is k = some (isK k) := by
  unfold keys_Is isK
  by_cases h0 : -6 ≤ k ∧ k ≤ 27 ∧ k ≠ 0
  · rw [decide_eq_true h0, Bool.true_or, Bool.true_or]
    by_cases h1 : k ≥ -6 ∧ k ≤ -1
    · rw [if_pos h1.1, decide_eq_true h1.2, bnd_some', if_pos rfl, bnd_some', if_pos rfl]
    · have e : (if k ≥ -6 then some (decide (k ≤ -1)) else some false) = some false := by
        rw [if_pos h0.1, decide_eq_false (by omega)]
      rw [e, bnd_some', if_neg (by decide), if_pos (by omega), bnd_some']
      by_cases h2 : k ≤ 26
      · rw [decide_eq_true h2, if_pos rfl]
      · rw [decide_eq_false h2, if_neg (by decide), if_pos (by omega), bnd_some']
  · have e1 : (if k ≥ -6 then some (decide (k ≤ -1)) else some false) = some false := by
      split
      · rw [decide_eq_false (by omega)]
      · rfl
    have e2 : (if k ≥ 1 then some (decide (k ≤ 26)) else some false) = some false := by
      split
      · rw [decide_eq_false (by omega)]
      · rfl
    rw [decide_eq_false h0, e1, bnd_some', if_neg (by decide), e2, bnd_some', if_neg (by decide), if_neg (by omega), Types_eqK]
    by_cases h3 : k = 127
    · rw [if_pos h3, bnd_some', decide_eq_true h3]; rfl
    · rw [if_neg h3, bnd_some', bnd_some', decide_eq_false h3]; rfl
theorem refIs_eqK (k : Int) : ref22_Is k = some (isK k) := by
  unfold ref22_Is isK
  rw [refTypes_eqK]
  by_cases h1 : k ≥ -6
  · rw [if_pos h1]
    by_cases h2 : k ≤ 27
    · rw [if_pos h2]
      by_cases h3 : k = 0
      · subst h3; rfl
      · rw [if_neg h3, bnd_some', decide_eq_true ⟨h1, h2, h3⟩]; rfl
    · rw [if_neg h2, decide_eq_false (by omega : ¬ (-6 ≤ k ∧ k ≤ 27 ∧ k ≠ 0))]
      by_cases h3 : k = 127
      · rw [if_pos h3, bnd_some', decide_eq_true h3]; rfl
      · rw [if_neg h3, decide_eq_false h3]; rfl
  · rw [if_neg h1, decide_eq_false (by omega : ¬ (-6 ≤ k ∧ k ≤ 27 ∧ k ≠ 0)), if_neg (by omega), decide_eq_false (by omega : ¬ k = 127)]; rfl
theorem catS_of {l m : List UInt8} (h : l.length + m.length ≤ 9223372036854775807) : catS l m = some (l ++ m) := if_pos h
/-! ### texts -/
theorem tab_bd : ∀ x ∈ tab_keys_names, -6 ≤ x.fKey ∧ x.fKey ≤ 127 ∧ x.fText.length ≤ 5 := by decide
theorem find_out {k : Int} (h : k < -6 ∨ 127 < k) : tab_keys_names.find? (fun x => decide (x.fKey = k)) = none := by
  rw [List.find?_eq_none]
  intro x hx
  have := tab_bd x hx
  rw [decide_eq_false (by omega)]; decide
theorem keyT_out {k : Int} (h : k < -6 ∨ 127 < k) : keyT k = if types k = true then putB k else [] := by
  unfold keyT
  rw [find_out h]
  show (if _ then _ else _) = _
  rw [if_neg (by omega)]
theorem namesOut {k : Int} (h : k < -6 ∨ 127 < k) : loop (keys_Text.l1 k) 0 = some (.brk ()) := by
  obtain ⟨t, h1, h2⟩ := loop_for (f := keys_Text.l1 k) (σ := Unit) (fun i _ => i) tab_keys_names (fun _ _ => True) (· = (.brk () : Ex Unit (List UInt8)))
    (fun pre x suf s hl _ => by
      refine .inl ⟨(), ?_, trivial⟩
      have hx : x ∈ tab_keys_names := by rw [hl]; simp
      have hb := tab_bd x hx
      have hn : pre.length < 12 := by
        have : tab_keys_names.length = 12 := rfl
        rw [hl] at this; simp at this; omega
      unfold keys_Text.l1
      rw [if_pos (by omega), hl, idx_at, bnd_some', if_neg (by omega), w64_id ⟨by omega, by omega⟩])
    (fun s _ => ⟨_, by unfold keys_Text.l1; rw [if_neg (by decide)], rfl⟩) (s0 := ()) trivial
  rw [h1, h2]
theorem Text_in : ∀ n : Nat, n < 134 → keys_Text ((n : Int) - 6) = some (keyT ((n : Int) - 6)) := by decide +kernel
theorem refText_in : ∀ n : Nat, n < 134 → ref22_Text ((n : Int) - 6) = some (keyT ((n : Int) - 6)) := by decide +kernel
theorem Text_eqK (k : Int) : keys_Text k = some (keyT k) := by
  by_cases h : -6 ≤ k ∧ k ≤ 127
  · have := Text_in (k + 6).toNat (by omega)
    rwa [show (((k + 6).toNat : Int) - 6) = k by omega] at this
  · have h' : k < -6 ∨ 127 < k := by omega
    unfold keys_Text
    have e2 : (if k ≥ 1 then some (decide (k ≤ 26)) else some false) = some false := by
      split
      · rw [decide_eq_false (by omega)]
      · rfl
    rw [namesOut h', bnd_some']
    dsimp only
    rw [e2, bnd_some', if_neg (by decide), Types_eqK, bnd_some', Put_eqU, keyT_out h']
    by_cases ht : types k = true
    · rw [if_pos ht, if_pos ht, bnd_some']
    · rw [if_neg ht, if_neg ht]
theorem refText_eqK (k : Int) : ref22_Text k = some (keyT k) := by
  by_cases h : -6 ≤ k ∧ k ≤ 127
  · have := refText_in (k + 6).toNat (by omega)
    rwa [show (((k + 6).toNat : Int) - 6) = k by omega] at this
  · have h' : k < -6 ∨ 127 < k := by omega
    unfold ref22_Text
    rw [refIs_eqK, bnd_some', keyT_out h']
    have hi : isK k = types k := by
      unfold isK
      rw [decide_eq_false (by omega), decide_eq_false (by omega)]; simp
    rw [hi]
    by_cases ht : types k = true
    · have h32 : 32 ≤ k := by
        unfold types at ht
        simp at ht; omega
      rw [if_pos ht, if_pos ht, if_neg (by omega), if_neg (by omega), if_neg (by omega), if_neg (by omega), if_neg (by omega), if_neg (by omega), if_neg (by omega), if_neg (by omega), refPut_eqU, bnd_some']
    · rw [if_neg ht, if_neg ht]
theorem Ctrl_eqK (c : UInt8) : keys_Ctrl c = ref22_Ctrl c := by
  have : ∀ n : Nat, n < 256 → keys_Ctrl (UInt8.ofNat n) = ref22_Ctrl (UInt8.ofNat n) := by decide +kernel
  have h := this c.toNat c.toNat_lt
  rwa [UInt8.ofNat_toNat] at h
theorem refCtrl_some (c : UInt8) : (ref22_Ctrl c).isSome = true := by
  have : ∀ n : Nat, n < 256 → (ref22_Ctrl (UInt8.ofNat n)).isSome = true := by decide +kernel
  have h := this c.toNat c.toNat_lt
  rwa [UInt8.ofNat_toNat] at h
theorem awake22 : law22_awake = some true := by decide +kernel
end Go.Proofs.YtlginjmkmfodmaaDoor.S
