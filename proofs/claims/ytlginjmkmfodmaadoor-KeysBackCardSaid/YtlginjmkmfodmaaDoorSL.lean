/- A program logic by ownership over the kit's wp. Part L: data read back as what they are of (so that nodes can be opened by reduction). -/
import Derived.Test.YtlginjmkmfodmaaDoorSK
set_option linter.unusedVariables false
namespace Go.Sm
def dI (k : IntKind) : Dat → Option Int
  | .val (.int k' x) => if k' = k then some x else none
  | _ => none
theorem dI_eq {k : IntKind} {d : Dat} {x : Int} (h : dI k d = some x) : d = .val (.int k x) := by
  unfold dI at h
  split at h
  · split at h
    · rename_i e; cases h; subst e; rfl
    · cases h
  · cases h
theorem dI_e {k : IntKind} (x : Int) : dI k (eI k x) = some x := by simp [dI, eI]
def dU : Dat → Option UInt8
  | .val (.int .u8 x) => if ((UInt8.ofNat x.toNat).toNat : Int) = x then some (UInt8.ofNat x.toNat) else none
  | _ => none
theorem dU_eq {d : Dat} {x : UInt8} (h : dU d = some x) : d = byteD x := by
  unfold dU at h
  split at h
  · split at h
    · rename_i e; cases h; unfold byteD; rw [e]
    · cases h
  · cases h
theorem dU_e (x : UInt8) : dU (byteD x) = some x := by simp [dU, byteD]
def dB : Dat → Option Bool
  | .val (.bool b) => some b
  | _ => none
theorem dB_eq {d : Dat} {x : Bool} (h : dB d = some x) : d = .val (.bool x) := by
  unfold dB at h
  split at h
  · cases h; rfl
  · cases h
theorem dB_e (x : Bool) : dB (eB x) = some x := rfl
def dS : Dat → Option (List UInt8)
  | .val (.string b) => some b.data.toList
  | _ => none
theorem dS_eq {d : Dat} {x : List UInt8} (h : dS d = some x) : d = .val (.string (bs x)) := by
  unfold dS at h
  split at h
  · cases h; simp [bs]
  · cases h
theorem dS_e (x : List UInt8) : dS (eS x) = some x := by simp [dS, eS, bs]
def dNP : Dat → Option NP
  | .nod cs => some ⟨cs⟩
  | _ => none
theorem dNP_eq {d : Dat} {x : NP} (h : dNP d = some x) : d = eNP x := by
  unfold dNP at h
  split at h
  · cases h; rfl
  · cases h
theorem dNP_e (x : NP) : dNP (eNP x) = some x := rfl
def dOP : Dat → Option (Option NP)
  | .nod cs => some (some ⟨cs⟩)
  | .val (.pointer none) => some none
  | _ => none
theorem dOP_eq {d : Dat} {x : Option NP} (h : dOP d = some x) : d = eOP x := by
  unfold dOP at h
  split at h
  · cases h; rfl
  · cases h; rfl
  · cases h
theorem dOP_e (x : Option NP) : dOP (eOP x) = some x := by cases x <;> rfl
def dAll {α : Type} (f : Dat → Option α) : List Dat → Option (List α)
  | [] => some []
  | d :: l => bnd (f d) fun a => bnd (dAll f l) fun r => some (a :: r)
def dL {α : Type} (sz : Nat) (f : Dat → Option α) : Dat → Option (List α)
  | .sl z l => if z = sz then dAll f l else none
  | _ => none
theorem dL_eq {α : Type} {sz : Nat} {f : Dat → Option α} {e : α → Dat} (hf : ∀ {d x}, f d = some x → d = e x) {d : Dat} {x : List α} (h : dL sz f d = some x) : d = .sl sz (List.map e x) := by
  have key : ∀ (l : List Dat) (x : List α), dAll f l = some x → l = List.map e x := fun l => by
    induction l with
    | nil => intro x h; cases h; rfl
    | cons a l ih =>
      intro x h
      obtain ⟨b, hb, h⟩ := bnd_some h
      obtain ⟨r, hr, h⟩ := bnd_some h
      cases h
      rw [hf hb, ih r hr]; rfl
  unfold dL at h
  split at h
  · split at h
    · rename_i e; subst e; rw [key _ _ h]
    · cases h
  · cases h
theorem dL_e {α : Type} {sz : Nat} {f : Dat → Option α} {e : α → Dat} (hf : ∀ x, f (e x) = some x) (x : List α) : dL sz f (.sl sz (List.map e x)) = some x := by
  have key : ∀ x : List α, dAll f (List.map e x) = some x := fun x => by
    induction x with
    | nil => rfl
    | cons a l ih => simp only [List.map_cons, dAll, hf, ih, bnd]
  simp only [dL, if_true, key]
theorem dI_r {k : IntKind} (x : Int) : dI k (.val (.int k x)) = some x := dI_e x
theorem dU_r (x : UInt8) : dU (.val (.int .u8 x.toNat)) = some x := dU_e x
theorem dB_r (x : Bool) : dB (.val (.bool x)) = some x := rfl
theorem dS_r (x : List UInt8) : dS (.val (.string (bs x))) = some x := dS_e x
theorem bnd_r {α β : Type} (a : α) (f : α → Option β) : bnd (some a) f = f a := rfl
theorem strLt (a b : List UInt8) : Op.bytesLess (bs a).toList (bs b).toList = Op.bytesLess a b := by rw [bs_toList, bs_toList]
theorem strGe (a b : List UInt8) : (!(Op.bytesLess (bs a).toList (bs b).toList)) = (!(Op.bytesLess a b)) := by rw [bs_toList, bs_toList]
end Go.Sm
