/- A program logic by ownership over the kit's wp. Part 17: bytes.Index, by the library's own contract. -/
import Derived.Test.YtbcbggdgkdfciaaSI
import Derived.Shelf.Bytes.SlIndexWhole
set_option linter.unusedVariables false
namespace Go.Sm
open Go.Shelf Go.Proofs
/-- The first place of a text in another one. -/
def bIndex (l m : List UInt8) : Option Int := if l.length < 4294967281 ∧ m.length ≤ 9223372036854775807 then some (Go.Lib.index l m) else none
theorem bytesOf_nums (l : List UInt8) : Go.Lib.bytesOf (l.map fun b => (b.toNat : Int)) = l := by
  unfold Go.Lib.bytesOf
  rw [List.map_map]
  conv => rhs; rw [← List.map_id l]
  exact List.map_congr_left fun b _ => by simp
theorem nums_byte (l : List UInt8) : ∀ x ∈ l.map (fun b => (b.toNat : Int)), 0 ≤ x ∧ x < 256 := fun x hx => by
  obtain ⟨b, _, rfl⟩ := List.mem_map.1 hx
  have := b.toNat_lt
  omega
theorem OpR.bytesIndex {X : Prg} {sl : List (Nat × Dat)} {ow : List Own} {ρ : Ren} (L : Lays.n185 X.P ρ) (hg : ρ.g 1 ∈ globs) {f : FuncId} (hf : ρ.f 185 = f) (hfn : IsFn X f) {x y : Operand} {ats : Array TypeId} {l m : List UInt8} {z : Int}
    (hz : bIndex l m = some z) (hx : Src sl ow x 1 (l.map byteD)) (hy : Src sl ow y 1 (m.map byteD)) :
    OpR X (.call { callee := .value (.func f), args := #[x, y], argTypes := ats }) sl ow (fun _ => .val (.int .i64 z)) (fun _ => ow) := by
  subst hf
  refine OpR.callQ hfn fun G a w ok hr kn => ⟨.int .i64 z, .val rfl, ?_⟩
  unfold bIndex at hz
  split at hz
  · rename_i hb
    obtain rfl := Option.some.inj hz
    obtain ⟨mm, hm⟩ := (hr.gl _ hg).2
    have same : ∀ {v : Value} {args : Array Value}, (Calls X.P (ρ.f 185) args w fun e w' => e = .returned v ∧ w' = w) → Calls X.P (ρ.f 185) args w fun e w' => e = .returned v ∧ ∃ q, w' = w.drewN q := fun h => h.mono fun e w' ⟨he, hw⟩ => ⟨he, 0, hw⟩
    rw [show (#[x, y] : Array Operand).map a.eval = #[a.eval x, a.eval y] by simp]
    rcases hy.run2 hr kn with ⟨h0, ey⟩ | ⟨p2, c2, n2, ey, hc2, e2, _, g2, _, _⟩
    · obtain rfl : m = [] := by simpa using h0
      have : Go.Lib.index l [] = 0 := by cases l <;> rfl
      rw [ey, this]
      rcases hx.run2 hr kn with ⟨_, ex⟩ | ⟨p1, c1, n1, ex, _⟩
      · rw [ex]; exact same (Go.Proofs.Any.bytes_Index_none L _ _ _ _ _ w)
      · rw [ex]; exact same (Go.Proofs.Any.bytes_Index_none L _ _ _ _ _ w)
    · have hcm := bytes_cells e2 g2
      rw [List.length_map] at ey hc2
      rcases hx.run2 hr kn with ⟨h0, ex⟩ | ⟨p1, c1, n1, ex, hc1, e1, _, g1, _, _⟩
      · obtain rfl : l = [] := by simpa using h0
        rw [ex, ey]
        by_cases hm0 : m.length = 0
        · obtain rfl := List.length_eq_zero_iff.1 hm0
          exact same (Go.Proofs.Any.bytes_Index_none L _ _ _ _ _ w)
        · have hi : Go.Lib.index [] m = if m.length = 0 then 0 else -1 := by
            rw [if_neg hm0]
            cases m with
            | nil => exact absurd rfl hm0
            | cons b t => rfl
          rw [hi]
          refine same (Go.Proofs.Any.bytes_Index_nil L _ _ _ w hb.2 fun h1 => ?_)
          have h0 := hcm 0 (by omega)
          have hp : p2 = ⟨p2.block, p2.off, none⟩ := Go.Lib.plain_of_cell (by simpa [Addr.add] using h0)
          refine ⟨p2.block, p2.off, _, by rw [← hp], by rw [← hp]; simpa [Addr.add] using h0⟩
      · rw [List.length_map] at ex hc1
        have hcl := bytes_cells e1 g1
        rw [ex, ey]
        have := Go.Proofs.Any.bytes_Index_at L p1 p2 l.length c1 m.length c2 (l.map fun b => (b.toNat : Int)) (m.map fun b => (b.toNat : Int)) mm w (by simp) (by simp) (nums_byte l) (nums_byte m) hcl hcm hc1 hb.1 hb.2 hm
        rw [bytesOf_nums, bytesOf_nums] at this
        exact this
  · cases hz
end Go.Sm
namespace Go.Proofs.Ytbcbggdgkdfciaa.S
open Go Go.Sm Go.Shelf Go.Proofs
def shRen : Ren := ⟨fun | 115 => 127 | 185 => 137 | 187 => 176 | 224 => 178 | 253 => 177 | 254 => 179 | 255 => 207 | 291 => 208 | n => n,
  fun | 0 => 0 | 3 => 3 | 4 => 4 | 5 => 5 | 9 => 9 | 37 => 25 | 46 => 191 | 51 => 286 | 146 => 287 | n => n,
  fun | 1 => 0 | n => n⟩
theorem glob0 : shRen.g 1 ∈ globs := List.mem_singleton.2 rfl
theorem shLay : Lays.n185 Try.prog shRen where
  mixed := by kernel_rfl
  g1 := by kernel_rfl
  f115 := Try.func127.trans (congrArg some (by kernel_rfl))
  f185 := Try.func137.trans (congrArg some (by kernel_rfl))
  f187 := Try.func176.trans (congrArg some (by kernel_rfl))
  f224 := Try.func178.trans (congrArg some (by kernel_rfl))
  f253 := Try.func177.trans (congrArg some (by kernel_rfl))
  f254 := Try.func179.trans (congrArg some (by kernel_rfl))
  f255 := Try.func207.trans (congrArg some (by kernel_rfl))
  f291 := Try.func208.trans (congrArg some (by kernel_rfl))
  t0 := Try.underlying0
  a0 := Try.isAgg0
  z0 := Try.sizeOf0
  v0 := Try.zeroValue0
  t3 := Try.underlying3
  a3 := Try.isAgg3
  z3 := Try.sizeOf3
  v3 := Try.zeroValue3
  t4 := Try.underlying4
  a4 := Try.isAgg4
  z4 := Try.sizeOf4
  v4 := Try.zeroValue4
  t5 := Try.underlying5
  a5 := Try.isAgg5
  z5 := Try.sizeOf5
  v5 := Try.zeroValue5
  t9 := Try.underlying9
  a9 := Try.isAgg9
  z9 := Try.sizeOf9
  v9 := Try.zeroValue9
  t37 := Try.underlying25
  a37 := Try.isAgg25
  z37 := Try.sizeOf25
  v37 := Try.zeroValue25
  t46 := Try.underlying191
  a46 := Try.isAgg191
  z46 := Try.sizeOf191
  v46 := Try.zeroValue191
  t51 := Try.underlying286
  a51 := Try.isAgg286
  z51 := Try.sizeOf286
  v51 := Try.zeroValue286
  t146 := Try.underlying287
  a146 := Try.isAgg287
  z146 := Try.sizeOf287
  v146 := Try.zeroValue287
end Go.Proofs.Ytbcbggdgkdfciaa.S
