/- Printed by a program of this session's own (gen.py): Lean functions for Go functions, and the proofs that the Go code comes to their answers. -/
import Derived.Test.YtlginjmkmfodmaaDoorSN
import Derived.Test.YtlginjmkmfodmaaDoorSL
set_option maxHeartbeats 4000000
set_option linter.unusedVariables false
set_option linter.unusedSimpArgs false
set_option maxRecDepth 20000
namespace Go.Proofs.YtlginjmkmfodmaaDoor.S
open Go Go.Sm
structure utf_first where
  fMark : Int
  fRoom : Int
  deriving DecidableEq
structure keys_name where
  fKey : Int
  fText : List UInt8
  deriving DecidableEq
def e_keys_name (x : keys_name) : Dat := .agg [.val (.int .i64 x.fKey), .val (.string (bs x.fText))]
def tab_keys_names : List keys_name := [(⟨60, [108, 116]⟩ : keys_name), (⟨9, [84, 97, 98]⟩ : keys_name), (⟨13, [67, 82]⟩ : keys_name), (⟨8, [66, 83]⟩ : keys_name), (⟨27, [69, 115, 99]⟩ : keys_name), (⟨127, [68, 101, 108]⟩ : keys_name), (⟨(-1), [76, 101, 102, 116]⟩ : keys_name), (⟨(-2), [82, 105, 103, 104, 116]⟩ : keys_name), (⟨(-3), [85, 112]⟩ : keys_name), (⟨(-4), [68, 111, 119, 110]⟩ : keys_name), (⟨(-5), [72, 111, 109, 101]⟩ : keys_name), (⟨(-6), [69, 110, 100]⟩ : keys_name)]
theorem drawsX : X.P.follows .mixedOrders = true := rfl
theorem fn3 : IsFn X 3 := ⟨Tryd.f3, Tryd.func3, by kernel_rfl, rfl⟩
theorem fn4 : IsFn X 4 := ⟨Tryd.f4, Tryd.func4, by kernel_rfl, rfl⟩
theorem fn5 : IsFn X 5 := ⟨Tryd.f5, Tryd.func5, by kernel_rfl, rfl⟩
theorem fn6 : IsFn X 6 := ⟨Tryd.f6, Tryd.func6, by kernel_rfl, rfl⟩
theorem fn7 : IsFn X 7 := ⟨Tryd.f7, Tryd.func7, by kernel_rfl, rfl⟩
theorem fn8 : IsFn X 8 := ⟨Tryd.f8, Tryd.func8, by kernel_rfl, rfl⟩
theorem fn9 : IsFn X 9 := ⟨Tryd.f9, Tryd.func9, by kernel_rfl, rfl⟩
theorem fn10 : IsFn X 10 := ⟨Tryd.f10, Tryd.func10, by kernel_rfl, rfl⟩
theorem fn11 : IsFn X 11 := ⟨Tryd.f11, Tryd.func11, by kernel_rfl, rfl⟩
theorem fn12 : IsFn X 12 := ⟨Tryd.f12, Tryd.func12, by kernel_rfl, rfl⟩
theorem fn13 : IsFn X 13 := ⟨Tryd.f13, Tryd.func13, by kernel_rfl, rfl⟩
theorem fn14 : IsFn X 14 := ⟨Tryd.f14, Tryd.func14, by kernel_rfl, rfl⟩
theorem fn15 : IsFn X 15 := ⟨Tryd.f15, Tryd.func15, by kernel_rfl, rfl⟩
theorem fn16 : IsFn X 16 := ⟨Tryd.f16, Tryd.func16, by kernel_rfl, rfl⟩
theorem fn17 : IsFn X 17 := ⟨Tryd.f17, Tryd.func17, by kernel_rfl, rfl⟩
theorem fn18 : IsFn X 18 := ⟨Tryd.f18, Tryd.func18, by kernel_rfl, rfl⟩
theorem fn19 : IsFn X 19 := ⟨Tryd.f19, Tryd.func19, by kernel_rfl, rfl⟩
theorem fn20 : IsFn X 20 := ⟨Tryd.f20, Tryd.func20, by kernel_rfl, rfl⟩
theorem fn21 : IsFn X 21 := ⟨Tryd.f21, Tryd.func21, by kernel_rfl, rfl⟩
theorem fn22 : IsFn X 22 := ⟨Tryd.f22, Tryd.func22, by kernel_rfl, rfl⟩
theorem fn23 : IsFn X 23 := ⟨Tryd.f23, Tryd.func23, by kernel_rfl, rfl⟩
theorem fn24 : IsFn X 24 := ⟨Tryd.f24, Tryd.func24, by kernel_rfl, rfl⟩
theorem fn25 : IsFn X 25 := ⟨Tryd.f25, Tryd.func25, by kernel_rfl, rfl⟩
theorem fn26 : IsFn X 26 := ⟨Tryd.f26, Tryd.func26, by kernel_rfl, rfl⟩
theorem fn27 : IsFn X 27 := ⟨Tryd.f27, Tryd.func27, by kernel_rfl, rfl⟩
theorem fn28 : IsFn X 28 := ⟨Tryd.f28, Tryd.func28, by kernel_rfl, rfl⟩
theorem fn29 : IsFn X 29 := ⟨Tryd.f29, Tryd.func29, by kernel_rfl, rfl⟩
theorem fn30 : IsFn X 30 := ⟨Tryd.f30, Tryd.func30, by kernel_rfl, rfl⟩
theorem fn31 : IsFn X 31 := ⟨Tryd.f31, Tryd.func31, by kernel_rfl, rfl⟩
theorem fn32 : IsFn X 32 := ⟨Tryd.f32, Tryd.func32, by kernel_rfl, rfl⟩
theorem fn33 : IsFn X 33 := ⟨Tryd.f33, Tryd.func33, by kernel_rfl, rfl⟩
theorem fn34 : IsFn X 34 := ⟨Tryd.f34, Tryd.func34, by kernel_rfl, rfl⟩
theorem fn35 : IsFn X 35 := ⟨Tryd.f35, Tryd.func35, by kernel_rfl, rfl⟩
theorem fn36 : IsFn X 36 := ⟨Tryd.f36, Tryd.func36, by kernel_rfl, rfl⟩
theorem fn38 : IsFn X 38 := ⟨Tryd.f38, Tryd.func38, by kernel_rfl, rfl⟩
theorem fn39 : IsFn X 39 := ⟨Tryd.f39, Tryd.func39, by kernel_rfl, rfl⟩
theorem fn40 : IsFn X 40 := ⟨Tryd.f40, Tryd.func40, by kernel_rfl, rfl⟩
theorem fn43 : IsFn X 43 := ⟨Tryd.f43, Tryd.func43, by kernel_rfl, rfl⟩
end Go.Proofs.YtlginjmkmfodmaaDoor.S
