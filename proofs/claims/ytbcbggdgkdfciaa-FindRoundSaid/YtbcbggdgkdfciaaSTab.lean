/- The types of the program, as a table. -/
import Derived.Test.YtbcbggdgkdfciaaSF
import Derived.Test.YtbcbggdgkdfciaaProg
import Derived.KernelRfl
namespace Go.Proofs.Ytbcbggdgkdfciaa.S
open Go Go.Sm
def ti0 : TI := { desc := (Go.TypeDesc.tuple #[]), size := 1, bytes := 0, zero := (Go.Value.tuple #[]) }
theorem tok0 : TOk Try.prog 0 ti0 := ⟨Try.underlying0, Try.t0, by kernel_rfl, rfl, rfl, rfl⟩
def ti1 : TI := { desc := (Go.TypeDesc.func #[] #[] false), size := 1, bytes := 8, zero := Go.Value.nilFunc }
theorem tok1 : TOk Try.prog 1 ti1 := ⟨Try.underlying1, Try.t1, by kernel_rfl, rfl, rfl, rfl⟩
def ti2 : TI := { desc := (Go.TypeDesc.int Go.IntKind.i64), size := 1, bytes := 8, zero := (Go.Value.int Go.IntKind.i64 0) }
theorem tok2 : TOk Try.prog 2 ti2 := ⟨Try.underlying2, Try.t2, by kernel_rfl, rfl, rfl, rfl⟩
def ti3 : TI := { desc := (Go.TypeDesc.int Go.IntKind.i64), size := 1, bytes := 8, zero := (Go.Value.int Go.IntKind.i64 0) }
theorem tok3 : TOk Try.prog 3 ti3 := ⟨Try.underlying3, Try.t3, by kernel_rfl, rfl, rfl, rfl⟩
def ti4 : TI := { desc := Go.TypeDesc.bool, size := 1, bytes := 1, zero := (Go.Value.bool false) }
theorem tok4 : TOk Try.prog 4 ti4 := ⟨Try.underlying4, Try.t4, by kernel_rfl, rfl, rfl, rfl⟩
def ti5 : TI := { desc := (Go.TypeDesc.int Go.IntKind.u8), size := 1, bytes := 1, zero := (Go.Value.int Go.IntKind.u8 0) }
theorem tok5 : TOk Try.prog 5 ti5 := ⟨Try.underlying5, Try.t5, by kernel_rfl, rfl, rfl, rfl⟩
def ti6 : TI := { desc := (Go.TypeDesc.int Go.IntKind.u8), size := 1, bytes := 1, zero := (Go.Value.int Go.IntKind.u8 0) }
theorem tok6 : TOk Try.prog 6 ti6 := ⟨Try.underlying6, Try.t6, by kernel_rfl, rfl, rfl, rfl⟩
def ti7 : TI := { desc := (Go.TypeDesc.struct #[{ name := "x", type := 2, offset := 0, embedded := false, tag := "", pkgPath := "runtime", byteOffset := 0 }, { name := "y", type := 3, offset := 1, embedded := false, tag := "", pkgPath := "runtime", byteOffset := 8 }, { name := "signed", type := 4, offset := 2, embedded := false, tag := "", pkgPath := "runtime", byteOffset := 16 }, { name := "code", type := 6, offset := 3, embedded := false, tag := "", pkgPath := "runtime", byteOffset := 17 }]), size := 4, bytes := 24, zero := (Go.Value.agg #[Go.Value.int Go.IntKind.i64 0, Go.Value.int Go.IntKind.i64 0, Go.Value.bool false, Go.Value.int Go.IntKind.u8 0]) }
theorem tok7 : TOk Try.prog 7 ti7 := ⟨Try.underlying7, Try.t7, by kernel_rfl, rfl, rfl, rfl⟩
def ti8 : TI := { desc := (Go.TypeDesc.struct #[{ name := "x", type := 2, offset := 0, embedded := false, tag := "", pkgPath := "runtime", byteOffset := 0 }, { name := "y", type := 3, offset := 1, embedded := false, tag := "", pkgPath := "runtime", byteOffset := 8 }, { name := "signed", type := 4, offset := 2, embedded := false, tag := "", pkgPath := "runtime", byteOffset := 16 }, { name := "code", type := 6, offset := 3, embedded := false, tag := "", pkgPath := "runtime", byteOffset := 17 }]), size := 4, bytes := 24, zero := (Go.Value.agg #[Go.Value.int Go.IntKind.i64 0, Go.Value.int Go.IntKind.i64 0, Go.Value.bool false, Go.Value.int Go.IntKind.u8 0]) }
theorem tok8 : TOk Try.prog 8 ti8 := ⟨Try.underlying8, Try.t8, by kernel_rfl, rfl, rfl, rfl⟩
def ti9 : TI := { desc := Go.TypeDesc.string, size := 1, bytes := 16, zero := (Go.Value.string { data := #[] }) }
theorem tok9 : TOk Try.prog 9 ti9 := ⟨Try.underlying9, Try.t9, by kernel_rfl, rfl, rfl, rfl⟩
def ti10 : TI := { desc := Go.TypeDesc.string, size := 1, bytes := 16, zero := (Go.Value.string { data := #[] }) }
theorem tok10 : TOk Try.prog 10 ti10 := ⟨Try.underlying10, Try.t10, by kernel_rfl, rfl, rfl, rfl⟩
def ti11 : TI := { desc := Go.TypeDesc.string, size := 1, bytes := 16, zero := (Go.Value.string { data := #[] }) }
theorem tok11 : TOk Try.prog 11 ti11 := ⟨Try.underlying11, Try.t11, by kernel_rfl, rfl, rfl, rfl⟩
def ti12 : TI := { desc := (Go.TypeDesc.int Go.IntKind.u64), size := 1, bytes := 8, zero := (Go.Value.int Go.IntKind.u64 0) }
theorem tok12 : TOk Try.prog 12 ti12 := ⟨Try.underlying12, Try.t12, by kernel_rfl, rfl, rfl, rfl⟩
def ti13 : TI := { desc := (Go.TypeDesc.struct #[{ name := "msg", type := 9, offset := 0, embedded := false, tag := "", pkgPath := "runtime", byteOffset := 0 }, { name := "addr", type := 12, offset := 1, embedded := false, tag := "", pkgPath := "runtime", byteOffset := 16 }]), size := 2, bytes := 24, zero := (Go.Value.agg #[Go.Value.string { data := #[] }, Go.Value.int Go.IntKind.u64 0]) }
theorem tok13 : TOk Try.prog 13 ti13 := ⟨Try.underlying13, Try.t13, by kernel_rfl, rfl, rfl, rfl⟩
def ti14 : TI := { desc := (Go.TypeDesc.struct #[{ name := "msg", type := 9, offset := 0, embedded := false, tag := "", pkgPath := "runtime", byteOffset := 0 }, { name := "addr", type := 12, offset := 1, embedded := false, tag := "", pkgPath := "runtime", byteOffset := 16 }]), size := 2, bytes := 24, zero := (Go.Value.agg #[Go.Value.string { data := #[] }, Go.Value.int Go.IntKind.u64 0]) }
theorem tok14 : TOk Try.prog 14 ti14 := ⟨Try.underlying14, Try.t14, by kernel_rfl, rfl, rfl, rfl⟩
def ti15 : TI := { desc := (Go.TypeDesc.pointer 304), size := 1, bytes := 8, zero := (Go.Value.pointer none) }
theorem tok15 : TOk Try.prog 15 ti15 := ⟨Try.underlying15, Try.t15, by kernel_rfl, rfl, rfl, rfl⟩
def ti16 : TI := { desc := (Go.TypeDesc.pointer 307), size := 1, bytes := 8, zero := (Go.Value.pointer none) }
theorem tok16 : TOk Try.prog 16 ti16 := ⟨Try.underlying16, Try.t16, by kernel_rfl, rfl, rfl, rfl⟩
def ti17 : TI := { desc := (Go.TypeDesc.pointer 315), size := 1, bytes := 8, zero := (Go.Value.pointer none) }
theorem tok17 : TOk Try.prog 17 ti17 := ⟨Try.underlying17, Try.t17, by kernel_rfl, rfl, rfl, rfl⟩
def ti18 : TI := { desc := (Go.TypeDesc.struct #[{ name := "typ", type := 17, offset := 0, embedded := false, tag := "", pkgPath := "internal/runtime/maps", byteOffset := 0 }]), size := 1, bytes := 8, zero := (Go.Value.agg #[Go.Value.pointer none]) }
theorem tok18 : TOk Try.prog 18 ti18 := ⟨Try.underlying18, Try.t18, by kernel_rfl, rfl, rfl, rfl⟩
def ti19 : TI := { desc := (Go.TypeDesc.struct #[{ name := "typ", type := 17, offset := 0, embedded := false, tag := "", pkgPath := "internal/runtime/maps", byteOffset := 0 }]), size := 1, bytes := 8, zero := (Go.Value.agg #[Go.Value.pointer none]) }
theorem tok19 : TOk Try.prog 19 ti19 := ⟨Try.underlying19, Try.t19, by kernel_rfl, rfl, rfl, rfl⟩
def ti20 : TI := { desc := (Go.TypeDesc.interface #[]), size := 1, bytes := 16, zero := Go.Value.nilIface }
theorem tok20 : TOk Try.prog 20 ti20 := ⟨Try.underlying20, Try.t20, by kernel_rfl, rfl, rfl, rfl⟩
def ti21 : TI := { desc := (Go.TypeDesc.int Go.IntKind.i32), size := 1, bytes := 4, zero := (Go.Value.int Go.IntKind.i32 0) }
theorem tok21 : TOk Try.prog 21 ti21 := ⟨Try.underlying21, Try.t21, by kernel_rfl, rfl, rfl, rfl⟩
def ti22 : TI := { desc := (Go.TypeDesc.struct #[{ name := "P", type := 9, offset := 0, embedded := false, tag := "", pkgPath := "", byteOffset := 0 }, { name := "With", type := 9, offset := 1, embedded := false, tag := "", pkgPath := "", byteOffset := 16 }, { name := "All", type := 4, offset := 2, embedded := false, tag := "", pkgPath := "", byteOffset := 32 }]), size := 3, bytes := 40, zero := (Go.Value.agg #[Go.Value.string { data := #[] }, Go.Value.string { data := #[] }, Go.Value.bool false]) }
theorem tok22 : TOk Try.prog 22 ti22 := ⟨Try.underlying22, Try.t22, by kernel_rfl, rfl, rfl, rfl⟩
def ti23 : TI := { desc := (Go.TypeDesc.struct #[{ name := "P", type := 9, offset := 0, embedded := false, tag := "", pkgPath := "", byteOffset := 0 }, { name := "With", type := 9, offset := 1, embedded := false, tag := "", pkgPath := "", byteOffset := 16 }, { name := "All", type := 4, offset := 2, embedded := false, tag := "", pkgPath := "", byteOffset := 32 }]), size := 3, bytes := 40, zero := (Go.Value.agg #[Go.Value.string { data := #[] }, Go.Value.string { data := #[] }, Go.Value.bool false]) }
theorem tok23 : TOk Try.prog 23 ti23 := ⟨Try.underlying23, Try.t23, by kernel_rfl, rfl, rfl, rfl⟩
def ti24 : TI := { desc := (Go.TypeDesc.func #[9, 3] #[9] false), size := 1, bytes := 8, zero := Go.Value.nilFunc }
theorem tok24 : TOk Try.prog 24 ti24 := ⟨Try.underlying24, Try.t24, by kernel_rfl, rfl, rfl, rfl⟩
def ti25 : TI := { desc := (Go.TypeDesc.slice 5), size := 1, bytes := 24, zero := (Go.Value.slice none 0 0) }
theorem tok25 : TOk Try.prog 25 ti25 := ⟨Try.underlying25, Try.t25, by kernel_rfl, rfl, rfl, rfl⟩
def ti26 : TI := { desc := (Go.TypeDesc.tuple #[25, 3]), size := 1, bytes := 0, zero := (Go.Value.tuple #[Go.Value.slice none 0 0, Go.Value.int Go.IntKind.i64 0]) }
theorem tok26 : TOk Try.prog 26 ti26 := ⟨Try.underlying26, Try.t26, by kernel_rfl, rfl, rfl, rfl⟩
def ti27 : TI := { desc := (Go.TypeDesc.func #[25, 25, 25, 4] #[25, 3] false), size := 1, bytes := 8, zero := Go.Value.nilFunc }
theorem tok27 : TOk Try.prog 27 ti27 := ⟨Try.underlying27, Try.t27, by kernel_rfl, rfl, rfl, rfl⟩
def ti28 : TI := { desc := (Go.TypeDesc.tuple #[9, 3]), size := 1, bytes := 0, zero := (Go.Value.tuple #[Go.Value.string { data := #[] }, Go.Value.int Go.IntKind.i64 0]) }
theorem tok28 : TOk Try.prog 28 ti28 := ⟨Try.underlying28, Try.t28, by kernel_rfl, rfl, rfl, rfl⟩
def ti30 : TI := { desc := (Go.TypeDesc.func #[] #[4] false), size := 1, bytes := 8, zero := Go.Value.nilFunc }
theorem tok30 : TOk Try.prog 30 ti30 := ⟨Try.underlying30, Try.t30, by kernel_rfl, rfl, rfl, rfl⟩
def ti31 : TI := { desc := (Go.TypeDesc.func #[9, 23] #[4] false), size := 1, bytes := 8, zero := Go.Value.nilFunc }
theorem tok31 : TOk Try.prog 31 ti31 := ⟨Try.underlying31, Try.t31, by kernel_rfl, rfl, rfl, rfl⟩
def ti32 : TI := { desc := (Go.TypeDesc.func #[33, 33] #[4] false), size := 1, bytes := 8, zero := Go.Value.nilFunc }
theorem tok32 : TOk Try.prog 32 ti32 := ⟨Try.underlying32, Try.t32, by kernel_rfl, rfl, rfl, rfl⟩
def ti33 : TI := { desc := (Go.TypeDesc.slice 3), size := 1, bytes := 24, zero := (Go.Value.slice none 0 0) }
theorem tok33 : TOk Try.prog 33 ti33 := ⟨Try.underlying33, Try.t33, by kernel_rfl, rfl, rfl, rfl⟩
def ti35 : TI := { desc := (Go.TypeDesc.func #[9, 9] #[33] false), size := 1, bytes := 8, zero := Go.Value.nilFunc }
theorem tok35 : TOk Try.prog 35 ti35 := ⟨Try.underlying35, Try.t35, by kernel_rfl, rfl, rfl, rfl⟩
def ti39 : TI := { desc := (Go.TypeDesc.pointer 142), size := 1, bytes := 8, zero := (Go.Value.pointer none) }
theorem tok39 : TOk Try.prog 39 ti39 := ⟨Try.underlying39, Try.t39, by kernel_rfl, rfl, rfl, rfl⟩
def ti40 : TI := { desc := (Go.TypeDesc.int Go.IntKind.i64), size := 1, bytes := 8, zero := (Go.Value.int Go.IntKind.i64 0) }
theorem tok40 : TOk Try.prog 40 ti40 := ⟨Try.underlying40, Try.t40, by kernel_rfl, rfl, rfl, rfl⟩
def ti41 : TI := { desc := (Go.TypeDesc.tuple #[39, 40]), size := 1, bytes := 0, zero := (Go.Value.tuple #[Go.Value.pointer none, Go.Value.int Go.IntKind.i64 0]) }
theorem tok41 : TOk Try.prog 41 ti41 := ⟨Try.underlying41, Try.t41, by kernel_rfl, rfl, rfl, rfl⟩
def ti42 : TI := { desc := (Go.TypeDesc.func #[25] #[39, 40] false), size := 1, bytes := 8, zero := Go.Value.nilFunc }
theorem tok42 : TOk Try.prog 42 ti42 := ⟨Try.underlying42, Try.t42, by kernel_rfl, rfl, rfl, rfl⟩
def ti43 : TI := { desc := (Go.TypeDesc.slice 54), size := 1, bytes := 24, zero := (Go.Value.slice none 0 0) }
theorem tok43 : TOk Try.prog 43 ti43 := ⟨Try.underlying43, Try.t43, by kernel_rfl, rfl, rfl, rfl⟩
def ti45 : TI := { desc := (Go.TypeDesc.slice 62), size := 1, bytes := 24, zero := (Go.Value.slice none 0 0) }
theorem tok45 : TOk Try.prog 45 ti45 := ⟨Try.underlying45, Try.t45, by kernel_rfl, rfl, rfl, rfl⟩
def ti47 : TI := { desc := (Go.TypeDesc.slice 108), size := 1, bytes := 24, zero := (Go.Value.slice none 0 0) }
theorem tok47 : TOk Try.prog 47 ti47 := ⟨Try.underlying47, Try.t47, by kernel_rfl, rfl, rfl, rfl⟩
def ti48 : TI := { desc := (Go.TypeDesc.struct #[{ name := "Cells", type := 47, offset := 0, embedded := false, tag := "", pkgPath := "", byteOffset := 0 }, { name := "End", type := 3, offset := 1, embedded := false, tag := "", pkgPath := "", byteOffset := 24 }, { name := "Hidden", type := 4, offset := 2, embedded := false, tag := "", pkgPath := "", byteOffset := 32 }]), size := 3, bytes := 40, zero := (Go.Value.agg #[Go.Value.slice none 0 0, Go.Value.int Go.IntKind.i64 0, Go.Value.bool false]) }
theorem tok48 : TOk Try.prog 48 ti48 := ⟨Try.underlying48, Try.t48, by kernel_rfl, rfl, rfl, rfl⟩
def ti49 : TI := { desc := (Go.TypeDesc.struct #[{ name := "Cells", type := 47, offset := 0, embedded := false, tag := "", pkgPath := "", byteOffset := 0 }, { name := "End", type := 3, offset := 1, embedded := false, tag := "", pkgPath := "", byteOffset := 24 }, { name := "Hidden", type := 4, offset := 2, embedded := false, tag := "", pkgPath := "", byteOffset := 32 }]), size := 3, bytes := 40, zero := (Go.Value.agg #[Go.Value.slice none 0 0, Go.Value.int Go.IntKind.i64 0, Go.Value.bool false]) }
theorem tok49 : TOk Try.prog 49 ti49 := ⟨Try.underlying49, Try.t49, by kernel_rfl, rfl, rfl, rfl⟩
def ti50 : TI := { desc := (Go.TypeDesc.tuple #[49, 40]), size := 1, bytes := 0, zero := (Go.Value.tuple #[Go.Value.agg #[Go.Value.slice none 0 0, Go.Value.int Go.IntKind.i64 0, Go.Value.bool false], Go.Value.int Go.IntKind.i64 0]) }
theorem tok50 : TOk Try.prog 50 ti50 := ⟨Try.underlying50, Try.t50, by kernel_rfl, rfl, rfl, rfl⟩
def ti51 : TI := { desc := (Go.TypeDesc.func #[54] #[49, 40] false), size := 1, bytes := 8, zero := Go.Value.nilFunc }
theorem tok51 : TOk Try.prog 51 ti51 := ⟨Try.underlying51, Try.t51, by kernel_rfl, rfl, rfl, rfl⟩
def ti52 : TI := { desc := (Go.TypeDesc.slice 148), size := 1, bytes := 24, zero := (Go.Value.slice none 0 0) }
theorem tok52 : TOk Try.prog 52 ti52 := ⟨Try.underlying52, Try.t52, by kernel_rfl, rfl, rfl, rfl⟩
def ti54 : TI := { desc := (Go.TypeDesc.struct #[{ name := "Fields", type := 52, offset := 0, embedded := false, tag := "", pkgPath := "", byteOffset := 0 }, { name := "End", type := 3, offset := 1, embedded := false, tag := "", pkgPath := "", byteOffset := 24 }]), size := 2, bytes := 32, zero := (Go.Value.agg #[Go.Value.slice none 0 0, Go.Value.int Go.IntKind.i64 0]) }
theorem tok54 : TOk Try.prog 54 ti54 := ⟨Try.underlying54, Try.t54, by kernel_rfl, rfl, rfl, rfl⟩
def ti55 : TI := { desc := (Go.TypeDesc.slice 112), size := 1, bytes := 24, zero := (Go.Value.slice none 0 0) }
theorem tok55 : TOk Try.prog 55 ti55 := ⟨Try.underlying55, Try.t55, by kernel_rfl, rfl, rfl, rfl⟩
def ti56 : TI := { desc := (Go.TypeDesc.struct #[{ name := "Cells", type := 55, offset := 0, embedded := false, tag := "", pkgPath := "", byteOffset := 0 }, { name := "End", type := 3, offset := 1, embedded := false, tag := "", pkgPath := "", byteOffset := 24 }, { name := "Hidden", type := 4, offset := 2, embedded := false, tag := "", pkgPath := "", byteOffset := 32 }]), size := 3, bytes := 40, zero := (Go.Value.agg #[Go.Value.slice none 0 0, Go.Value.int Go.IntKind.i64 0, Go.Value.bool false]) }
theorem tok56 : TOk Try.prog 56 ti56 := ⟨Try.underlying56, Try.t56, by kernel_rfl, rfl, rfl, rfl⟩
def ti57 : TI := { desc := (Go.TypeDesc.struct #[{ name := "Cells", type := 55, offset := 0, embedded := false, tag := "", pkgPath := "", byteOffset := 0 }, { name := "End", type := 3, offset := 1, embedded := false, tag := "", pkgPath := "", byteOffset := 24 }, { name := "Hidden", type := 4, offset := 2, embedded := false, tag := "", pkgPath := "", byteOffset := 32 }]), size := 3, bytes := 40, zero := (Go.Value.agg #[Go.Value.slice none 0 0, Go.Value.int Go.IntKind.i64 0, Go.Value.bool false]) }
theorem tok57 : TOk Try.prog 57 ti57 := ⟨Try.underlying57, Try.t57, by kernel_rfl, rfl, rfl, rfl⟩
def ti58 : TI := { desc := (Go.TypeDesc.tuple #[57, 40]), size := 1, bytes := 0, zero := (Go.Value.tuple #[Go.Value.agg #[Go.Value.slice none 0 0, Go.Value.int Go.IntKind.i64 0, Go.Value.bool false], Go.Value.int Go.IntKind.i64 0]) }
theorem tok58 : TOk Try.prog 58 ti58 := ⟨Try.underlying58, Try.t58, by kernel_rfl, rfl, rfl, rfl⟩
def ti59 : TI := { desc := (Go.TypeDesc.func #[9, 62] #[57, 40] false), size := 1, bytes := 8, zero := Go.Value.nilFunc }
theorem tok59 : TOk Try.prog 59 ti59 := ⟨Try.underlying59, Try.t59, by kernel_rfl, rfl, rfl, rfl⟩
def ti60 : TI := { desc := (Go.TypeDesc.slice 152), size := 1, bytes := 24, zero := (Go.Value.slice none 0 0) }
theorem tok60 : TOk Try.prog 60 ti60 := ⟨Try.underlying60, Try.t60, by kernel_rfl, rfl, rfl, rfl⟩
def ti62 : TI := { desc := (Go.TypeDesc.struct #[{ name := "Fields", type := 60, offset := 0, embedded := false, tag := "", pkgPath := "", byteOffset := 0 }, { name := "End", type := 3, offset := 1, embedded := false, tag := "", pkgPath := "", byteOffset := 24 }]), size := 2, bytes := 32, zero := (Go.Value.agg #[Go.Value.slice none 0 0, Go.Value.int Go.IntKind.i64 0]) }
theorem tok62 : TOk Try.prog 62 ti62 := ⟨Try.underlying62, Try.t62, by kernel_rfl, rfl, rfl, rfl⟩
def ti63 : TI := { desc := (Go.TypeDesc.func #[57, 57] #[4] false), size := 1, bytes := 8, zero := Go.Value.nilFunc }
theorem tok63 : TOk Try.prog 63 ti63 := ⟨Try.underlying63, Try.t63, by kernel_rfl, rfl, rfl, rfl⟩
def ti65 : TI := { desc := (Go.TypeDesc.tuple #[62, 3]), size := 1, bytes := 0, zero := (Go.Value.tuple #[Go.Value.agg #[Go.Value.slice none 0 0, Go.Value.int Go.IntKind.i64 0], Go.Value.int Go.IntKind.i64 0]) }
theorem tok65 : TOk Try.prog 65 ti65 := ⟨Try.underlying65, Try.t65, by kernel_rfl, rfl, rfl, rfl⟩
def ti66 : TI := { desc := (Go.TypeDesc.func #[9, 3] #[62, 3] false), size := 1, bytes := 8, zero := Go.Value.nilFunc }
theorem tok66 : TOk Try.prog 66 ti66 := ⟨Try.underlying66, Try.t66, by kernel_rfl, rfl, rfl, rfl⟩
def ti68 : TI := { desc := (Go.TypeDesc.func #[3] #[9] false), size := 1, bytes := 8, zero := Go.Value.nilFunc }
theorem tok68 : TOk Try.prog 68 ti68 := ⟨Try.underlying68, Try.t68, by kernel_rfl, rfl, rfl, rfl⟩
def ti71 : TI := { desc := (Go.TypeDesc.array 2 3), size := 2, bytes := 16, zero := (Go.Value.agg #[Go.Value.int Go.IntKind.i64 0, Go.Value.int Go.IntKind.i64 0]) }
theorem tok71 : TOk Try.prog 71 ti71 := ⟨Try.underlying71, Try.t71, by kernel_rfl, rfl, rfl, rfl⟩
def ti72 : TI := { desc := (Go.TypeDesc.array 2 4), size := 2, bytes := 2, zero := (Go.Value.agg #[Go.Value.bool false, Go.Value.bool false]) }
theorem tok72 : TOk Try.prog 72 ti72 := ⟨Try.underlying72, Try.t72, by kernel_rfl, rfl, rfl, rfl⟩
def ti73 : TI := { desc := (Go.TypeDesc.array 2 49), size := 6, bytes := 80, zero := (Go.Value.agg #[Go.Value.slice none 0 0, Go.Value.int Go.IntKind.i64 0, Go.Value.bool false, Go.Value.slice none 0 0, Go.Value.int Go.IntKind.i64 0, Go.Value.bool false]) }
theorem tok73 : TOk Try.prog 73 ti73 := ⟨Try.underlying73, Try.t73, by kernel_rfl, rfl, rfl, rfl⟩
def ti74 : TI := { desc := (Go.TypeDesc.array 2 57), size := 6, bytes := 80, zero := (Go.Value.agg #[Go.Value.slice none 0 0, Go.Value.int Go.IntKind.i64 0, Go.Value.bool false, Go.Value.slice none 0 0, Go.Value.int Go.IntKind.i64 0, Go.Value.bool false]) }
theorem tok74 : TOk Try.prog 74 ti74 := ⟨Try.underlying74, Try.t74, by kernel_rfl, rfl, rfl, rfl⟩
def ti75 : TI := { desc := (Go.TypeDesc.func #[3, 3] #[49] false), size := 1, bytes := 8, zero := Go.Value.nilFunc }
theorem tok75 : TOk Try.prog 75 ti75 := ⟨Try.underlying75, Try.t75, by kernel_rfl, rfl, rfl, rfl⟩
def ti78 : TI := { desc := (Go.TypeDesc.func #[39, 49, 49] #[4] false), size := 1, bytes := 8, zero := Go.Value.nilFunc }
theorem tok78 : TOk Try.prog 78 ti78 := ⟨Try.underlying78, Try.t78, by kernel_rfl, rfl, rfl, rfl⟩
def ti80 : TI := { desc := (Go.TypeDesc.slice 88), size := 1, bytes := 24, zero := (Go.Value.slice none 0 0) }
theorem tok80 : TOk Try.prog 80 ti80 := ⟨Try.underlying80, Try.t80, by kernel_rfl, rfl, rfl, rfl⟩
def ti81 : TI := { desc := (Go.TypeDesc.struct #[{ name := "l", type := 80, offset := 0, embedded := false, tag := "", pkgPath := "damier/piece", byteOffset := 0 }, { name := "n", type := 3, offset := 1, embedded := false, tag := "", pkgPath := "damier/piece", byteOffset := 24 }]), size := 2, bytes := 32, zero := (Go.Value.agg #[Go.Value.slice none 0 0, Go.Value.int Go.IntKind.i64 0]) }
theorem tok81 : TOk Try.prog 81 ti81 := ⟨Try.underlying81, Try.t81, by kernel_rfl, rfl, rfl, rfl⟩
def ti82 : TI := { desc := (Go.TypeDesc.struct #[{ name := "l", type := 80, offset := 0, embedded := false, tag := "", pkgPath := "damier/piece", byteOffset := 0 }, { name := "n", type := 3, offset := 1, embedded := false, tag := "", pkgPath := "damier/piece", byteOffset := 24 }]), size := 2, bytes := 32, zero := (Go.Value.agg #[Go.Value.slice none 0 0, Go.Value.int Go.IntKind.i64 0]) }
theorem tok82 : TOk Try.prog 82 ti82 := ⟨Try.underlying82, Try.t82, by kernel_rfl, rfl, rfl, rfl⟩
def ti83 : TI := { desc := (Go.TypeDesc.struct #[{ name := "T", type := 82, offset := 0, embedded := false, tag := "", pkgPath := "", byteOffset := 0 }, { name := "At", type := 3, offset := 2, embedded := false, tag := "", pkgPath := "", byteOffset := 32 }]), size := 3, bytes := 40, zero := (Go.Value.agg #[Go.Value.slice none 0 0, Go.Value.int Go.IntKind.i64 0, Go.Value.int Go.IntKind.i64 0]) }
theorem tok83 : TOk Try.prog 83 ti83 := ⟨Try.underlying83, Try.t83, by kernel_rfl, rfl, rfl, rfl⟩
def ti84 : TI := { desc := (Go.TypeDesc.struct #[{ name := "T", type := 82, offset := 0, embedded := false, tag := "", pkgPath := "", byteOffset := 0 }, { name := "At", type := 3, offset := 2, embedded := false, tag := "", pkgPath := "", byteOffset := 32 }]), size := 3, bytes := 40, zero := (Go.Value.agg #[Go.Value.slice none 0 0, Go.Value.int Go.IntKind.i64 0, Go.Value.int Go.IntKind.i64 0]) }
theorem tok84 : TOk Try.prog 84 ti84 := ⟨Try.underlying84, Try.t84, by kernel_rfl, rfl, rfl, rfl⟩
def ti85 : TI := { desc := (Go.TypeDesc.func #[82, 4] #[84] false), size := 1, bytes := 8, zero := Go.Value.nilFunc }
theorem tok85 : TOk Try.prog 85 ti85 := ⟨Try.underlying85, Try.t85, by kernel_rfl, rfl, rfl, rfl⟩
def ti86 : TI := { desc := (Go.TypeDesc.func #[80] #[82] true), size := 1, bytes := 8, zero := Go.Value.nilFunc }
theorem tok86 : TOk Try.prog 86 ti86 := ⟨Try.underlying86, Try.t86, by kernel_rfl, rfl, rfl, rfl⟩
def ti88 : TI := { desc := (Go.TypeDesc.struct #[{ name := "At", type := 3, offset := 0, embedded := false, tag := "", pkgPath := "", byteOffset := 0 }, { name := "N", type := 3, offset := 1, embedded := false, tag := "", pkgPath := "", byteOffset := 8 }]), size := 2, bytes := 16, zero := (Go.Value.agg #[Go.Value.int Go.IntKind.i64 0, Go.Value.int Go.IntKind.i64 0]) }
theorem tok88 : TOk Try.prog 88 ti88 := ⟨Try.underlying88, Try.t88, by kernel_rfl, rfl, rfl, rfl⟩
def ti89 : TI := { desc := (Go.TypeDesc.struct #[{ name := "S", type := 9, offset := 0, embedded := false, tag := "", pkgPath := "", byteOffset := 0 }, { name := "At", type := 3, offset := 1, embedded := false, tag := "", pkgPath := "", byteOffset := 16 }]), size := 2, bytes := 24, zero := (Go.Value.agg #[Go.Value.string { data := #[] }, Go.Value.int Go.IntKind.i64 0]) }
theorem tok89 : TOk Try.prog 89 ti89 := ⟨Try.underlying89, Try.t89, by kernel_rfl, rfl, rfl, rfl⟩
def ti93 : TI := { desc := (Go.TypeDesc.tuple #[90, 4]), size := 1, bytes := 0, zero := (Go.Value.tuple #[Go.Value.agg #[Go.Value.string { data := #[] }, Go.Value.int Go.IntKind.i64 0], Go.Value.bool false]) }
theorem tok93 : TOk Try.prog 93 ti93 := ⟨Try.underlying93, Try.t93, by kernel_rfl, rfl, rfl, rfl⟩
def ti96 : TI := { desc := (Go.TypeDesc.func #[] #[80] false), size := 1, bytes := 8, zero := Go.Value.nilFunc }
theorem tok96 : TOk Try.prog 96 ti96 := ⟨Try.underlying96, Try.t96, by kernel_rfl, rfl, rfl, rfl⟩
def ti97 : TI := { desc := (Go.TypeDesc.func #[9, 4, 33] #[4] false), size := 1, bytes := 8, zero := Go.Value.nilFunc }
theorem tok97 : TOk Try.prog 97 ti97 := ⟨Try.underlying97, Try.t97, by kernel_rfl, rfl, rfl, rfl⟩
def ti100 : TI := { desc := (Go.TypeDesc.func #[9] #[39, 49, 57, 4] false), size := 1, bytes := 8, zero := Go.Value.nilFunc }
theorem tok100 : TOk Try.prog 100 ti100 := ⟨Try.underlying100, Try.t100, by kernel_rfl, rfl, rfl, rfl⟩
def ti105 : TI := { desc := (Go.TypeDesc.func #[57] #[9] false), size := 1, bytes := 8, zero := Go.Value.nilFunc }
theorem tok105 : TOk Try.prog 105 ti105 := ⟨Try.underlying105, Try.t105, by kernel_rfl, rfl, rfl, rfl⟩
def ti108 : TI := { desc := (Go.TypeDesc.struct #[{ name := "Text", type := 82, offset := 0, embedded := false, tag := "", pkgPath := "", byteOffset := 0 }, { name := "Raw", type := 88, offset := 2, embedded := false, tag := "", pkgPath := "", byteOffset := 32 }, { name := "Kept", type := 4, offset := 4, embedded := false, tag := "", pkgPath := "", byteOffset := 48 }]), size := 5, bytes := 56, zero := (Go.Value.agg #[Go.Value.slice none 0 0, Go.Value.int Go.IntKind.i64 0, Go.Value.int Go.IntKind.i64 0, Go.Value.int Go.IntKind.i64 0, Go.Value.bool false]) }
theorem tok108 : TOk Try.prog 108 ti108 := ⟨Try.underlying108, Try.t108, by kernel_rfl, rfl, rfl, rfl⟩
def ti112 : TI := { desc := (Go.TypeDesc.struct #[{ name := "S", type := 9, offset := 0, embedded := false, tag := "", pkgPath := "", byteOffset := 0 }, { name := "Raw", type := 9, offset := 1, embedded := false, tag := "", pkgPath := "", byteOffset := 16 }, { name := "Kept", type := 4, offset := 2, embedded := false, tag := "", pkgPath := "", byteOffset := 32 }]), size := 3, bytes := 40, zero := (Go.Value.agg #[Go.Value.string { data := #[] }, Go.Value.string { data := #[] }, Go.Value.bool false]) }
theorem tok112 : TOk Try.prog 112 ti112 := ⟨Try.underlying112, Try.t112, by kernel_rfl, rfl, rfl, rfl⟩
def ti114 : TI := { desc := (Go.TypeDesc.func #[9, 98, 3] #[4] false), size := 1, bytes := 8, zero := Go.Value.nilFunc }
theorem tok114 : TOk Try.prog 114 ti114 := ⟨Try.underlying114, Try.t114, by kernel_rfl, rfl, rfl, rfl⟩
def ti115 : TI := { desc := (Go.TypeDesc.int Go.IntKind.u64), size := 1, bytes := 8, zero := (Go.Value.int Go.IntKind.u64 0) }
theorem tok115 : TOk Try.prog 115 ti115 := ⟨Try.underlying115, Try.t115, by kernel_rfl, rfl, rfl, rfl⟩
def ti116 : TI := { desc := (Go.TypeDesc.pointer 265), size := 1, bytes := 8, zero := (Go.Value.pointer none) }
theorem tok116 : TOk Try.prog 116 ti116 := ⟨Try.underlying116, Try.t116, by kernel_rfl, rfl, rfl, rfl⟩
def ti117 : TI := { desc := (Go.TypeDesc.struct #[{ name := "root", type := 116, offset := 0, embedded := false, tag := "", pkgPath := "damier/tree", byteOffset := 0 }]), size := 1, bytes := 8, zero := (Go.Value.agg #[Go.Value.pointer none]) }
theorem tok117 : TOk Try.prog 117 ti117 := ⟨Try.underlying117, Try.t117, by kernel_rfl, rfl, rfl, rfl⟩
def ti118 : TI := { desc := (Go.TypeDesc.struct #[{ name := "root", type := 116, offset := 0, embedded := false, tag := "", pkgPath := "damier/tree", byteOffset := 0 }]), size := 1, bytes := 8, zero := (Go.Value.agg #[Go.Value.pointer none]) }
theorem tok118 : TOk Try.prog 118 ti118 := ⟨Try.underlying118, Try.t118, by kernel_rfl, rfl, rfl, rfl⟩
def ti119 : TI := { desc := (Go.TypeDesc.struct #[{ name := "Rows", type := 118, offset := 0, embedded := false, tag := "", pkgPath := "", byteOffset := 0 }, { name := "Tail", type := 4, offset := 1, embedded := false, tag := "", pkgPath := "", byteOffset := 8 }, { name := "End", type := 3, offset := 2, embedded := false, tag := "", pkgPath := "", byteOffset := 16 }]), size := 3, bytes := 24, zero := (Go.Value.agg #[Go.Value.pointer none, Go.Value.bool false, Go.Value.int Go.IntKind.i64 0]) }
theorem tok119 : TOk Try.prog 119 ti119 := ⟨Try.underlying119, Try.t119, by kernel_rfl, rfl, rfl, rfl⟩
def ti120 : TI := { desc := (Go.TypeDesc.struct #[{ name := "Rows", type := 118, offset := 0, embedded := false, tag := "", pkgPath := "", byteOffset := 0 }, { name := "Tail", type := 4, offset := 1, embedded := false, tag := "", pkgPath := "", byteOffset := 8 }, { name := "End", type := 3, offset := 2, embedded := false, tag := "", pkgPath := "", byteOffset := 16 }]), size := 3, bytes := 24, zero := (Go.Value.agg #[Go.Value.pointer none, Go.Value.bool false, Go.Value.int Go.IntKind.i64 0]) }
theorem tok120 : TOk Try.prog 120 ti120 := ⟨Try.underlying120, Try.t120, by kernel_rfl, rfl, rfl, rfl⟩
def ti121 : TI := { desc := (Go.TypeDesc.slice 57), size := 1, bytes := 24, zero := (Go.Value.slice none 0 0) }
theorem tok121 : TOk Try.prog 121 ti121 := ⟨Try.underlying121, Try.t121, by kernel_rfl, rfl, rfl, rfl⟩
def ti123 : TI := { desc := (Go.TypeDesc.struct #[{ name := "Rows", type := 121, offset := 0, embedded := false, tag := "", pkgPath := "", byteOffset := 0 }, { name := "Tail", type := 4, offset := 1, embedded := false, tag := "", pkgPath := "", byteOffset := 24 }, { name := "End", type := 3, offset := 2, embedded := false, tag := "", pkgPath := "", byteOffset := 32 }]), size := 3, bytes := 40, zero := (Go.Value.agg #[Go.Value.slice none 0 0, Go.Value.bool false, Go.Value.int Go.IntKind.i64 0]) }
theorem tok123 : TOk Try.prog 123 ti123 := ⟨Try.underlying123, Try.t123, by kernel_rfl, rfl, rfl, rfl⟩
def ti124 : TI := { desc := (Go.TypeDesc.tuple #[120, 39, 123, 4]), size := 1, bytes := 0, zero := (Go.Value.tuple #[Go.Value.agg #[Go.Value.pointer none, Go.Value.bool false, Go.Value.int Go.IntKind.i64 0], Go.Value.pointer none, Go.Value.agg #[Go.Value.slice none 0 0, Go.Value.bool false, Go.Value.int Go.IntKind.i64 0], Go.Value.bool false]) }
theorem tok124 : TOk Try.prog 124 ti124 := ⟨Try.underlying124, Try.t124, by kernel_rfl, rfl, rfl, rfl⟩
def ti126 : TI := { desc := (Go.TypeDesc.func #[120, 39, 25] #[3] false), size := 1, bytes := 8, zero := Go.Value.nilFunc }
theorem tok126 : TOk Try.prog 126 ti126 := ⟨Try.underlying126, Try.t126, by kernel_rfl, rfl, rfl, rfl⟩
def ti127 : TI := { desc := (Go.TypeDesc.tuple #[3, 3, 4]), size := 1, bytes := 0, zero := (Go.Value.tuple #[Go.Value.int Go.IntKind.i64 0, Go.Value.int Go.IntKind.i64 0, Go.Value.bool false]) }
theorem tok127 : TOk Try.prog 127 ti127 := ⟨Try.underlying127, Try.t127, by kernel_rfl, rfl, rfl, rfl⟩
def ti128 : TI := { desc := (Go.TypeDesc.func #[120, 39, 25, 3, 3] #[3, 3, 4] false), size := 1, bytes := 8, zero := Go.Value.nilFunc }
theorem tok128 : TOk Try.prog 128 ti128 := ⟨Try.underlying128, Try.t128, by kernel_rfl, rfl, rfl, rfl⟩
def ti130 : TI := { desc := (Go.TypeDesc.struct #[{ name := "R", type := 3, offset := 0, embedded := false, tag := "", pkgPath := "", byteOffset := 0 }, { name := "C", type := 3, offset := 1, embedded := false, tag := "", pkgPath := "", byteOffset := 8 }]), size := 2, bytes := 16, zero := (Go.Value.agg #[Go.Value.int Go.IntKind.i64 0, Go.Value.int Go.IntKind.i64 0]) }
theorem tok130 : TOk Try.prog 130 ti130 := ⟨Try.underlying130, Try.t130, by kernel_rfl, rfl, rfl, rfl⟩
def ti135 : TI := { desc := (Go.TypeDesc.func #[9, 3, 3] #[4] false), size := 1, bytes := 8, zero := Go.Value.nilFunc }
theorem tok135 : TOk Try.prog 135 ti135 := ⟨Try.underlying135, Try.t135, by kernel_rfl, rfl, rfl, rfl⟩
def ti136 : TI := { desc := (Go.TypeDesc.tuple #[120, 39, 40]), size := 1, bytes := 0, zero := (Go.Value.tuple #[Go.Value.agg #[Go.Value.pointer none, Go.Value.bool false, Go.Value.int Go.IntKind.i64 0], Go.Value.pointer none, Go.Value.int Go.IntKind.i64 0]) }
theorem tok136 : TOk Try.prog 136 ti136 := ⟨Try.underlying136, Try.t136, by kernel_rfl, rfl, rfl, rfl⟩
def ti138 : TI := { desc := (Go.TypeDesc.func #[189] #[] false), size := 1, bytes := 8, zero := Go.Value.nilFunc }
theorem tok138 : TOk Try.prog 138 ti138 := ⟨Try.underlying138, Try.t138, by kernel_rfl, rfl, rfl, rfl⟩
def ti139 : TI := { desc := (Go.TypeDesc.func #[189] #[] false), size := 1, bytes := 8, zero := Go.Value.nilFunc }
theorem tok139 : TOk Try.prog 139 ti139 := ⟨Try.underlying139, Try.t139, by kernel_rfl, rfl, rfl, rfl⟩
def ti140 : TI := { desc := (Go.TypeDesc.func #[25, 25] #[139] false), size := 1, bytes := 8, zero := Go.Value.nilFunc }
theorem tok140 : TOk Try.prog 140 ti140 := ⟨Try.underlying140, Try.t140, by kernel_rfl, rfl, rfl, rfl⟩
def ti142 : TI := { desc := (Go.TypeDesc.struct #[{ name := "b", type := 25, offset := 0, embedded := false, tag := "", pkgPath := "damier/arena", byteOffset := 0 }]), size := 1, bytes := 24, zero := (Go.Value.agg #[Go.Value.slice none 0 0]) }
theorem tok142 : TOk Try.prog 142 ti142 := ⟨Try.underlying142, Try.t142, by kernel_rfl, rfl, rfl, rfl⟩
def ti143 : TI := { desc := (Go.TypeDesc.pointer 145), size := 1, bytes := 8, zero := (Go.Value.pointer none) }
theorem tok143 : TOk Try.prog 143 ti143 := ⟨Try.underlying143, Try.t143, by kernel_rfl, rfl, rfl, rfl⟩
def ti145 : TI := { desc := (Go.TypeDesc.struct #[{ name := "b", type := 25, offset := 0, embedded := false, tag := "", pkgPath := "damier/scan", byteOffset := 0 }, { name := "at", type := 3, offset := 1, embedded := false, tag := "", pkgPath := "damier/scan", byteOffset := 24 }]), size := 2, bytes := 32, zero := (Go.Value.agg #[Go.Value.slice none 0 0, Go.Value.int Go.IntKind.i64 0]) }
theorem tok145 : TOk Try.prog 145 ti145 := ⟨Try.underlying145, Try.t145, by kernel_rfl, rfl, rfl, rfl⟩
def ti148 : TI := { desc := (Go.TypeDesc.struct #[{ name := "Raw", type := 88, offset := 0, embedded := false, tag := "", pkgPath := "", byteOffset := 0 }, { name := "Kind", type := 3, offset := 2, embedded := false, tag := "", pkgPath := "", byteOffset := 16 }, { name := "Parts", type := 80, offset := 3, embedded := false, tag := "", pkgPath := "", byteOffset := 24 }]), size := 4, bytes := 48, zero := (Go.Value.agg #[Go.Value.int Go.IntKind.i64 0, Go.Value.int Go.IntKind.i64 0, Go.Value.int Go.IntKind.i64 0, Go.Value.slice none 0 0]) }
theorem tok148 : TOk Try.prog 148 ti148 := ⟨Try.underlying148, Try.t148, by kernel_rfl, rfl, rfl, rfl⟩
def ti150 : TI := { desc := (Go.TypeDesc.struct #[{ name := "At", type := 3, offset := 0, embedded := false, tag := "", pkgPath := "", byteOffset := 0 }, { name := "N", type := 3, offset := 1, embedded := false, tag := "", pkgPath := "", byteOffset := 8 }]), size := 2, bytes := 16, zero := (Go.Value.agg #[Go.Value.int Go.IntKind.i64 0, Go.Value.int Go.IntKind.i64 0]) }
theorem tok150 : TOk Try.prog 150 ti150 := ⟨Try.underlying150, Try.t150, by kernel_rfl, rfl, rfl, rfl⟩
def ti152 : TI := { desc := (Go.TypeDesc.struct #[{ name := "Raw", type := 150, offset := 0, embedded := false, tag := "", pkgPath := "", byteOffset := 0 }, { name := "Kind", type := 3, offset := 2, embedded := false, tag := "", pkgPath := "", byteOffset := 16 }, { name := "Bytes", type := 33, offset := 3, embedded := false, tag := "", pkgPath := "", byteOffset := 24 }]), size := 4, bytes := 48, zero := (Go.Value.agg #[Go.Value.int Go.IntKind.i64 0, Go.Value.int Go.IntKind.i64 0, Go.Value.int Go.IntKind.i64 0, Go.Value.slice none 0 0]) }
theorem tok152 : TOk Try.prog 152 ti152 := ⟨Try.underlying152, Try.t152, by kernel_rfl, rfl, rfl, rfl⟩
def ti154 : TI := { desc := (Go.TypeDesc.func #[55, 55] #[4] false), size := 1, bytes := 8, zero := Go.Value.nilFunc }
theorem tok154 : TOk Try.prog 154 ti154 := ⟨Try.underlying154, Try.t154, by kernel_rfl, rfl, rfl, rfl⟩
def ti159 : TI := { desc := (Go.TypeDesc.func #[57, 3] #[57] false), size := 1, bytes := 8, zero := Go.Value.nilFunc }
theorem tok159 : TOk Try.prog 159 ti159 := ⟨Try.underlying159, Try.t159, by kernel_rfl, rfl, rfl, rfl⟩
def ti160 : TI := { desc := (Go.TypeDesc.func #[47, 47, 162] #[4] false), size := 1, bytes := 8, zero := Go.Value.nilFunc }
theorem tok160 : TOk Try.prog 160 ti160 := ⟨Try.underlying160, Try.t160, by kernel_rfl, rfl, rfl, rfl⟩
def ti162 : TI := { desc := (Go.TypeDesc.func #[108, 108] #[4] false), size := 1, bytes := 8, zero := Go.Value.nilFunc }
theorem tok162 : TOk Try.prog 162 ti162 := ⟨Try.underlying162, Try.t162, by kernel_rfl, rfl, rfl, rfl⟩
def ti165 : TI := { desc := (Go.TypeDesc.struct #[{ name := "From", type := 3, offset := 0, embedded := false, tag := "", pkgPath := "", byteOffset := 0 }, { name := "To", type := 3, offset := 1, embedded := false, tag := "", pkgPath := "", byteOffset := 8 }, { name := "In", type := 9, offset := 2, embedded := false, tag := "", pkgPath := "", byteOffset := 16 }, { name := "At", type := 3, offset := 3, embedded := false, tag := "", pkgPath := "", byteOffset := 32 }]), size := 4, bytes := 40, zero := (Go.Value.agg #[Go.Value.int Go.IntKind.i64 0, Go.Value.int Go.IntKind.i64 0, Go.Value.string { data := #[] }, Go.Value.int Go.IntKind.i64 0]) }
theorem tok165 : TOk Try.prog 165 ti165 := ⟨Try.underlying165, Try.t165, by kernel_rfl, rfl, rfl, rfl⟩
def ti169 : TI := { desc := (Go.TypeDesc.func #[25] #[88, 40] false), size := 1, bytes := 8, zero := Go.Value.nilFunc }
theorem tok169 : TOk Try.prog 169 ti169 := ⟨Try.underlying169, Try.t169, by kernel_rfl, rfl, rfl, rfl⟩
def ti176 : TI := { desc := (Go.TypeDesc.func #[80, 80] #[4] false), size := 1, bytes := 8, zero := Go.Value.nilFunc }
theorem tok176 : TOk Try.prog 176 ti176 := ⟨Try.underlying176, Try.t176, by kernel_rfl, rfl, rfl, rfl⟩
def ti189 : TI := { desc := (Go.TypeDesc.func #[3] #[4] false), size := 1, bytes := 8, zero := Go.Value.nilFunc }
theorem tok189 : TOk Try.prog 189 ti189 := ⟨Try.underlying189, Try.t189, by kernel_rfl, rfl, rfl, rfl⟩
def ti191 : TI := { desc := (Go.TypeDesc.int Go.IntKind.u64), size := 1, bytes := 8, zero := (Go.Value.int Go.IntKind.u64 0) }
theorem tok191 : TOk Try.prog 191 ti191 := ⟨Try.underlying191, Try.t191, by kernel_rfl, rfl, rfl, rfl⟩
def ti192 : TI := { desc := (Go.TypeDesc.tuple #[49, 4]), size := 1, bytes := 0, zero := (Go.Value.tuple #[Go.Value.agg #[Go.Value.slice none 0 0, Go.Value.int Go.IntKind.i64 0, Go.Value.bool false], Go.Value.bool false]) }
theorem tok192 : TOk Try.prog 192 ti192 := ⟨Try.underlying192, Try.t192, by kernel_rfl, rfl, rfl, rfl⟩
def ti194 : TI := { desc := (Go.TypeDesc.tuple #[120, 40]), size := 1, bytes := 0, zero := (Go.Value.tuple #[Go.Value.agg #[Go.Value.pointer none, Go.Value.bool false, Go.Value.int Go.IntKind.i64 0], Go.Value.int Go.IntKind.i64 0]) }
theorem tok194 : TOk Try.prog 194 ti194 := ⟨Try.underlying194, Try.t194, by kernel_rfl, rfl, rfl, rfl⟩
def ti195 : TI := { desc := (Go.TypeDesc.func #[3, 49] #[120, 40] false), size := 1, bytes := 8, zero := Go.Value.nilFunc }
theorem tok195 : TOk Try.prog 195 ti195 := ⟨Try.underlying195, Try.t195, by kernel_rfl, rfl, rfl, rfl⟩
def ti196 : TI := { desc := (Go.TypeDesc.tuple #[123, 40]), size := 1, bytes := 0, zero := (Go.Value.tuple #[Go.Value.agg #[Go.Value.slice none 0 0, Go.Value.bool false, Go.Value.int Go.IntKind.i64 0], Go.Value.int Go.IntKind.i64 0]) }
theorem tok196 : TOk Try.prog 196 ti196 := ⟨Try.underlying196, Try.t196, by kernel_rfl, rfl, rfl, rfl⟩
def ti198 : TI := { desc := (Go.TypeDesc.func #[203] #[] false), size := 1, bytes := 8, zero := Go.Value.nilFunc }
theorem tok198 : TOk Try.prog 198 ti198 := ⟨Try.underlying198, Try.t198, by kernel_rfl, rfl, rfl, rfl⟩
def ti199 : TI := { desc := (Go.TypeDesc.func #[203] #[] false), size := 1, bytes := 8, zero := Go.Value.nilFunc }
theorem tok199 : TOk Try.prog 199 ti199 := ⟨Try.underlying199, Try.t199, by kernel_rfl, rfl, rfl, rfl⟩
def ti202 : TI := { desc := (Go.TypeDesc.struct #[{ name := "r", type := 3, offset := 0, embedded := false, tag := "", pkgPath := "damier/find", byteOffset := 0 }, { name := "c", type := 3, offset := 1, embedded := false, tag := "", pkgPath := "damier/find", byteOffset := 8 }]), size := 2, bytes := 16, zero := (Go.Value.agg #[Go.Value.int Go.IntKind.i64 0, Go.Value.int Go.IntKind.i64 0]) }
theorem tok202 : TOk Try.prog 202 ti202 := ⟨Try.underlying202, Try.t202, by kernel_rfl, rfl, rfl, rfl⟩
def ti203 : TI := { desc := (Go.TypeDesc.func #[202] #[4] false), size := 1, bytes := 8, zero := Go.Value.nilFunc }
theorem tok203 : TOk Try.prog 203 ti203 := ⟨Try.underlying203, Try.t203, by kernel_rfl, rfl, rfl, rfl⟩
def ti208 : TI := { desc := (Go.TypeDesc.slice 49), size := 1, bytes := 24, zero := (Go.Value.slice none 0 0) }
theorem tok208 : TOk Try.prog 208 ti208 := ⟨Try.underlying208, Try.t208, by kernel_rfl, rfl, rfl, rfl⟩
def ti210 : TI := { desc := (Go.TypeDesc.tuple #[4, 3]), size := 1, bytes := 0, zero := (Go.Value.tuple #[Go.Value.bool false, Go.Value.int Go.IntKind.i64 0]) }
theorem tok210 : TOk Try.prog 210 ti210 := ⟨Try.underlying210, Try.t210, by kernel_rfl, rfl, rfl, rfl⟩
def ti220 : TI := { desc := (Go.TypeDesc.pointer 82), size := 1, bytes := 8, zero := (Go.Value.pointer none) }
theorem tok220 : TOk Try.prog 220 ti220 := ⟨Try.underlying220, Try.t220, by kernel_rfl, rfl, rfl, rfl⟩
def ti221 : TI := { desc := (Go.TypeDesc.tuple #[88, 4]), size := 1, bytes := 0, zero := (Go.Value.tuple #[Go.Value.agg #[Go.Value.int Go.IntKind.i64 0, Go.Value.int Go.IntKind.i64 0], Go.Value.bool false]) }
theorem tok221 : TOk Try.prog 221 ti221 := ⟨Try.underlying221, Try.t221, by kernel_rfl, rfl, rfl, rfl⟩
def ti235 : TI := { desc := (Go.TypeDesc.tuple #[118, 4]), size := 1, bytes := 0, zero := (Go.Value.tuple #[Go.Value.agg #[Go.Value.pointer none], Go.Value.bool false]) }
theorem tok235 : TOk Try.prog 235 ti235 := ⟨Try.underlying235, Try.t235, by kernel_rfl, rfl, rfl, rfl⟩
def ti239 : TI := { desc := (Go.TypeDesc.func #[108] #[4] false), size := 1, bytes := 8, zero := Go.Value.nilFunc }
theorem tok239 : TOk Try.prog 239 ti239 := ⟨Try.underlying239, Try.t239, by kernel_rfl, rfl, rfl, rfl⟩
def ti240 : TI := { desc := (Go.TypeDesc.func #[269] #[] false), size := 1, bytes := 8, zero := Go.Value.nilFunc }
theorem tok240 : TOk Try.prog 240 ti240 := ⟨Try.underlying240, Try.t240, by kernel_rfl, rfl, rfl, rfl⟩
def ti241 : TI := { desc := (Go.TypeDesc.func #[269] #[] false), size := 1, bytes := 8, zero := Go.Value.nilFunc }
theorem tok241 : TOk Try.prog 241 ti241 := ⟨Try.underlying241, Try.t241, by kernel_rfl, rfl, rfl, rfl⟩
def ti246 : TI := { desc := (Go.TypeDesc.slice 116), size := 1, bytes := 24, zero := (Go.Value.slice none 0 0) }
theorem tok246 : TOk Try.prog 246 ti246 := ⟨Try.underlying246, Try.t246, by kernel_rfl, rfl, rfl, rfl⟩
def ti248 : TI := { desc := (Go.TypeDesc.tuple #[3, 80]), size := 1, bytes := 0, zero := (Go.Value.tuple #[Go.Value.int Go.IntKind.i64 0, Go.Value.slice none 0 0]) }
theorem tok248 : TOk Try.prog 248 ti248 := ⟨Try.underlying248, Try.t248, by kernel_rfl, rfl, rfl, rfl⟩
def ti261 : TI := { desc := (Go.TypeDesc.tuple #[3, 3]), size := 1, bytes := 0, zero := (Go.Value.tuple #[Go.Value.int Go.IntKind.i64 0, Go.Value.int Go.IntKind.i64 0]) }
theorem tok261 : TOk Try.prog 261 ti261 := ⟨Try.underlying261, Try.t261, by kernel_rfl, rfl, rfl, rfl⟩
def ti265 : TI := { desc := (Go.TypeDesc.struct #[{ name := "Kids", type := 246, offset := 0, embedded := false, tag := "", pkgPath := "", byteOffset := 0 }, { name := "Items", type := 208, offset := 1, embedded := false, tag := "", pkgPath := "", byteOffset := 24 }, { name := "N", type := 3, offset := 2, embedded := false, tag := "", pkgPath := "", byteOffset := 48 }]), size := 3, bytes := 56, zero := (Go.Value.agg #[Go.Value.slice none 0 0, Go.Value.slice none 0 0, Go.Value.int Go.IntKind.i64 0]) }
theorem tok265 : TOk Try.prog 265 ti265 := ⟨Try.underlying265, Try.t265, by kernel_rfl, rfl, rfl, rfl⟩
def ti269 : TI := { desc := (Go.TypeDesc.func #[3, 49] #[4] false), size := 1, bytes := 8, zero := Go.Value.nilFunc }
theorem tok269 : TOk Try.prog 269 ti269 := ⟨Try.underlying269, Try.t269, by kernel_rfl, rfl, rfl, rfl⟩
def ti270 : TI := { desc := (Go.TypeDesc.slice 278), size := 1, bytes := 24, zero := (Go.Value.slice none 0 0) }
theorem tok270 : TOk Try.prog 270 ti270 := ⟨Try.underlying270, Try.t270, by kernel_rfl, rfl, rfl, rfl⟩
def ti272 : TI := { desc := (Go.TypeDesc.struct #[{ name := "l", type := 270, offset := 0, embedded := false, tag := "", pkgPath := "damier/walk", byteOffset := 0 }]), size := 1, bytes := 24, zero := (Go.Value.agg #[Go.Value.slice none 0 0]) }
theorem tok272 : TOk Try.prog 272 ti272 := ⟨Try.underlying272, Try.t272, by kernel_rfl, rfl, rfl, rfl⟩
def ti275 : TI := { desc := (Go.TypeDesc.pointer 278), size := 1, bytes := 8, zero := (Go.Value.pointer none) }
theorem tok275 : TOk Try.prog 275 ti275 := ⟨Try.underlying275, Try.t275, by kernel_rfl, rfl, rfl, rfl⟩
def ti278 : TI := { desc := (Go.TypeDesc.struct #[{ name := "n", type := 116, offset := 0, embedded := false, tag := "", pkgPath := "damier/walk", byteOffset := 0 }, { name := "first", type := 3, offset := 1, embedded := false, tag := "", pkgPath := "damier/walk", byteOffset := 8 }, { name := "next", type := 3, offset := 2, embedded := false, tag := "", pkgPath := "damier/walk", byteOffset := 16 }]), size := 3, bytes := 24, zero := (Go.Value.agg #[Go.Value.pointer none, Go.Value.int Go.IntKind.i64 0, Go.Value.int Go.IntKind.i64 0]) }
theorem tok278 : TOk Try.prog 278 ti278 := ⟨Try.underlying278, Try.t278, by kernel_rfl, rfl, rfl, rfl⟩
def ti280 : TI := { desc := (Go.TypeDesc.slice 208), size := 1, bytes := 24, zero := (Go.Value.slice none 0 0) }
theorem tok280 : TOk Try.prog 280 ti280 := ⟨Try.underlying280, Try.t280, by kernel_rfl, rfl, rfl, rfl⟩
def ti283 : TI := { desc := (Go.TypeDesc.slice 88), size := 1, bytes := 24, zero := (Go.Value.slice none 0 0) }
theorem tok283 : TOk Try.prog 283 ti283 := ⟨Try.underlying283, Try.t283, by kernel_rfl, rfl, rfl, rfl⟩
def ti292 : TI := { desc := (Go.TypeDesc.pointer 272), size := 1, bytes := 8, zero := (Go.Value.pointer none) }
theorem tok292 : TOk Try.prog 292 ti292 := ⟨Try.underlying292, Try.t292, by kernel_rfl, rfl, rfl, rfl⟩
def ti293 : TI := { desc := (Go.TypeDesc.slice 246), size := 1, bytes := 24, zero := (Go.Value.slice none 0 0) }
theorem tok293 : TOk Try.prog 293 ti293 := ⟨Try.underlying293, Try.t293, by kernel_rfl, rfl, rfl, rfl⟩
def ti296 : TI := { desc := (Go.TypeDesc.pointer 283), size := 1, bytes := 8, zero := (Go.Value.pointer none) }
theorem tok296 : TOk Try.prog 296 ti296 := ⟨Try.underlying296, Try.t296, by kernel_rfl, rfl, rfl, rfl⟩
def tab : List (TypeId × TI) := [(0, ti0), (1, ti1), (2, ti2), (3, ti3), (4, ti4), (5, ti5), (6, ti6), (7, ti7), (8, ti8), (9, ti9), (10, ti10), (11, ti11), (12, ti12), (13, ti13), (14, ti14), (15, ti15), (16, ti16), (17, ti17), (18, ti18), (19, ti19), (20, ti20), (21, ti21), (22, ti22), (23, ti23), (24, ti24), (25, ti25), (26, ti26), (27, ti27), (28, ti28), (30, ti30), (31, ti31), (32, ti32), (33, ti33), (35, ti35), (39, ti39), (40, ti40), (41, ti41), (42, ti42), (43, ti43), (45, ti45), (47, ti47), (48, ti48), (49, ti49), (50, ti50), (51, ti51), (52, ti52), (54, ti54), (55, ti55), (56, ti56), (57, ti57), (58, ti58), (59, ti59), (60, ti60), (62, ti62), (63, ti63), (65, ti65), (66, ti66), (68, ti68), (71, ti71), (72, ti72), (73, ti73), (74, ti74), (75, ti75), (78, ti78), (80, ti80), (81, ti81), (82, ti82), (83, ti83), (84, ti84), (85, ti85), (86, ti86), (88, ti88), (89, ti89), (93, ti93), (96, ti96), (97, ti97), (100, ti100), (105, ti105), (108, ti108), (112, ti112), (114, ti114), (115, ti115), (116, ti116), (117, ti117), (118, ti118), (119, ti119), (120, ti120), (121, ti121), (123, ti123), (124, ti124), (126, ti126), (127, ti127), (128, ti128), (130, ti130), (135, ti135), (136, ti136), (138, ti138), (139, ti139), (140, ti140), (142, ti142), (143, ti143), (145, ti145), (148, ti148), (150, ti150), (152, ti152), (154, ti154), (159, ti159), (160, ti160), (162, ti162), (165, ti165), (169, ti169), (176, ti176), (189, ti189), (191, ti191), (192, ti192), (194, ti194), (195, ti195), (196, ti196), (198, ti198), (199, ti199), (202, ti202), (203, ti203), (208, ti208), (210, ti210), (220, ti220), (221, ti221), (235, ti235), (239, ti239), (240, ti240), (241, ti241), (246, ti246), (248, ti248), (261, ti261), (265, ti265), (269, ti269), (270, ti270), (272, ti272), (275, ti275), (278, ti278), (280, ti280), (283, ti283), (292, ti292), (293, ti293), (296, ti296)]
set_option maxRecDepth 100000 in
theorem tabOk : AllT Try.prog tab := .cons tok0 (.cons tok1 (.cons tok2 (.cons tok3 (.cons tok4 (.cons tok5 (.cons tok6 (.cons tok7 (.cons tok8 (.cons tok9 (.cons tok10 (.cons tok11 (.cons tok12 (.cons tok13 (.cons tok14 (.cons tok15 (.cons tok16 (.cons tok17 (.cons tok18 (.cons tok19 (.cons tok20 (.cons tok21 (.cons tok22 (.cons tok23 (.cons tok24 (.cons tok25 (.cons tok26 (.cons tok27 (.cons tok28 (.cons tok30 (.cons tok31 (.cons tok32 (.cons tok33 (.cons tok35 (.cons tok39 (.cons tok40 (.cons tok41 (.cons tok42 (.cons tok43 (.cons tok45 (.cons tok47 (.cons tok48 (.cons tok49 (.cons tok50 (.cons tok51 (.cons tok52 (.cons tok54 (.cons tok55 (.cons tok56 (.cons tok57 (.cons tok58 (.cons tok59 (.cons tok60 (.cons tok62 (.cons tok63 (.cons tok65 (.cons tok66 (.cons tok68 (.cons tok71 (.cons tok72 (.cons tok73 (.cons tok74 (.cons tok75 (.cons tok78 (.cons tok80 (.cons tok81 (.cons tok82 (.cons tok83 (.cons tok84 (.cons tok85 (.cons tok86 (.cons tok88 (.cons tok89 (.cons tok93 (.cons tok96 (.cons tok97 (.cons tok100 (.cons tok105 (.cons tok108 (.cons tok112 (.cons tok114 (.cons tok115 (.cons tok116 (.cons tok117 (.cons tok118 (.cons tok119 (.cons tok120 (.cons tok121 (.cons tok123 (.cons tok124 (.cons tok126 (.cons tok127 (.cons tok128 (.cons tok130 (.cons tok135 (.cons tok136 (.cons tok138 (.cons tok139 (.cons tok140 (.cons tok142 (.cons tok143 (.cons tok145 (.cons tok148 (.cons tok150 (.cons tok152 (.cons tok154 (.cons tok159 (.cons tok160 (.cons tok162 (.cons tok165 (.cons tok169 (.cons tok176 (.cons tok189 (.cons tok191 (.cons tok192 (.cons tok194 (.cons tok195 (.cons tok196 (.cons tok198 (.cons tok199 (.cons tok202 (.cons tok203 (.cons tok208 (.cons tok210 (.cons tok220 (.cons tok221 (.cons tok235 (.cons tok239 (.cons tok240 (.cons tok241 (.cons tok246 (.cons tok248 (.cons tok261 (.cons tok265 (.cons tok269 (.cons tok270 (.cons tok272 (.cons tok275 (.cons tok278 (.cons tok280 (.cons tok283 (.cons tok292 (.cons tok293 (.cons tok296 (.nil))))))))))))))))))))))))))))))))))))))))))))))))))))))))))))))))))))))))))))))))))))))))))))))))))))))))))))))))))))))))))))))))))))))))))))))))
noncomputable def X : Prg := { P := Try.prog, tab := tab, tok := tabOk.lkT }
end Go.Proofs.Ytbcbggdgkdfciaa.S
