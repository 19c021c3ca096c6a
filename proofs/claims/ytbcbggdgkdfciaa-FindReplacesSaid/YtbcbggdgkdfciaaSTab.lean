/- The types of the program, as a table. -/
import Derived.Test.YtbcbggdgkdfciaaSF
import Derived.Test.YtbcbggdgkdfciaaProg
import Derived.KernelRfl
namespace Go.Proofs.Ytbcbggdgkdfciaa.S
open Go Go.Sm
def ti0 : TI := { desc := (Go.TypeDesc.tuple #[]), size := 1, bytes := 0, zero := (Go.Value.tuple #[]) }
theorem tok0 : TOk Try.prog 0 ti0 := ⟨Try.underlying0, Try.t0, by kernel_rfl, rfl, rfl, rfl⟩
def ti1 : TI := { desc := (Go.TypeDesc.func #[] #[] false), size := 1, bytes := 8, zero := Go.Value.nilFunc }
theorem tok1 : TOk Try.prog 1 ti1 := ⟨Try.underlying1, Try.t1, by kernel_rfl, rfl, rfl, rfl⟩
def ti2 : TI := { desc := (Go.TypeDesc.int Go.IntKind.i64), size := 1, bytes := 8, zero := (Go.Value.int Go.IntKind.i64 0) }
theorem tok2 : TOk Try.prog 2 ti2 := ⟨Try.underlying2, Try.t2, by kernel_rfl, rfl, rfl, rfl⟩
def ti3 : TI := { desc := (Go.TypeDesc.int Go.IntKind.i64), size := 1, bytes := 8, zero := (Go.Value.int Go.IntKind.i64 0) }
theorem tok3 : TOk Try.prog 3 ti3 := ⟨Try.underlying3, Try.t3, by kernel_rfl, rfl, rfl, rfl⟩
def ti4 : TI := { desc := Go.TypeDesc.bool, size := 1, bytes := 1, zero := (Go.Value.bool false) }
theorem tok4 : TOk Try.prog 4 ti4 := ⟨Try.underlying4, Try.t4, by kernel_rfl, rfl, rfl, rfl⟩
def ti5 : TI := { desc := (Go.TypeDesc.int Go.IntKind.u8), size := 1, bytes := 1, zero := (Go.Value.int Go.IntKind.u8 0) }
theorem tok5 : TOk Try.prog 5 ti5 := ⟨Try.underlying5, Try.t5, by kernel_rfl, rfl, rfl, rfl⟩
def ti6 : TI := { desc := (Go.TypeDesc.int Go.IntKind.u8), size := 1, bytes := 1, zero := (Go.Value.int Go.IntKind.u8 0) }
theorem tok6 : TOk Try.prog 6 ti6 := ⟨Try.underlying6, Try.t6, by kernel_rfl, rfl, rfl, rfl⟩
def ti7 : TI := { desc := (Go.TypeDesc.struct #[{ name := "x", type := 2, offset := 0, embedded := false, tag := "", pkgPath := "runtime", byteOffset := 0 }, { name := "y", type := 3, offset := 1, embedded := false, tag := "", pkgPath := "runtime", byteOffset := 8 }, { name := "signed", type := 4, offset := 2, embedded := false, tag := "", pkgPath := "runtime", byteOffset := 16 }, { name := "code", type := 6, offset := 3, embedded := false, tag := "", pkgPath := "runtime", byteOffset := 17 }]), size := 4, bytes := 24, zero := (Go.Value.agg #[Go.Value.int Go.IntKind.i64 0, Go.Value.int Go.IntKind.i64 0, Go.Value.bool false, Go.Value.int Go.IntKind.u8 0]) }
theorem tok7 : TOk Try.prog 7 ti7 := ⟨Try.underlying7, Try.t7, by kernel_rfl, rfl, rfl, rfl⟩
def ti8 : TI := { desc := (Go.TypeDesc.struct #[{ name := "x", type := 2, offset := 0, embedded := false, tag := "", pkgPath := "runtime", byteOffset := 0 }, { name := "y", type := 3, offset := 1, embedded := false, tag := "", pkgPath := "runtime", byteOffset := 8 }, { name := "signed", type := 4, offset := 2, embedded := false, tag := "", pkgPath := "runtime", byteOffset := 16 }, { name := "code", type := 6, offset := 3, embedded := false, tag := "", pkgPath := "runtime", byteOffset := 17 }]), size := 4, bytes := 24, zero := (Go.Value.agg #[Go.Value.int Go.IntKind.i64 0, Go.Value.int Go.IntKind.i64 0, Go.Value.bool false, Go.Value.int Go.IntKind.u8 0]) }
theorem tok8 : TOk Try.prog 8 ti8 := ⟨Try.underlying8, Try.t8, by kernel_rfl, rfl, rfl, rfl⟩
def ti9 : TI := { desc := Go.TypeDesc.string, size := 1, bytes := 16, zero := (Go.Value.string { data := #[] }) }
theorem tok9 : TOk Try.prog 9 ti9 := ⟨Try.underlying9, Try.t9, by kernel_rfl, rfl, rfl, rfl⟩
def ti10 : TI := { desc := Go.TypeDesc.string, size := 1, bytes := 16, zero := (Go.Value.string { data := #[] }) }
theorem tok10 : TOk Try.prog 10 ti10 := ⟨Try.underlying10, Try.t10, by kernel_rfl, rfl, rfl, rfl⟩
def ti11 : TI := { desc := Go.TypeDesc.string, size := 1, bytes := 16, zero := (Go.Value.string { data := #[] }) }
theorem tok11 : TOk Try.prog 11 ti11 := ⟨Try.underlying11, Try.t11, by kernel_rfl, rfl, rfl, rfl⟩
def ti12 : TI := { desc := (Go.TypeDesc.int Go.IntKind.u64), size := 1, bytes := 8, zero := (Go.Value.int Go.IntKind.u64 0) }
theorem tok12 : TOk Try.prog 12 ti12 := ⟨Try.underlying12, Try.t12, by kernel_rfl, rfl, rfl, rfl⟩
def ti13 : TI := { desc := (Go.TypeDesc.struct #[{ name := "msg", type := 9, offset := 0, embedded := false, tag := "", pkgPath := "runtime", byteOffset := 0 }, { name := "addr", type := 12, offset := 1, embedded := false, tag := "", pkgPath := "runtime", byteOffset := 16 }]), size := 2, bytes := 24, zero := (Go.Value.agg #[Go.Value.string { data := #[] }, Go.Value.int Go.IntKind.u64 0]) }
theorem tok13 : TOk Try.prog 13 ti13 := ⟨Try.underlying13, Try.t13, by kernel_rfl, rfl, rfl, rfl⟩
def ti14 : TI := { desc := (Go.TypeDesc.struct #[{ name := "msg", type := 9, offset := 0, embedded := false, tag := "", pkgPath := "runtime", byteOffset := 0 }, { name := "addr", type := 12, offset := 1, embedded := false, tag := "", pkgPath := "runtime", byteOffset := 16 }]), size := 2, bytes := 24, zero := (Go.Value.agg #[Go.Value.string { data := #[] }, Go.Value.int Go.IntKind.u64 0]) }
theorem tok14 : TOk Try.prog 14 ti14 := ⟨Try.underlying14, Try.t14, by kernel_rfl, rfl, rfl, rfl⟩
def ti15 : TI := { desc := (Go.TypeDesc.pointer 304), size := 1, bytes := 8, zero := (Go.Value.pointer none) }
theorem tok15 : TOk Try.prog 15 ti15 := ⟨Try.underlying15, Try.t15, by kernel_rfl, rfl, rfl, rfl⟩
def ti16 : TI := { desc := (Go.TypeDesc.pointer 307), size := 1, bytes := 8, zero := (Go.Value.pointer none) }
theorem tok16 : TOk Try.prog 16 ti16 := ⟨Try.underlying16, Try.t16, by kernel_rfl, rfl, rfl, rfl⟩
def ti17 : TI := { desc := (Go.TypeDesc.pointer 315), size := 1, bytes := 8, zero := (Go.Value.pointer none) }
theorem tok17 : TOk Try.prog 17 ti17 := ⟨Try.underlying17, Try.t17, by kernel_rfl, rfl, rfl, rfl⟩
def ti18 : TI := { desc := (Go.TypeDesc.struct #[{ name := "typ", type := 17, offset := 0, embedded := false, tag := "", pkgPath := "internal/runtime/maps", byteOffset := 0 }]), size := 1, bytes := 8, zero := (Go.Value.agg #[Go.Value.pointer none]) }
theorem tok18 : TOk Try.prog 18 ti18 := ⟨Try.underlying18, Try.t18, by kernel_rfl, rfl, rfl, rfl⟩
def ti19 : TI := { desc := (Go.TypeDesc.struct #[{ name := "typ", type := 17, offset := 0, embedded := false, tag := "", pkgPath := "internal/runtime/maps", byteOffset := 0 }]), size := 1, bytes := 8, zero := (Go.Value.agg #[Go.Value.pointer none]) }
theorem tok19 : TOk Try.prog 19 ti19 := ⟨Try.underlying19, Try.t19, by kernel_rfl, rfl, rfl, rfl⟩
def ti20 : TI := { desc := (Go.TypeDesc.interface #[]), size := 1, bytes := 16, zero := Go.Value.nilIface }
theorem tok20 : TOk Try.prog 20 ti20 := ⟨Try.underlying20, Try.t20, by kernel_rfl, rfl, rfl, rfl⟩
def ti21 : TI := { desc := (Go.TypeDesc.int Go.IntKind.i32), size := 1, bytes := 4, zero := (Go.Value.int Go.IntKind.i32 0) }
theorem tok21 : TOk Try.prog 21 ti21 := ⟨Try.underlying21, Try.t21, by kernel_rfl, rfl, rfl, rfl⟩
def ti22 : TI := { desc := (Go.TypeDesc.struct #[{ name := "P", type := 9, offset := 0, embedded := false, tag := "", pkgPath := "", byteOffset := 0 }, { name := "With", type := 9, offset := 1, embedded := false, tag := "", pkgPath := "", byteOffset := 16 }, { name := "All", type := 4, offset := 2, embedded := false, tag := "", pkgPath := "", byteOffset := 32 }]), size := 3, bytes := 40, zero := (Go.Value.agg #[Go.Value.string { data := #[] }, Go.Value.string { data := #[] }, Go.Value.bool false]) }
theorem tok22 : TOk Try.prog 22 ti22 := ⟨Try.underlying22, Try.t22, by kernel_rfl, rfl, rfl, rfl⟩
def ti23 : TI := { desc := (Go.TypeDesc.struct #[{ name := "P", type := 9, offset := 0, embedded := false, tag := "", pkgPath := "", byteOffset := 0 }, { name := "With", type := 9, offset := 1, embedded := false, tag := "", pkgPath := "", byteOffset := 16 }, { name := "All", type := 4, offset := 2, embedded := false, tag := "", pkgPath := "", byteOffset := 32 }]), size := 3, bytes := 40, zero := (Go.Value.agg #[Go.Value.string { data := #[] }, Go.Value.string { data := #[] }, Go.Value.bool false]) }
theorem tok23 : TOk Try.prog 23 ti23 := ⟨Try.underlying23, Try.t23, by kernel_rfl, rfl, rfl, rfl⟩
def ti24 : TI := { desc := (Go.TypeDesc.func #[9, 3] #[9] false), size := 1, bytes := 8, zero := Go.Value.nilFunc }
theorem tok24 : TOk Try.prog 24 ti24 := ⟨Try.underlying24, Try.t24, by kernel_rfl, rfl, rfl, rfl⟩
def ti25 : TI := { desc := (Go.TypeDesc.slice 5), size := 1, bytes := 24, zero := (Go.Value.slice none 0 0) }
theorem tok25 : TOk Try.prog 25 ti25 := ⟨Try.underlying25, Try.t25, by kernel_rfl, rfl, rfl, rfl⟩
def ti26 : TI := { desc := (Go.TypeDesc.tuple #[25, 3]), size := 1, bytes := 0, zero := (Go.Value.tuple #[Go.Value.slice none 0 0, Go.Value.int Go.IntKind.i64 0]) }
theorem tok26 : TOk Try.prog 26 ti26 := ⟨Try.underlying26, Try.t26, by kernel_rfl, rfl, rfl, rfl⟩
def ti27 : TI := { desc := (Go.TypeDesc.func #[25, 25, 25, 4] #[25, 3] false), size := 1, bytes := 8, zero := Go.Value.nilFunc }
theorem tok27 : TOk Try.prog 27 ti27 := ⟨Try.underlying27, Try.t27, by kernel_rfl, rfl, rfl, rfl⟩
def ti28 : TI := { desc := (Go.TypeDesc.tuple #[9, 3]), size := 1, bytes := 0, zero := (Go.Value.tuple #[Go.Value.string { data := #[] }, Go.Value.int Go.IntKind.i64 0]) }
theorem tok28 : TOk Try.prog 28 ti28 := ⟨Try.underlying28, Try.t28, by kernel_rfl, rfl, rfl, rfl⟩
def ti29 : TI := { desc := (Go.TypeDesc.func #[9, 9, 9, 4] #[9, 3] false), size := 1, bytes := 8, zero := Go.Value.nilFunc }
theorem tok29 : TOk Try.prog 29 ti29 := ⟨Try.underlying29, Try.t29, by kernel_rfl, rfl, rfl, rfl⟩
def ti30 : TI := { desc := (Go.TypeDesc.func #[] #[4] false), size := 1, bytes := 8, zero := Go.Value.nilFunc }
theorem tok30 : TOk Try.prog 30 ti30 := ⟨Try.underlying30, Try.t30, by kernel_rfl, rfl, rfl, rfl⟩
def ti31 : TI := { desc := (Go.TypeDesc.func #[9, 23] #[4] false), size := 1, bytes := 8, zero := Go.Value.nilFunc }
theorem tok31 : TOk Try.prog 31 ti31 := ⟨Try.underlying31, Try.t31, by kernel_rfl, rfl, rfl, rfl⟩
def ti32 : TI := { desc := (Go.TypeDesc.func #[33, 33] #[4] false), size := 1, bytes := 8, zero := Go.Value.nilFunc }
theorem tok32 : TOk Try.prog 32 ti32 := ⟨Try.underlying32, Try.t32, by kernel_rfl, rfl, rfl, rfl⟩
def ti33 : TI := { desc := (Go.TypeDesc.slice 3), size := 1, bytes := 24, zero := (Go.Value.slice none 0 0) }
theorem tok33 : TOk Try.prog 33 ti33 := ⟨Try.underlying33, Try.t33, by kernel_rfl, rfl, rfl, rfl⟩
def ti34 : TI := { desc := (Go.TypeDesc.func #[25, 25] #[33] false), size := 1, bytes := 8, zero := Go.Value.nilFunc }
theorem tok34 : TOk Try.prog 34 ti34 := ⟨Try.underlying34, Try.t34, by kernel_rfl, rfl, rfl, rfl⟩
def ti35 : TI := { desc := (Go.TypeDesc.func #[9, 9] #[33] false), size := 1, bytes := 8, zero := Go.Value.nilFunc }
theorem tok35 : TOk Try.prog 35 ti35 := ⟨Try.underlying35, Try.t35, by kernel_rfl, rfl, rfl, rfl⟩
def ti36 : TI := { desc := (Go.TypeDesc.func #[25, 25, 3] #[3] false), size := 1, bytes := 8, zero := Go.Value.nilFunc }
theorem tok36 : TOk Try.prog 36 ti36 := ⟨Try.underlying36, Try.t36, by kernel_rfl, rfl, rfl, rfl⟩
def ti37 : TI := { desc := (Go.TypeDesc.func #[9, 9, 3] #[3] false), size := 1, bytes := 8, zero := Go.Value.nilFunc }
theorem tok37 : TOk Try.prog 37 ti37 := ⟨Try.underlying37, Try.t37, by kernel_rfl, rfl, rfl, rfl⟩
def ti38 : TI := { desc := (Go.TypeDesc.func #[9, 9, 3] #[4] false), size := 1, bytes := 8, zero := Go.Value.nilFunc }
theorem tok38 : TOk Try.prog 38 ti38 := ⟨Try.underlying38, Try.t38, by kernel_rfl, rfl, rfl, rfl⟩
def ti39 : TI := { desc := (Go.TypeDesc.pointer 142), size := 1, bytes := 8, zero := (Go.Value.pointer none) }
theorem tok39 : TOk Try.prog 39 ti39 := ⟨Try.underlying39, Try.t39, by kernel_rfl, rfl, rfl, rfl⟩
def ti40 : TI := { desc := (Go.TypeDesc.int Go.IntKind.i64), size := 1, bytes := 8, zero := (Go.Value.int Go.IntKind.i64 0) }
theorem tok40 : TOk Try.prog 40 ti40 := ⟨Try.underlying40, Try.t40, by kernel_rfl, rfl, rfl, rfl⟩
def ti41 : TI := { desc := (Go.TypeDesc.tuple #[39, 40]), size := 1, bytes := 0, zero := (Go.Value.tuple #[Go.Value.pointer none, Go.Value.int Go.IntKind.i64 0]) }
theorem tok41 : TOk Try.prog 41 ti41 := ⟨Try.underlying41, Try.t41, by kernel_rfl, rfl, rfl, rfl⟩
def ti42 : TI := { desc := (Go.TypeDesc.func #[25] #[39, 40] false), size := 1, bytes := 8, zero := Go.Value.nilFunc }
theorem tok42 : TOk Try.prog 42 ti42 := ⟨Try.underlying42, Try.t42, by kernel_rfl, rfl, rfl, rfl⟩
def ti43 : TI := { desc := (Go.TypeDesc.slice 54), size := 1, bytes := 24, zero := (Go.Value.slice none 0 0) }
theorem tok43 : TOk Try.prog 43 ti43 := ⟨Try.underlying43, Try.t43, by kernel_rfl, rfl, rfl, rfl⟩
def ti44 : TI := { desc := (Go.TypeDesc.func #[25] #[43] false), size := 1, bytes := 8, zero := Go.Value.nilFunc }
theorem tok44 : TOk Try.prog 44 ti44 := ⟨Try.underlying44, Try.t44, by kernel_rfl, rfl, rfl, rfl⟩
def ti45 : TI := { desc := (Go.TypeDesc.slice 62), size := 1, bytes := 24, zero := (Go.Value.slice none 0 0) }
theorem tok45 : TOk Try.prog 45 ti45 := ⟨Try.underlying45, Try.t45, by kernel_rfl, rfl, rfl, rfl⟩
def ti46 : TI := { desc := (Go.TypeDesc.func #[9] #[45] false), size := 1, bytes := 8, zero := Go.Value.nilFunc }
theorem tok46 : TOk Try.prog 46 ti46 := ⟨Try.underlying46, Try.t46, by kernel_rfl, rfl, rfl, rfl⟩
def ti47 : TI := { desc := (Go.TypeDesc.slice 108), size := 1, bytes := 24, zero := (Go.Value.slice none 0 0) }
theorem tok47 : TOk Try.prog 47 ti47 := ⟨Try.underlying47, Try.t47, by kernel_rfl, rfl, rfl, rfl⟩
def ti48 : TI := { desc := (Go.TypeDesc.struct #[{ name := "Cells", type := 47, offset := 0, embedded := false, tag := "", pkgPath := "", byteOffset := 0 }, { name := "End", type := 3, offset := 1, embedded := false, tag := "", pkgPath := "", byteOffset := 24 }, { name := "Hidden", type := 4, offset := 2, embedded := false, tag := "", pkgPath := "", byteOffset := 32 }]), size := 3, bytes := 40, zero := (Go.Value.agg #[Go.Value.slice none 0 0, Go.Value.int Go.IntKind.i64 0, Go.Value.bool false]) }
theorem tok48 : TOk Try.prog 48 ti48 := ⟨Try.underlying48, Try.t48, by kernel_rfl, rfl, rfl, rfl⟩
def ti49 : TI := { desc := (Go.TypeDesc.struct #[{ name := "Cells", type := 47, offset := 0, embedded := false, tag := "", pkgPath := "", byteOffset := 0 }, { name := "End", type := 3, offset := 1, embedded := false, tag := "", pkgPath := "", byteOffset := 24 }, { name := "Hidden", type := 4, offset := 2, embedded := false, tag := "", pkgPath := "", byteOffset := 32 }]), size := 3, bytes := 40, zero := (Go.Value.agg #[Go.Value.slice none 0 0, Go.Value.int Go.IntKind.i64 0, Go.Value.bool false]) }
theorem tok49 : TOk Try.prog 49 ti49 := ⟨Try.underlying49, Try.t49, by kernel_rfl, rfl, rfl, rfl⟩
def ti50 : TI := { desc := (Go.TypeDesc.tuple #[49, 40]), size := 1, bytes := 0, zero := (Go.Value.tuple #[Go.Value.agg #[Go.Value.slice none 0 0, Go.Value.int Go.IntKind.i64 0, Go.Value.bool false], Go.Value.int Go.IntKind.i64 0]) }
theorem tok50 : TOk Try.prog 50 ti50 := ⟨Try.underlying50, Try.t50, by kernel_rfl, rfl, rfl, rfl⟩
def ti51 : TI := { desc := (Go.TypeDesc.func #[54] #[49, 40] false), size := 1, bytes := 8, zero := Go.Value.nilFunc }
theorem tok51 : TOk Try.prog 51 ti51 := ⟨Try.underlying51, Try.t51, by kernel_rfl, rfl, rfl, rfl⟩
def ti52 : TI := { desc := (Go.TypeDesc.slice 148), size := 1, bytes := 24, zero := (Go.Value.slice none 0 0) }
theorem tok52 : TOk Try.prog 52 ti52 := ⟨Try.underlying52, Try.t52, by kernel_rfl, rfl, rfl, rfl⟩
def ti53 : TI := { desc := (Go.TypeDesc.struct #[{ name := "Fields", type := 52, offset := 0, embedded := false, tag := "", pkgPath := "", byteOffset := 0 }, { name := "End", type := 3, offset := 1, embedded := false, tag := "", pkgPath := "", byteOffset := 24 }]), size := 2, bytes := 32, zero := (Go.Value.agg #[Go.Value.slice none 0 0, Go.Value.int Go.IntKind.i64 0]) }
theorem tok53 : TOk Try.prog 53 ti53 := ⟨Try.underlying53, Try.t53, by kernel_rfl, rfl, rfl, rfl⟩
def ti54 : TI := { desc := (Go.TypeDesc.struct #[{ name := "Fields", type := 52, offset := 0, embedded := false, tag := "", pkgPath := "", byteOffset := 0 }, { name := "End", type := 3, offset := 1, embedded := false, tag := "", pkgPath := "", byteOffset := 24 }]), size := 2, bytes := 32, zero := (Go.Value.agg #[Go.Value.slice none 0 0, Go.Value.int Go.IntKind.i64 0]) }
theorem tok54 : TOk Try.prog 54 ti54 := ⟨Try.underlying54, Try.t54, by kernel_rfl, rfl, rfl, rfl⟩
def ti55 : TI := { desc := (Go.TypeDesc.slice 112), size := 1, bytes := 24, zero := (Go.Value.slice none 0 0) }
theorem tok55 : TOk Try.prog 55 ti55 := ⟨Try.underlying55, Try.t55, by kernel_rfl, rfl, rfl, rfl⟩
def ti56 : TI := { desc := (Go.TypeDesc.struct #[{ name := "Cells", type := 55, offset := 0, embedded := false, tag := "", pkgPath := "", byteOffset := 0 }, { name := "End", type := 3, offset := 1, embedded := false, tag := "", pkgPath := "", byteOffset := 24 }, { name := "Hidden", type := 4, offset := 2, embedded := false, tag := "", pkgPath := "", byteOffset := 32 }]), size := 3, bytes := 40, zero := (Go.Value.agg #[Go.Value.slice none 0 0, Go.Value.int Go.IntKind.i64 0, Go.Value.bool false]) }
theorem tok56 : TOk Try.prog 56 ti56 := ⟨Try.underlying56, Try.t56, by kernel_rfl, rfl, rfl, rfl⟩
def ti57 : TI := { desc := (Go.TypeDesc.struct #[{ name := "Cells", type := 55, offset := 0, embedded := false, tag := "", pkgPath := "", byteOffset := 0 }, { name := "End", type := 3, offset := 1, embedded := false, tag := "", pkgPath := "", byteOffset := 24 }, { name := "Hidden", type := 4, offset := 2, embedded := false, tag := "", pkgPath := "", byteOffset := 32 }]), size := 3, bytes := 40, zero := (Go.Value.agg #[Go.Value.slice none 0 0, Go.Value.int Go.IntKind.i64 0, Go.Value.bool false]) }
theorem tok57 : TOk Try.prog 57 ti57 := ⟨Try.underlying57, Try.t57, by kernel_rfl, rfl, rfl, rfl⟩
def ti58 : TI := { desc := (Go.TypeDesc.tuple #[57, 40]), size := 1, bytes := 0, zero := (Go.Value.tuple #[Go.Value.agg #[Go.Value.slice none 0 0, Go.Value.int Go.IntKind.i64 0, Go.Value.bool false], Go.Value.int Go.IntKind.i64 0]) }
theorem tok58 : TOk Try.prog 58 ti58 := ⟨Try.underlying58, Try.t58, by kernel_rfl, rfl, rfl, rfl⟩
def ti59 : TI := { desc := (Go.TypeDesc.func #[9, 62] #[57, 40] false), size := 1, bytes := 8, zero := Go.Value.nilFunc }
theorem tok59 : TOk Try.prog 59 ti59 := ⟨Try.underlying59, Try.t59, by kernel_rfl, rfl, rfl, rfl⟩
def ti60 : TI := { desc := (Go.TypeDesc.slice 152), size := 1, bytes := 24, zero := (Go.Value.slice none 0 0) }
theorem tok60 : TOk Try.prog 60 ti60 := ⟨Try.underlying60, Try.t60, by kernel_rfl, rfl, rfl, rfl⟩
def ti61 : TI := { desc := (Go.TypeDesc.struct #[{ name := "Fields", type := 60, offset := 0, embedded := false, tag := "", pkgPath := "", byteOffset := 0 }, { name := "End", type := 3, offset := 1, embedded := false, tag := "", pkgPath := "", byteOffset := 24 }]), size := 2, bytes := 32, zero := (Go.Value.agg #[Go.Value.slice none 0 0, Go.Value.int Go.IntKind.i64 0]) }
theorem tok61 : TOk Try.prog 61 ti61 := ⟨Try.underlying61, Try.t61, by kernel_rfl, rfl, rfl, rfl⟩
def ti62 : TI := { desc := (Go.TypeDesc.struct #[{ name := "Fields", type := 60, offset := 0, embedded := false, tag := "", pkgPath := "", byteOffset := 0 }, { name := "End", type := 3, offset := 1, embedded := false, tag := "", pkgPath := "", byteOffset := 24 }]), size := 2, bytes := 32, zero := (Go.Value.agg #[Go.Value.slice none 0 0, Go.Value.int Go.IntKind.i64 0]) }
theorem tok62 : TOk Try.prog 62 ti62 := ⟨Try.underlying62, Try.t62, by kernel_rfl, rfl, rfl, rfl⟩
def ti63 : TI := { desc := (Go.TypeDesc.func #[57, 57] #[4] false), size := 1, bytes := 8, zero := Go.Value.nilFunc }
theorem tok63 : TOk Try.prog 63 ti63 := ⟨Try.underlying63, Try.t63, by kernel_rfl, rfl, rfl, rfl⟩
def ti64 : TI := { desc := (Go.TypeDesc.func #[39, 49] #[57] false), size := 1, bytes := 8, zero := Go.Value.nilFunc }
theorem tok64 : TOk Try.prog 64 ti64 := ⟨Try.underlying64, Try.t64, by kernel_rfl, rfl, rfl, rfl⟩
def ti65 : TI := { desc := (Go.TypeDesc.tuple #[62, 3]), size := 1, bytes := 0, zero := (Go.Value.tuple #[Go.Value.agg #[Go.Value.slice none 0 0, Go.Value.int Go.IntKind.i64 0], Go.Value.int Go.IntKind.i64 0]) }
theorem tok65 : TOk Try.prog 65 ti65 := ⟨Try.underlying65, Try.t65, by kernel_rfl, rfl, rfl, rfl⟩
def ti66 : TI := { desc := (Go.TypeDesc.func #[9, 3] #[62, 3] false), size := 1, bytes := 8, zero := Go.Value.nilFunc }
theorem tok66 : TOk Try.prog 66 ti66 := ⟨Try.underlying66, Try.t66, by kernel_rfl, rfl, rfl, rfl⟩
def ti67 : TI := { desc := (Go.TypeDesc.func #[39] #[25] false), size := 1, bytes := 8, zero := Go.Value.nilFunc }
theorem tok67 : TOk Try.prog 67 ti67 := ⟨Try.underlying67, Try.t67, by kernel_rfl, rfl, rfl, rfl⟩
def ti68 : TI := { desc := (Go.TypeDesc.func #[3] #[9] false), size := 1, bytes := 8, zero := Go.Value.nilFunc }
theorem tok68 : TOk Try.prog 68 ti68 := ⟨Try.underlying68, Try.t68, by kernel_rfl, rfl, rfl, rfl⟩
def ti69 : TI := { desc := (Go.TypeDesc.func #[9] #[4] false), size := 1, bytes := 8, zero := Go.Value.nilFunc }
theorem tok69 : TOk Try.prog 69 ti69 := ⟨Try.underlying69, Try.t69, by kernel_rfl, rfl, rfl, rfl⟩
def ti70 : TI := { desc := (Go.TypeDesc.array 2 9), size := 2, bytes := 32, zero := (Go.Value.agg #[Go.Value.string { data := #[] }, Go.Value.string { data := #[] }]) }
theorem tok70 : TOk Try.prog 70 ti70 := ⟨Try.underlying70, Try.t70, by kernel_rfl, rfl, rfl, rfl⟩
def ti71 : TI := { desc := (Go.TypeDesc.array 2 3), size := 2, bytes := 16, zero := (Go.Value.agg #[Go.Value.int Go.IntKind.i64 0, Go.Value.int Go.IntKind.i64 0]) }
theorem tok71 : TOk Try.prog 71 ti71 := ⟨Try.underlying71, Try.t71, by kernel_rfl, rfl, rfl, rfl⟩
def ti72 : TI := { desc := (Go.TypeDesc.array 2 4), size := 2, bytes := 2, zero := (Go.Value.agg #[Go.Value.bool false, Go.Value.bool false]) }
theorem tok72 : TOk Try.prog 72 ti72 := ⟨Try.underlying72, Try.t72, by kernel_rfl, rfl, rfl, rfl⟩
def ti73 : TI := { desc := (Go.TypeDesc.array 2 49), size := 6, bytes := 80, zero := (Go.Value.agg #[Go.Value.slice none 0 0, Go.Value.int Go.IntKind.i64 0, Go.Value.bool false, Go.Value.slice none 0 0, Go.Value.int Go.IntKind.i64 0, Go.Value.bool false]) }
theorem tok73 : TOk Try.prog 73 ti73 := ⟨Try.underlying73, Try.t73, by kernel_rfl, rfl, rfl, rfl⟩
def ti74 : TI := { desc := (Go.TypeDesc.array 2 57), size := 6, bytes := 80, zero := (Go.Value.agg #[Go.Value.slice none 0 0, Go.Value.int Go.IntKind.i64 0, Go.Value.bool false, Go.Value.slice none 0 0, Go.Value.int Go.IntKind.i64 0, Go.Value.bool false]) }
theorem tok74 : TOk Try.prog 74 ti74 := ⟨Try.underlying74, Try.t74, by kernel_rfl, rfl, rfl, rfl⟩
def ti75 : TI := { desc := (Go.TypeDesc.func #[3, 3] #[49] false), size := 1, bytes := 8, zero := Go.Value.nilFunc }
theorem tok75 : TOk Try.prog 75 ti75 := ⟨Try.underlying75, Try.t75, by kernel_rfl, rfl, rfl, rfl⟩
def ti76 : TI := { desc := (Go.TypeDesc.func #[4] #[49] false), size := 1, bytes := 8, zero := Go.Value.nilFunc }
theorem tok76 : TOk Try.prog 76 ti76 := ⟨Try.underlying76, Try.t76, by kernel_rfl, rfl, rfl, rfl⟩
def ti77 : TI := { desc := (Go.TypeDesc.func #[3, 3] #[57] false), size := 1, bytes := 8, zero := Go.Value.nilFunc }
theorem tok77 : TOk Try.prog 77 ti77 := ⟨Try.underlying77, Try.t77, by kernel_rfl, rfl, rfl, rfl⟩
def ti78 : TI := { desc := (Go.TypeDesc.func #[39, 49, 49] #[4] false), size := 1, bytes := 8, zero := Go.Value.nilFunc }
theorem tok78 : TOk Try.prog 78 ti78 := ⟨Try.underlying78, Try.t78, by kernel_rfl, rfl, rfl, rfl⟩
def ti79 : TI := { desc := (Go.TypeDesc.func #[70, 71, 72] #[4] false), size := 1, bytes := 8, zero := Go.Value.nilFunc }
theorem tok79 : TOk Try.prog 79 ti79 := ⟨Try.underlying79, Try.t79, by kernel_rfl, rfl, rfl, rfl⟩
def ti80 : TI := { desc := (Go.TypeDesc.slice 88), size := 1, bytes := 24, zero := (Go.Value.slice none 0 0) }
theorem tok80 : TOk Try.prog 80 ti80 := ⟨Try.underlying80, Try.t80, by kernel_rfl, rfl, rfl, rfl⟩
def ti81 : TI := { desc := (Go.TypeDesc.struct #[{ name := "l", type := 80, offset := 0, embedded := false, tag := "", pkgPath := "damier/piece", byteOffset := 0 }, { name := "n", type := 3, offset := 1, embedded := false, tag := "", pkgPath := "damier/piece", byteOffset := 24 }]), size := 2, bytes := 32, zero := (Go.Value.agg #[Go.Value.slice none 0 0, Go.Value.int Go.IntKind.i64 0]) }
theorem tok81 : TOk Try.prog 81 ti81 := ⟨Try.underlying81, Try.t81, by kernel_rfl, rfl, rfl, rfl⟩
def ti82 : TI := { desc := (Go.TypeDesc.struct #[{ name := "l", type := 80, offset := 0, embedded := false, tag := "", pkgPath := "damier/piece", byteOffset := 0 }, { name := "n", type := 3, offset := 1, embedded := false, tag := "", pkgPath := "damier/piece", byteOffset := 24 }]), size := 2, bytes := 32, zero := (Go.Value.agg #[Go.Value.slice none 0 0, Go.Value.int Go.IntKind.i64 0]) }
theorem tok82 : TOk Try.prog 82 ti82 := ⟨Try.underlying82, Try.t82, by kernel_rfl, rfl, rfl, rfl⟩
def ti83 : TI := { desc := (Go.TypeDesc.struct #[{ name := "T", type := 82, offset := 0, embedded := false, tag := "", pkgPath := "", byteOffset := 0 }, { name := "At", type := 3, offset := 2, embedded := false, tag := "", pkgPath := "", byteOffset := 32 }]), size := 3, bytes := 40, zero := (Go.Value.agg #[Go.Value.slice none 0 0, Go.Value.int Go.IntKind.i64 0, Go.Value.int Go.IntKind.i64 0]) }
theorem tok83 : TOk Try.prog 83 ti83 := ⟨Try.underlying83, Try.t83, by kernel_rfl, rfl, rfl, rfl⟩
def ti84 : TI := { desc := (Go.TypeDesc.struct #[{ name := "T", type := 82, offset := 0, embedded := false, tag := "", pkgPath := "", byteOffset := 0 }, { name := "At", type := 3, offset := 2, embedded := false, tag := "", pkgPath := "", byteOffset := 32 }]), size := 3, bytes := 40, zero := (Go.Value.agg #[Go.Value.slice none 0 0, Go.Value.int Go.IntKind.i64 0, Go.Value.int Go.IntKind.i64 0]) }
theorem tok84 : TOk Try.prog 84 ti84 := ⟨Try.underlying84, Try.t84, by kernel_rfl, rfl, rfl, rfl⟩
def ti85 : TI := { desc := (Go.TypeDesc.func #[82, 4] #[84] false), size := 1, bytes := 8, zero := Go.Value.nilFunc }
theorem tok85 : TOk Try.prog 85 ti85 := ⟨Try.underlying85, Try.t85, by kernel_rfl, rfl, rfl, rfl⟩
def ti86 : TI := { desc := (Go.TypeDesc.func #[80] #[82] true), size := 1, bytes := 8, zero := Go.Value.nilFunc }
theorem tok86 : TOk Try.prog 86 ti86 := ⟨Try.underlying86, Try.t86, by kernel_rfl, rfl, rfl, rfl⟩
def ti87 : TI := { desc := (Go.TypeDesc.struct #[{ name := "At", type := 3, offset := 0, embedded := false, tag := "", pkgPath := "", byteOffset := 0 }, { name := "N", type := 3, offset := 1, embedded := false, tag := "", pkgPath := "", byteOffset := 8 }]), size := 2, bytes := 16, zero := (Go.Value.agg #[Go.Value.int Go.IntKind.i64 0, Go.Value.int Go.IntKind.i64 0]) }
theorem tok87 : TOk Try.prog 87 ti87 := ⟨Try.underlying87, Try.t87, by kernel_rfl, rfl, rfl, rfl⟩
def ti88 : TI := { desc := (Go.TypeDesc.struct #[{ name := "At", type := 3, offset := 0, embedded := false, tag := "", pkgPath := "", byteOffset := 0 }, { name := "N", type := 3, offset := 1, embedded := false, tag := "", pkgPath := "", byteOffset := 8 }]), size := 2, bytes := 16, zero := (Go.Value.agg #[Go.Value.int Go.IntKind.i64 0, Go.Value.int Go.IntKind.i64 0]) }
theorem tok88 : TOk Try.prog 88 ti88 := ⟨Try.underlying88, Try.t88, by kernel_rfl, rfl, rfl, rfl⟩
def ti89 : TI := { desc := (Go.TypeDesc.struct #[{ name := "S", type := 9, offset := 0, embedded := false, tag := "", pkgPath := "", byteOffset := 0 }, { name := "At", type := 3, offset := 1, embedded := false, tag := "", pkgPath := "", byteOffset := 16 }]), size := 2, bytes := 24, zero := (Go.Value.agg #[Go.Value.string { data := #[] }, Go.Value.int Go.IntKind.i64 0]) }
theorem tok89 : TOk Try.prog 89 ti89 := ⟨Try.underlying89, Try.t89, by kernel_rfl, rfl, rfl, rfl⟩
def ti90 : TI := { desc := (Go.TypeDesc.struct #[{ name := "S", type := 9, offset := 0, embedded := false, tag := "", pkgPath := "", byteOffset := 0 }, { name := "At", type := 3, offset := 1, embedded := false, tag := "", pkgPath := "", byteOffset := 16 }]), size := 2, bytes := 24, zero := (Go.Value.agg #[Go.Value.string { data := #[] }, Go.Value.int Go.IntKind.i64 0]) }
theorem tok90 : TOk Try.prog 90 ti90 := ⟨Try.underlying90, Try.t90, by kernel_rfl, rfl, rfl, rfl⟩
def ti91 : TI := { desc := (Go.TypeDesc.tuple #[84, 4, 40]), size := 1, bytes := 0, zero := (Go.Value.tuple #[Go.Value.agg #[Go.Value.slice none 0 0, Go.Value.int Go.IntKind.i64 0, Go.Value.int Go.IntKind.i64 0], Go.Value.bool false, Go.Value.int Go.IntKind.i64 0]) }
theorem tok91 : TOk Try.prog 91 ti91 := ⟨Try.underlying91, Try.t91, by kernel_rfl, rfl, rfl, rfl⟩
def ti92 : TI := { desc := (Go.TypeDesc.func #[39, 3] #[84, 4, 40] false), size := 1, bytes := 8, zero := Go.Value.nilFunc }
theorem tok92 : TOk Try.prog 92 ti92 := ⟨Try.underlying92, Try.t92, by kernel_rfl, rfl, rfl, rfl⟩
def ti93 : TI := { desc := (Go.TypeDesc.tuple #[90, 4]), size := 1, bytes := 0, zero := (Go.Value.tuple #[Go.Value.agg #[Go.Value.string { data := #[] }, Go.Value.int Go.IntKind.i64 0], Go.Value.bool false]) }
theorem tok93 : TOk Try.prog 93 ti93 := ⟨Try.underlying93, Try.t93, by kernel_rfl, rfl, rfl, rfl⟩
def ti94 : TI := { desc := (Go.TypeDesc.func #[90, 3] #[90, 4] false), size := 1, bytes := 8, zero := Go.Value.nilFunc }
theorem tok94 : TOk Try.prog 94 ti94 := ⟨Try.underlying94, Try.t94, by kernel_rfl, rfl, rfl, rfl⟩
def ti95 : TI := { desc := (Go.TypeDesc.func #[82, 82] #[4] false), size := 1, bytes := 8, zero := Go.Value.nilFunc }
theorem tok95 : TOk Try.prog 95 ti95 := ⟨Try.underlying95, Try.t95, by kernel_rfl, rfl, rfl, rfl⟩
def ti96 : TI := { desc := (Go.TypeDesc.func #[] #[80] false), size := 1, bytes := 8, zero := Go.Value.nilFunc }
theorem tok96 : TOk Try.prog 96 ti96 := ⟨Try.underlying96, Try.t96, by kernel_rfl, rfl, rfl, rfl⟩
def ti97 : TI := { desc := (Go.TypeDesc.func #[9, 4, 33] #[4] false), size := 1, bytes := 8, zero := Go.Value.nilFunc }
theorem tok97 : TOk Try.prog 97 ti97 := ⟨Try.underlying97, Try.t97, by kernel_rfl, rfl, rfl, rfl⟩
def ti98 : TI := { desc := (Go.TypeDesc.slice 102), size := 1, bytes := 24, zero := (Go.Value.slice none 0 0) }
theorem tok98 : TOk Try.prog 98 ti98 := ⟨Try.underlying98, Try.t98, by kernel_rfl, rfl, rfl, rfl⟩
def ti99 : TI := { desc := (Go.TypeDesc.tuple #[39, 49, 57, 4]), size := 1, bytes := 0, zero := (Go.Value.tuple #[Go.Value.pointer none, Go.Value.agg #[Go.Value.slice none 0 0, Go.Value.int Go.IntKind.i64 0, Go.Value.bool false], Go.Value.agg #[Go.Value.slice none 0 0, Go.Value.int Go.IntKind.i64 0, Go.Value.bool false], Go.Value.bool false]) }
theorem tok99 : TOk Try.prog 99 ti99 := ⟨Try.underlying99, Try.t99, by kernel_rfl, rfl, rfl, rfl⟩
def ti100 : TI := { desc := (Go.TypeDesc.func #[9] #[39, 49, 57, 4] false), size := 1, bytes := 8, zero := Go.Value.nilFunc }
theorem tok100 : TOk Try.prog 100 ti100 := ⟨Try.underlying100, Try.t100, by kernel_rfl, rfl, rfl, rfl⟩
def ti101 : TI := { desc := (Go.TypeDesc.struct #[{ name := "Kind", type := 3, offset := 0, embedded := false, tag := "", pkgPath := "", byteOffset := 0 }, { name := "I", type := 3, offset := 1, embedded := false, tag := "", pkgPath := "", byteOffset := 8 }, { name := "J", type := 3, offset := 2, embedded := false, tag := "", pkgPath := "", byteOffset := 16 }, { name := "S", type := 9, offset := 3, embedded := false, tag := "", pkgPath := "", byteOffset := 24 }, { name := "On", type := 4, offset := 4, embedded := false, tag := "", pkgPath := "", byteOffset := 40 }]), size := 5, bytes := 48, zero := (Go.Value.agg #[Go.Value.int Go.IntKind.i64 0, Go.Value.int Go.IntKind.i64 0, Go.Value.int Go.IntKind.i64 0, Go.Value.string { data := #[] }, Go.Value.bool false]) }
theorem tok101 : TOk Try.prog 101 ti101 := ⟨Try.underlying101, Try.t101, by kernel_rfl, rfl, rfl, rfl⟩
def ti102 : TI := { desc := (Go.TypeDesc.struct #[{ name := "Kind", type := 3, offset := 0, embedded := false, tag := "", pkgPath := "", byteOffset := 0 }, { name := "I", type := 3, offset := 1, embedded := false, tag := "", pkgPath := "", byteOffset := 8 }, { name := "J", type := 3, offset := 2, embedded := false, tag := "", pkgPath := "", byteOffset := 16 }, { name := "S", type := 9, offset := 3, embedded := false, tag := "", pkgPath := "", byteOffset := 24 }, { name := "On", type := 4, offset := 4, embedded := false, tag := "", pkgPath := "", byteOffset := 40 }]), size := 5, bytes := 48, zero := (Go.Value.agg #[Go.Value.int Go.IntKind.i64 0, Go.Value.int Go.IntKind.i64 0, Go.Value.int Go.IntKind.i64 0, Go.Value.string { data := #[] }, Go.Value.bool false]) }
theorem tok102 : TOk Try.prog 102 ti102 := ⟨Try.underlying102, Try.t102, by kernel_rfl, rfl, rfl, rfl⟩
def ti103 : TI := { desc := (Go.TypeDesc.tuple #[49, 57, 4]), size := 1, bytes := 0, zero := (Go.Value.tuple #[Go.Value.agg #[Go.Value.slice none 0 0, Go.Value.int Go.IntKind.i64 0, Go.Value.bool false], Go.Value.agg #[Go.Value.slice none 0 0, Go.Value.int Go.IntKind.i64 0, Go.Value.bool false], Go.Value.bool false]) }
theorem tok103 : TOk Try.prog 103 ti103 := ⟨Try.underlying103, Try.t103, by kernel_rfl, rfl, rfl, rfl⟩
def ti104 : TI := { desc := (Go.TypeDesc.func #[39, 49, 57, 102] #[49, 57, 4] false), size := 1, bytes := 8, zero := Go.Value.nilFunc }
theorem tok104 : TOk Try.prog 104 ti104 := ⟨Try.underlying104, Try.t104, by kernel_rfl, rfl, rfl, rfl⟩
def ti105 : TI := { desc := (Go.TypeDesc.func #[57] #[9] false), size := 1, bytes := 8, zero := Go.Value.nilFunc }
theorem tok105 : TOk Try.prog 105 ti105 := ⟨Try.underlying105, Try.t105, by kernel_rfl, rfl, rfl, rfl⟩
def ti106 : TI := { desc := (Go.TypeDesc.func #[] #[3] false), size := 1, bytes := 8, zero := Go.Value.nilFunc }
theorem tok106 : TOk Try.prog 106 ti106 := ⟨Try.underlying106, Try.t106, by kernel_rfl, rfl, rfl, rfl⟩
def ti107 : TI := { desc := (Go.TypeDesc.struct #[{ name := "Text", type := 82, offset := 0, embedded := false, tag := "", pkgPath := "", byteOffset := 0 }, { name := "Raw", type := 88, offset := 2, embedded := false, tag := "", pkgPath := "", byteOffset := 32 }, { name := "Kept", type := 4, offset := 4, embedded := false, tag := "", pkgPath := "", byteOffset := 48 }]), size := 5, bytes := 56, zero := (Go.Value.agg #[Go.Value.slice none 0 0, Go.Value.int Go.IntKind.i64 0, Go.Value.int Go.IntKind.i64 0, Go.Value.int Go.IntKind.i64 0, Go.Value.bool false]) }
theorem tok107 : TOk Try.prog 107 ti107 := ⟨Try.underlying107, Try.t107, by kernel_rfl, rfl, rfl, rfl⟩
def ti108 : TI := { desc := (Go.TypeDesc.struct #[{ name := "Text", type := 82, offset := 0, embedded := false, tag := "", pkgPath := "", byteOffset := 0 }, { name := "Raw", type := 88, offset := 2, embedded := false, tag := "", pkgPath := "", byteOffset := 32 }, { name := "Kept", type := 4, offset := 4, embedded := false, tag := "", pkgPath := "", byteOffset := 48 }]), size := 5, bytes := 56, zero := (Go.Value.agg #[Go.Value.slice none 0 0, Go.Value.int Go.IntKind.i64 0, Go.Value.int Go.IntKind.i64 0, Go.Value.int Go.IntKind.i64 0, Go.Value.bool false]) }
theorem tok108 : TOk Try.prog 108 ti108 := ⟨Try.underlying108, Try.t108, by kernel_rfl, rfl, rfl, rfl⟩
def ti109 : TI := { desc := (Go.TypeDesc.tuple #[108, 4]), size := 1, bytes := 0, zero := (Go.Value.tuple #[Go.Value.agg #[Go.Value.slice none 0 0, Go.Value.int Go.IntKind.i64 0, Go.Value.int Go.IntKind.i64 0, Go.Value.int Go.IntKind.i64 0, Go.Value.bool false], Go.Value.bool false]) }
theorem tok109 : TOk Try.prog 109 ti109 := ⟨Try.underlying109, Try.t109, by kernel_rfl, rfl, rfl, rfl⟩
def ti110 : TI := { desc := (Go.TypeDesc.func #[3] #[108, 4] false), size := 1, bytes := 8, zero := Go.Value.nilFunc }
theorem tok110 : TOk Try.prog 110 ti110 := ⟨Try.underlying110, Try.t110, by kernel_rfl, rfl, rfl, rfl⟩
def ti111 : TI := { desc := (Go.TypeDesc.struct #[{ name := "S", type := 9, offset := 0, embedded := false, tag := "", pkgPath := "", byteOffset := 0 }, { name := "Raw", type := 9, offset := 1, embedded := false, tag := "", pkgPath := "", byteOffset := 16 }, { name := "Kept", type := 4, offset := 2, embedded := false, tag := "", pkgPath := "", byteOffset := 32 }]), size := 3, bytes := 40, zero := (Go.Value.agg #[Go.Value.string { data := #[] }, Go.Value.string { data := #[] }, Go.Value.bool false]) }
theorem tok111 : TOk Try.prog 111 ti111 := ⟨Try.underlying111, Try.t111, by kernel_rfl, rfl, rfl, rfl⟩
def ti112 : TI := { desc := (Go.TypeDesc.struct #[{ name := "S", type := 9, offset := 0, embedded := false, tag := "", pkgPath := "", byteOffset := 0 }, { name := "Raw", type := 9, offset := 1, embedded := false, tag := "", pkgPath := "", byteOffset := 16 }, { name := "Kept", type := 4, offset := 2, embedded := false, tag := "", pkgPath := "", byteOffset := 32 }]), size := 3, bytes := 40, zero := (Go.Value.agg #[Go.Value.string { data := #[] }, Go.Value.string { data := #[] }, Go.Value.bool false]) }
theorem tok112 : TOk Try.prog 112 ti112 := ⟨Try.underlying112, Try.t112, by kernel_rfl, rfl, rfl, rfl⟩
def ti113 : TI := { desc := (Go.TypeDesc.func #[39, 108] #[112] false), size := 1, bytes := 8, zero := Go.Value.nilFunc }
theorem tok113 : TOk Try.prog 113 ti113 := ⟨Try.underlying113, Try.t113, by kernel_rfl, rfl, rfl, rfl⟩
def ti114 : TI := { desc := (Go.TypeDesc.func #[9, 98, 3] #[4] false), size := 1, bytes := 8, zero := Go.Value.nilFunc }
theorem tok114 : TOk Try.prog 114 ti114 := ⟨Try.underlying114, Try.t114, by kernel_rfl, rfl, rfl, rfl⟩
def ti115 : TI := { desc := (Go.TypeDesc.int Go.IntKind.u64), size := 1, bytes := 8, zero := (Go.Value.int Go.IntKind.u64 0) }
theorem tok115 : TOk Try.prog 115 ti115 := ⟨Try.underlying115, Try.t115, by kernel_rfl, rfl, rfl, rfl⟩
def ti116 : TI := { desc := (Go.TypeDesc.pointer 265), size := 1, bytes := 8, zero := (Go.Value.pointer none) }
theorem tok116 : TOk Try.prog 116 ti116 := ⟨Try.underlying116, Try.t116, by kernel_rfl, rfl, rfl, rfl⟩
def ti117 : TI := { desc := (Go.TypeDesc.struct #[{ name := "root", type := 116, offset := 0, embedded := false, tag := "", pkgPath := "damier/tree", byteOffset := 0 }]), size := 1, bytes := 8, zero := (Go.Value.agg #[Go.Value.pointer none]) }
theorem tok117 : TOk Try.prog 117 ti117 := ⟨Try.underlying117, Try.t117, by kernel_rfl, rfl, rfl, rfl⟩
def ti118 : TI := { desc := (Go.TypeDesc.struct #[{ name := "root", type := 116, offset := 0, embedded := false, tag := "", pkgPath := "damier/tree", byteOffset := 0 }]), size := 1, bytes := 8, zero := (Go.Value.agg #[Go.Value.pointer none]) }
theorem tok118 : TOk Try.prog 118 ti118 := ⟨Try.underlying118, Try.t118, by kernel_rfl, rfl, rfl, rfl⟩
def ti119 : TI := { desc := (Go.TypeDesc.struct #[{ name := "Rows", type := 118, offset := 0, embedded := false, tag := "", pkgPath := "", byteOffset := 0 }, { name := "Tail", type := 4, offset := 1, embedded := false, tag := "", pkgPath := "", byteOffset := 8 }, { name := "End", type := 3, offset := 2, embedded := false, tag := "", pkgPath := "", byteOffset := 16 }]), size := 3, bytes := 24, zero := (Go.Value.agg #[Go.Value.pointer none, Go.Value.bool false, Go.Value.int Go.IntKind.i64 0]) }
theorem tok119 : TOk Try.prog 119 ti119 := ⟨Try.underlying119, Try.t119, by kernel_rfl, rfl, rfl, rfl⟩
def ti120 : TI := { desc := (Go.TypeDesc.struct #[{ name := "Rows", type := 118, offset := 0, embedded := false, tag := "", pkgPath := "", byteOffset := 0 }, { name := "Tail", type := 4, offset := 1, embedded := false, tag := "", pkgPath := "", byteOffset := 8 }, { name := "End", type := 3, offset := 2, embedded := false, tag := "", pkgPath := "", byteOffset := 16 }]), size := 3, bytes := 24, zero := (Go.Value.agg #[Go.Value.pointer none, Go.Value.bool false, Go.Value.int Go.IntKind.i64 0]) }
theorem tok120 : TOk Try.prog 120 ti120 := ⟨Try.underlying120, Try.t120, by kernel_rfl, rfl, rfl, rfl⟩
def ti121 : TI := { desc := (Go.TypeDesc.slice 57), size := 1, bytes := 24, zero := (Go.Value.slice none 0 0) }
theorem tok121 : TOk Try.prog 121 ti121 := ⟨Try.underlying121, Try.t121, by kernel_rfl, rfl, rfl, rfl⟩
def ti122 : TI := { desc := (Go.TypeDesc.struct #[{ name := "Rows", type := 121, offset := 0, embedded := false, tag := "", pkgPath := "", byteOffset := 0 }, { name := "Tail", type := 4, offset := 1, embedded := false, tag := "", pkgPath := "", byteOffset := 24 }, { name := "End", type := 3, offset := 2, embedded := false, tag := "", pkgPath := "", byteOffset := 32 }]), size := 3, bytes := 40, zero := (Go.Value.agg #[Go.Value.slice none 0 0, Go.Value.bool false, Go.Value.int Go.IntKind.i64 0]) }
theorem tok122 : TOk Try.prog 122 ti122 := ⟨Try.underlying122, Try.t122, by kernel_rfl, rfl, rfl, rfl⟩
def ti123 : TI := { desc := (Go.TypeDesc.struct #[{ name := "Rows", type := 121, offset := 0, embedded := false, tag := "", pkgPath := "", byteOffset := 0 }, { name := "Tail", type := 4, offset := 1, embedded := false, tag := "", pkgPath := "", byteOffset := 24 }, { name := "End", type := 3, offset := 2, embedded := false, tag := "", pkgPath := "", byteOffset := 32 }]), size := 3, bytes := 40, zero := (Go.Value.agg #[Go.Value.slice none 0 0, Go.Value.bool false, Go.Value.int Go.IntKind.i64 0]) }
theorem tok123 : TOk Try.prog 123 ti123 := ⟨Try.underlying123, Try.t123, by kernel_rfl, rfl, rfl, rfl⟩
def ti124 : TI := { desc := (Go.TypeDesc.tuple #[120, 39, 123, 4]), size := 1, bytes := 0, zero := (Go.Value.tuple #[Go.Value.agg #[Go.Value.pointer none, Go.Value.bool false, Go.Value.int Go.IntKind.i64 0], Go.Value.pointer none, Go.Value.agg #[Go.Value.slice none 0 0, Go.Value.bool false, Go.Value.int Go.IntKind.i64 0], Go.Value.bool false]) }
theorem tok124 : TOk Try.prog 124 ti124 := ⟨Try.underlying124, Try.t124, by kernel_rfl, rfl, rfl, rfl⟩
def ti125 : TI := { desc := (Go.TypeDesc.func #[9, 115] #[120, 39, 123, 4] false), size := 1, bytes := 8, zero := Go.Value.nilFunc }
theorem tok125 : TOk Try.prog 125 ti125 := ⟨Try.underlying125, Try.t125, by kernel_rfl, rfl, rfl, rfl⟩
def ti126 : TI := { desc := (Go.TypeDesc.func #[120, 39, 25] #[3] false), size := 1, bytes := 8, zero := Go.Value.nilFunc }
theorem tok126 : TOk Try.prog 126 ti126 := ⟨Try.underlying126, Try.t126, by kernel_rfl, rfl, rfl, rfl⟩
def ti127 : TI := { desc := (Go.TypeDesc.tuple #[3, 3, 4]), size := 1, bytes := 0, zero := (Go.Value.tuple #[Go.Value.int Go.IntKind.i64 0, Go.Value.int Go.IntKind.i64 0, Go.Value.bool false]) }
theorem tok127 : TOk Try.prog 127 ti127 := ⟨Try.underlying127, Try.t127, by kernel_rfl, rfl, rfl, rfl⟩
def ti128 : TI := { desc := (Go.TypeDesc.func #[120, 39, 25, 3, 3] #[3, 3, 4] false), size := 1, bytes := 8, zero := Go.Value.nilFunc }
theorem tok128 : TOk Try.prog 128 ti128 := ⟨Try.underlying128, Try.t128, by kernel_rfl, rfl, rfl, rfl⟩
def ti129 : TI := { desc := (Go.TypeDesc.struct #[{ name := "R", type := 3, offset := 0, embedded := false, tag := "", pkgPath := "", byteOffset := 0 }, { name := "C", type := 3, offset := 1, embedded := false, tag := "", pkgPath := "", byteOffset := 8 }]), size := 2, bytes := 16, zero := (Go.Value.agg #[Go.Value.int Go.IntKind.i64 0, Go.Value.int Go.IntKind.i64 0]) }
theorem tok129 : TOk Try.prog 129 ti129 := ⟨Try.underlying129, Try.t129, by kernel_rfl, rfl, rfl, rfl⟩
def ti130 : TI := { desc := (Go.TypeDesc.struct #[{ name := "R", type := 3, offset := 0, embedded := false, tag := "", pkgPath := "", byteOffset := 0 }, { name := "C", type := 3, offset := 1, embedded := false, tag := "", pkgPath := "", byteOffset := 8 }]), size := 2, bytes := 16, zero := (Go.Value.agg #[Go.Value.int Go.IntKind.i64 0, Go.Value.int Go.IntKind.i64 0]) }
theorem tok130 : TOk Try.prog 130 ti130 := ⟨Try.underlying130, Try.t130, by kernel_rfl, rfl, rfl, rfl⟩
def ti131 : TI := { desc := (Go.TypeDesc.func #[9, 115, 9] #[4] false), size := 1, bytes := 8, zero := Go.Value.nilFunc }
theorem tok131 : TOk Try.prog 131 ti131 := ⟨Try.underlying131, Try.t131, by kernel_rfl, rfl, rfl, rfl⟩
def ti132 : TI := { desc := (Go.TypeDesc.func #[3, 108] #[49, 40] false), size := 1, bytes := 8, zero := Go.Value.nilFunc }
theorem tok132 : TOk Try.prog 132 ti132 := ⟨Try.underlying132, Try.t132, by kernel_rfl, rfl, rfl, rfl⟩
def ti133 : TI := { desc := (Go.TypeDesc.func #[3] #[49, 40] false), size := 1, bytes := 8, zero := Go.Value.nilFunc }
theorem tok133 : TOk Try.prog 133 ti133 := ⟨Try.underlying133, Try.t133, by kernel_rfl, rfl, rfl, rfl⟩
def ti134 : TI := { desc := (Go.TypeDesc.func #[3, 3] #[49, 40] false), size := 1, bytes := 8, zero := Go.Value.nilFunc }
theorem tok134 : TOk Try.prog 134 ti134 := ⟨Try.underlying134, Try.t134, by kernel_rfl, rfl, rfl, rfl⟩
def ti135 : TI := { desc := (Go.TypeDesc.func #[9, 3, 3] #[4] false), size := 1, bytes := 8, zero := Go.Value.nilFunc }
theorem tok135 : TOk Try.prog 135 ti135 := ⟨Try.underlying135, Try.t135, by kernel_rfl, rfl, rfl, rfl⟩
def ti136 : TI := { desc := (Go.TypeDesc.tuple #[120, 39, 40]), size := 1, bytes := 0, zero := (Go.Value.tuple #[Go.Value.agg #[Go.Value.pointer none, Go.Value.bool false, Go.Value.int Go.IntKind.i64 0], Go.Value.pointer none, Go.Value.int Go.IntKind.i64 0]) }
theorem tok136 : TOk Try.prog 136 ti136 := ⟨Try.underlying136, Try.t136, by kernel_rfl, rfl, rfl, rfl⟩
def ti137 : TI := { desc := (Go.TypeDesc.func #[25] #[120, 39, 40] false), size := 1, bytes := 8, zero := Go.Value.nilFunc }
theorem tok137 : TOk Try.prog 137 ti137 := ⟨Try.underlying137, Try.t137, by kernel_rfl, rfl, rfl, rfl⟩
def ti138 : TI := { desc := (Go.TypeDesc.func #[189] #[] false), size := 1, bytes := 8, zero := Go.Value.nilFunc }
theorem tok138 : TOk Try.prog 138 ti138 := ⟨Try.underlying138, Try.t138, by kernel_rfl, rfl, rfl, rfl⟩
def ti139 : TI := { desc := (Go.TypeDesc.func #[189] #[] false), size := 1, bytes := 8, zero := Go.Value.nilFunc }
theorem tok139 : TOk Try.prog 139 ti139 := ⟨Try.underlying139, Try.t139, by kernel_rfl, rfl, rfl, rfl⟩
def ti140 : TI := { desc := (Go.TypeDesc.func #[25, 25] #[139] false), size := 1, bytes := 8, zero := Go.Value.nilFunc }
theorem tok140 : TOk Try.prog 140 ti140 := ⟨Try.underlying140, Try.t140, by kernel_rfl, rfl, rfl, rfl⟩
def ti141 : TI := { desc := (Go.TypeDesc.struct #[{ name := "b", type := 25, offset := 0, embedded := false, tag := "", pkgPath := "damier/arena", byteOffset := 0 }]), size := 1, bytes := 24, zero := (Go.Value.agg #[Go.Value.slice none 0 0]) }
theorem tok141 : TOk Try.prog 141 ti141 := ⟨Try.underlying141, Try.t141, by kernel_rfl, rfl, rfl, rfl⟩
def ti142 : TI := { desc := (Go.TypeDesc.struct #[{ name := "b", type := 25, offset := 0, embedded := false, tag := "", pkgPath := "damier/arena", byteOffset := 0 }]), size := 1, bytes := 24, zero := (Go.Value.agg #[Go.Value.slice none 0 0]) }
theorem tok142 : TOk Try.prog 142 ti142 := ⟨Try.underlying142, Try.t142, by kernel_rfl, rfl, rfl, rfl⟩
def ti143 : TI := { desc := (Go.TypeDesc.pointer 145), size := 1, bytes := 8, zero := (Go.Value.pointer none) }
theorem tok143 : TOk Try.prog 143 ti143 := ⟨Try.underlying143, Try.t143, by kernel_rfl, rfl, rfl, rfl⟩
def ti144 : TI := { desc := (Go.TypeDesc.struct #[{ name := "b", type := 25, offset := 0, embedded := false, tag := "", pkgPath := "damier/scan", byteOffset := 0 }, { name := "at", type := 3, offset := 1, embedded := false, tag := "", pkgPath := "damier/scan", byteOffset := 24 }]), size := 2, bytes := 32, zero := (Go.Value.agg #[Go.Value.slice none 0 0, Go.Value.int Go.IntKind.i64 0]) }
theorem tok144 : TOk Try.prog 144 ti144 := ⟨Try.underlying144, Try.t144, by kernel_rfl, rfl, rfl, rfl⟩
def ti145 : TI := { desc := (Go.TypeDesc.struct #[{ name := "b", type := 25, offset := 0, embedded := false, tag := "", pkgPath := "damier/scan", byteOffset := 0 }, { name := "at", type := 3, offset := 1, embedded := false, tag := "", pkgPath := "damier/scan", byteOffset := 24 }]), size := 2, bytes := 32, zero := (Go.Value.agg #[Go.Value.slice none 0 0, Go.Value.int Go.IntKind.i64 0]) }
theorem tok145 : TOk Try.prog 145 ti145 := ⟨Try.underlying145, Try.t145, by kernel_rfl, rfl, rfl, rfl⟩
def ti146 : TI := { desc := (Go.TypeDesc.func #[] #[54] false), size := 1, bytes := 8, zero := Go.Value.nilFunc }
theorem tok146 : TOk Try.prog 146 ti146 := ⟨Try.underlying146, Try.t146, by kernel_rfl, rfl, rfl, rfl⟩
def ti147 : TI := { desc := (Go.TypeDesc.struct #[{ name := "Raw", type := 88, offset := 0, embedded := false, tag := "", pkgPath := "", byteOffset := 0 }, { name := "Kind", type := 3, offset := 2, embedded := false, tag := "", pkgPath := "", byteOffset := 16 }, { name := "Parts", type := 80, offset := 3, embedded := false, tag := "", pkgPath := "", byteOffset := 24 }]), size := 4, bytes := 48, zero := (Go.Value.agg #[Go.Value.int Go.IntKind.i64 0, Go.Value.int Go.IntKind.i64 0, Go.Value.int Go.IntKind.i64 0, Go.Value.slice none 0 0]) }
theorem tok147 : TOk Try.prog 147 ti147 := ⟨Try.underlying147, Try.t147, by kernel_rfl, rfl, rfl, rfl⟩
def ti148 : TI := { desc := (Go.TypeDesc.struct #[{ name := "Raw", type := 88, offset := 0, embedded := false, tag := "", pkgPath := "", byteOffset := 0 }, { name := "Kind", type := 3, offset := 2, embedded := false, tag := "", pkgPath := "", byteOffset := 16 }, { name := "Parts", type := 80, offset := 3, embedded := false, tag := "", pkgPath := "", byteOffset := 24 }]), size := 4, bytes := 48, zero := (Go.Value.agg #[Go.Value.int Go.IntKind.i64 0, Go.Value.int Go.IntKind.i64 0, Go.Value.int Go.IntKind.i64 0, Go.Value.slice none 0 0]) }
theorem tok148 : TOk Try.prog 148 ti148 := ⟨Try.underlying148, Try.t148, by kernel_rfl, rfl, rfl, rfl⟩
def ti149 : TI := { desc := (Go.TypeDesc.func #[148] #[108] false), size := 1, bytes := 8, zero := Go.Value.nilFunc }
theorem tok149 : TOk Try.prog 149 ti149 := ⟨Try.underlying149, Try.t149, by kernel_rfl, rfl, rfl, rfl⟩
def ti150 : TI := { desc := (Go.TypeDesc.struct #[{ name := "At", type := 3, offset := 0, embedded := false, tag := "", pkgPath := "", byteOffset := 0 }, { name := "N", type := 3, offset := 1, embedded := false, tag := "", pkgPath := "", byteOffset := 8 }]), size := 2, bytes := 16, zero := (Go.Value.agg #[Go.Value.int Go.IntKind.i64 0, Go.Value.int Go.IntKind.i64 0]) }
theorem tok150 : TOk Try.prog 150 ti150 := ⟨Try.underlying150, Try.t150, by kernel_rfl, rfl, rfl, rfl⟩
def ti151 : TI := { desc := (Go.TypeDesc.struct #[{ name := "Raw", type := 150, offset := 0, embedded := false, tag := "", pkgPath := "", byteOffset := 0 }, { name := "Kind", type := 3, offset := 2, embedded := false, tag := "", pkgPath := "", byteOffset := 16 }, { name := "Bytes", type := 33, offset := 3, embedded := false, tag := "", pkgPath := "", byteOffset := 24 }]), size := 4, bytes := 48, zero := (Go.Value.agg #[Go.Value.int Go.IntKind.i64 0, Go.Value.int Go.IntKind.i64 0, Go.Value.int Go.IntKind.i64 0, Go.Value.slice none 0 0]) }
theorem tok151 : TOk Try.prog 151 ti151 := ⟨Try.underlying151, Try.t151, by kernel_rfl, rfl, rfl, rfl⟩
def ti152 : TI := { desc := (Go.TypeDesc.struct #[{ name := "Raw", type := 150, offset := 0, embedded := false, tag := "", pkgPath := "", byteOffset := 0 }, { name := "Kind", type := 3, offset := 2, embedded := false, tag := "", pkgPath := "", byteOffset := 16 }, { name := "Bytes", type := 33, offset := 3, embedded := false, tag := "", pkgPath := "", byteOffset := 24 }]), size := 4, bytes := 48, zero := (Go.Value.agg #[Go.Value.int Go.IntKind.i64 0, Go.Value.int Go.IntKind.i64 0, Go.Value.int Go.IntKind.i64 0, Go.Value.slice none 0 0]) }
theorem tok152 : TOk Try.prog 152 ti152 := ⟨Try.underlying152, Try.t152, by kernel_rfl, rfl, rfl, rfl⟩
def ti153 : TI := { desc := (Go.TypeDesc.func #[9, 33] #[9] false), size := 1, bytes := 8, zero := Go.Value.nilFunc }
theorem tok153 : TOk Try.prog 153 ti153 := ⟨Try.underlying153, Try.t153, by kernel_rfl, rfl, rfl, rfl⟩
def ti154 : TI := { desc := (Go.TypeDesc.func #[55, 55] #[4] false), size := 1, bytes := 8, zero := Go.Value.nilFunc }
theorem tok154 : TOk Try.prog 154 ti154 := ⟨Try.underlying154, Try.t154, by kernel_rfl, rfl, rfl, rfl⟩
def ti155 : TI := { desc := (Go.TypeDesc.func #[9, 3] #[152] false), size := 1, bytes := 8, zero := Go.Value.nilFunc }
theorem tok155 : TOk Try.prog 155 ti155 := ⟨Try.underlying155, Try.t155, by kernel_rfl, rfl, rfl, rfl⟩
def ti156 : TI := { desc := (Go.TypeDesc.tuple #[108, 40]), size := 1, bytes := 0, zero := (Go.Value.tuple #[Go.Value.agg #[Go.Value.slice none 0 0, Go.Value.int Go.IntKind.i64 0, Go.Value.int Go.IntKind.i64 0, Go.Value.int Go.IntKind.i64 0, Go.Value.bool false], Go.Value.int Go.IntKind.i64 0]) }
theorem tok156 : TOk Try.prog 156 ti156 := ⟨Try.underlying156, Try.t156, by kernel_rfl, rfl, rfl, rfl⟩
def ti157 : TI := { desc := (Go.TypeDesc.func #[39, 25] #[108, 40] false), size := 1, bytes := 8, zero := Go.Value.nilFunc }
theorem tok157 : TOk Try.prog 157 ti157 := ⟨Try.underlying157, Try.t157, by kernel_rfl, rfl, rfl, rfl⟩
def ti158 : TI := { desc := (Go.TypeDesc.func #[47] #[47] false), size := 1, bytes := 8, zero := Go.Value.nilFunc }
theorem tok158 : TOk Try.prog 158 ti158 := ⟨Try.underlying158, Try.t158, by kernel_rfl, rfl, rfl, rfl⟩
def ti159 : TI := { desc := (Go.TypeDesc.func #[57, 3] #[57] false), size := 1, bytes := 8, zero := Go.Value.nilFunc }
theorem tok159 : TOk Try.prog 159 ti159 := ⟨Try.underlying159, Try.t159, by kernel_rfl, rfl, rfl, rfl⟩
def ti160 : TI := { desc := (Go.TypeDesc.func #[47, 47, 162] #[4] false), size := 1, bytes := 8, zero := Go.Value.nilFunc }
theorem tok160 : TOk Try.prog 160 ti160 := ⟨Try.underlying160, Try.t160, by kernel_rfl, rfl, rfl, rfl⟩
def ti161 : TI := { desc := (Go.TypeDesc.func #[39, 108, 108] #[4] false), size := 1, bytes := 8, zero := Go.Value.nilFunc }
theorem tok161 : TOk Try.prog 161 ti161 := ⟨Try.underlying161, Try.t161, by kernel_rfl, rfl, rfl, rfl⟩
def ti162 : TI := { desc := (Go.TypeDesc.func #[108, 108] #[4] false), size := 1, bytes := 8, zero := Go.Value.nilFunc }
theorem tok162 : TOk Try.prog 162 ti162 := ⟨Try.underlying162, Try.t162, by kernel_rfl, rfl, rfl, rfl⟩
def ti163 : TI := { desc := (Go.TypeDesc.func #[88] #[] false), size := 1, bytes := 8, zero := Go.Value.nilFunc }
theorem tok163 : TOk Try.prog 163 ti163 := ⟨Try.underlying163, Try.t163, by kernel_rfl, rfl, rfl, rfl⟩
def ti164 : TI := { desc := (Go.TypeDesc.struct #[{ name := "From", type := 3, offset := 0, embedded := false, tag := "", pkgPath := "", byteOffset := 0 }, { name := "To", type := 3, offset := 1, embedded := false, tag := "", pkgPath := "", byteOffset := 8 }, { name := "In", type := 9, offset := 2, embedded := false, tag := "", pkgPath := "", byteOffset := 16 }, { name := "At", type := 3, offset := 3, embedded := false, tag := "", pkgPath := "", byteOffset := 32 }]), size := 4, bytes := 40, zero := (Go.Value.agg #[Go.Value.int Go.IntKind.i64 0, Go.Value.int Go.IntKind.i64 0, Go.Value.string { data := #[] }, Go.Value.int Go.IntKind.i64 0]) }
theorem tok164 : TOk Try.prog 164 ti164 := ⟨Try.underlying164, Try.t164, by kernel_rfl, rfl, rfl, rfl⟩
def ti165 : TI := { desc := (Go.TypeDesc.struct #[{ name := "From", type := 3, offset := 0, embedded := false, tag := "", pkgPath := "", byteOffset := 0 }, { name := "To", type := 3, offset := 1, embedded := false, tag := "", pkgPath := "", byteOffset := 8 }, { name := "In", type := 9, offset := 2, embedded := false, tag := "", pkgPath := "", byteOffset := 16 }, { name := "At", type := 3, offset := 3, embedded := false, tag := "", pkgPath := "", byteOffset := 32 }]), size := 4, bytes := 40, zero := (Go.Value.agg #[Go.Value.int Go.IntKind.i64 0, Go.Value.int Go.IntKind.i64 0, Go.Value.string { data := #[] }, Go.Value.int Go.IntKind.i64 0]) }
theorem tok165 : TOk Try.prog 165 ti165 := ⟨Try.underlying165, Try.t165, by kernel_rfl, rfl, rfl, rfl⟩
def ti166 : TI := { desc := (Go.TypeDesc.tuple #[165, 4]), size := 1, bytes := 0, zero := (Go.Value.tuple #[Go.Value.agg #[Go.Value.int Go.IntKind.i64 0, Go.Value.int Go.IntKind.i64 0, Go.Value.string { data := #[] }, Go.Value.int Go.IntKind.i64 0], Go.Value.bool false]) }
theorem tok166 : TOk Try.prog 166 ti166 := ⟨Try.underlying166, Try.t166, by kernel_rfl, rfl, rfl, rfl⟩
def ti167 : TI := { desc := (Go.TypeDesc.func #[25, 3, 3] #[165, 4] false), size := 1, bytes := 8, zero := Go.Value.nilFunc }
theorem tok167 : TOk Try.prog 167 ti167 := ⟨Try.underlying167, Try.t167, by kernel_rfl, rfl, rfl, rfl⟩
def ti168 : TI := { desc := (Go.TypeDesc.tuple #[88, 40]), size := 1, bytes := 0, zero := (Go.Value.tuple #[Go.Value.agg #[Go.Value.int Go.IntKind.i64 0, Go.Value.int Go.IntKind.i64 0], Go.Value.int Go.IntKind.i64 0]) }
theorem tok168 : TOk Try.prog 168 ti168 := ⟨Try.underlying168, Try.t168, by kernel_rfl, rfl, rfl, rfl⟩
def ti169 : TI := { desc := (Go.TypeDesc.func #[25] #[88, 40] false), size := 1, bytes := 8, zero := Go.Value.nilFunc }
theorem tok169 : TOk Try.prog 169 ti169 := ⟨Try.underlying169, Try.t169, by kernel_rfl, rfl, rfl, rfl⟩
def ti170 : TI := { desc := (Go.TypeDesc.tuple #[82, 40]), size := 1, bytes := 0, zero := (Go.Value.tuple #[Go.Value.agg #[Go.Value.slice none 0 0, Go.Value.int Go.IntKind.i64 0], Go.Value.int Go.IntKind.i64 0]) }
theorem tok170 : TOk Try.prog 170 ti170 := ⟨Try.underlying170, Try.t170, by kernel_rfl, rfl, rfl, rfl⟩
def ti171 : TI := { desc := (Go.TypeDesc.func #[3, 3] #[82] false), size := 1, bytes := 8, zero := Go.Value.nilFunc }
theorem tok171 : TOk Try.prog 171 ti171 := ⟨Try.underlying171, Try.t171, by kernel_rfl, rfl, rfl, rfl⟩
def ti172 : TI := { desc := (Go.TypeDesc.func #[3, 82] #[82] false), size := 1, bytes := 8, zero := Go.Value.nilFunc }
theorem tok172 : TOk Try.prog 172 ti172 := ⟨Try.underlying172, Try.t172, by kernel_rfl, rfl, rfl, rfl⟩
def ti173 : TI := { desc := (Go.TypeDesc.func #[39] #[82, 40] false), size := 1, bytes := 8, zero := Go.Value.nilFunc }
theorem tok173 : TOk Try.prog 173 ti173 := ⟨Try.underlying173, Try.t173, by kernel_rfl, rfl, rfl, rfl⟩
def ti174 : TI := { desc := (Go.TypeDesc.func #[25, 3] #[3] false), size := 1, bytes := 8, zero := Go.Value.nilFunc }
theorem tok174 : TOk Try.prog 174 ti174 := ⟨Try.underlying174, Try.t174, by kernel_rfl, rfl, rfl, rfl⟩
def ti175 : TI := { desc := (Go.TypeDesc.func #[9, 3] #[3] false), size := 1, bytes := 8, zero := Go.Value.nilFunc }
theorem tok175 : TOk Try.prog 175 ti175 := ⟨Try.underlying175, Try.t175, by kernel_rfl, rfl, rfl, rfl⟩
def ti176 : TI := { desc := (Go.TypeDesc.func #[80, 80] #[4] false), size := 1, bytes := 8, zero := Go.Value.nilFunc }
theorem tok176 : TOk Try.prog 176 ti176 := ⟨Try.underlying176, Try.t176, by kernel_rfl, rfl, rfl, rfl⟩
def ti177 : TI := { desc := (Go.TypeDesc.func #[88] #[25] false), size := 1, bytes := 8, zero := Go.Value.nilFunc }
theorem tok177 : TOk Try.prog 177 ti177 := ⟨Try.underlying177, Try.t177, by kernel_rfl, rfl, rfl, rfl⟩
def ti178 : TI := { desc := (Go.TypeDesc.func #[80] #[80] false), size := 1, bytes := 8, zero := Go.Value.nilFunc }
theorem tok178 : TOk Try.prog 178 ti178 := ⟨Try.underlying178, Try.t178, by kernel_rfl, rfl, rfl, rfl⟩
def ti179 : TI := { desc := (Go.TypeDesc.struct #[{ name := "S", type := 9, offset := 0, embedded := false, tag := "", pkgPath := "", byteOffset := 0 }, { name := "At", type := 3, offset := 1, embedded := false, tag := "", pkgPath := "", byteOffset := 16 }]), size := 2, bytes := 24, zero := (Go.Value.agg #[Go.Value.string { data := #[] }, Go.Value.int Go.IntKind.i64 0]) }
theorem tok179 : TOk Try.prog 179 ti179 := ⟨Try.underlying179, Try.t179, by kernel_rfl, rfl, rfl, rfl⟩
def ti180 : TI := { desc := (Go.TypeDesc.tuple #[179, 4, 40]), size := 1, bytes := 0, zero := (Go.Value.tuple #[Go.Value.agg #[Go.Value.string { data := #[] }, Go.Value.int Go.IntKind.i64 0], Go.Value.bool false, Go.Value.int Go.IntKind.i64 0]) }
theorem tok180 : TOk Try.prog 180 ti180 := ⟨Try.underlying180, Try.t180, by kernel_rfl, rfl, rfl, rfl⟩
def ti181 : TI := { desc := (Go.TypeDesc.func #[3] #[179, 4, 40] false), size := 1, bytes := 8, zero := Go.Value.nilFunc }
theorem tok181 : TOk Try.prog 181 ti181 := ⟨Try.underlying181, Try.t181, by kernel_rfl, rfl, rfl, rfl⟩
def ti182 : TI := { desc := (Go.TypeDesc.tuple #[54, 3]), size := 1, bytes := 0, zero := (Go.Value.tuple #[Go.Value.agg #[Go.Value.slice none 0 0, Go.Value.int Go.IntKind.i64 0], Go.Value.int Go.IntKind.i64 0]) }
theorem tok182 : TOk Try.prog 182 ti182 := ⟨Try.underlying182, Try.t182, by kernel_rfl, rfl, rfl, rfl⟩
def ti183 : TI := { desc := (Go.TypeDesc.func #[25, 3] #[54, 3] false), size := 1, bytes := 8, zero := Go.Value.nilFunc }
theorem tok183 : TOk Try.prog 183 ti183 := ⟨Try.underlying183, Try.t183, by kernel_rfl, rfl, rfl, rfl⟩
def ti184 : TI := { desc := (Go.TypeDesc.func #[57, 3, 112] #[57, 40] false), size := 1, bytes := 8, zero := Go.Value.nilFunc }
theorem tok184 : TOk Try.prog 184 ti184 := ⟨Try.underlying184, Try.t184, by kernel_rfl, rfl, rfl, rfl⟩
def ti185 : TI := { desc := (Go.TypeDesc.func #[57, 3] #[57, 40] false), size := 1, bytes := 8, zero := Go.Value.nilFunc }
theorem tok185 : TOk Try.prog 185 ti185 := ⟨Try.underlying185, Try.t185, by kernel_rfl, rfl, rfl, rfl⟩
def ti186 : TI := { desc := (Go.TypeDesc.func #[57, 3, 3] #[57, 40] false), size := 1, bytes := 8, zero := Go.Value.nilFunc }
theorem tok186 : TOk Try.prog 186 ti186 := ⟨Try.underlying186, Try.t186, by kernel_rfl, rfl, rfl, rfl⟩
def ti187 : TI := { desc := (Go.TypeDesc.func #[3] #[49] false), size := 1, bytes := 8, zero := Go.Value.nilFunc }
theorem tok187 : TOk Try.prog 187 ti187 := ⟨Try.underlying187, Try.t187, by kernel_rfl, rfl, rfl, rfl⟩
def ti188 : TI := { desc := (Go.TypeDesc.func #[112] #[9] false), size := 1, bytes := 8, zero := Go.Value.nilFunc }
theorem tok188 : TOk Try.prog 188 ti188 := ⟨Try.underlying188, Try.t188, by kernel_rfl, rfl, rfl, rfl⟩
def ti189 : TI := { desc := (Go.TypeDesc.func #[3] #[4] false), size := 1, bytes := 8, zero := Go.Value.nilFunc }
theorem tok189 : TOk Try.prog 189 ti189 := ⟨Try.underlying189, Try.t189, by kernel_rfl, rfl, rfl, rfl⟩
def ti190 : TI := { desc := (Go.TypeDesc.func #[9] #[120, 39, 123, 4] false), size := 1, bytes := 8, zero := Go.Value.nilFunc }
theorem tok190 : TOk Try.prog 190 ti190 := ⟨Try.underlying190, Try.t190, by kernel_rfl, rfl, rfl, rfl⟩
def ti191 : TI := { desc := (Go.TypeDesc.int Go.IntKind.u64), size := 1, bytes := 8, zero := (Go.Value.int Go.IntKind.u64 0) }
theorem tok191 : TOk Try.prog 191 ti191 := ⟨Try.underlying191, Try.t191, by kernel_rfl, rfl, rfl, rfl⟩
def ti192 : TI := { desc := (Go.TypeDesc.tuple #[49, 4]), size := 1, bytes := 0, zero := (Go.Value.tuple #[Go.Value.agg #[Go.Value.slice none 0 0, Go.Value.int Go.IntKind.i64 0, Go.Value.bool false], Go.Value.bool false]) }
theorem tok192 : TOk Try.prog 192 ti192 := ⟨Try.underlying192, Try.t192, by kernel_rfl, rfl, rfl, rfl⟩
def ti193 : TI := { desc := (Go.TypeDesc.func #[3] #[49, 4] false), size := 1, bytes := 8, zero := Go.Value.nilFunc }
theorem tok193 : TOk Try.prog 193 ti193 := ⟨Try.underlying193, Try.t193, by kernel_rfl, rfl, rfl, rfl⟩
def ti194 : TI := { desc := (Go.TypeDesc.tuple #[120, 40]), size := 1, bytes := 0, zero := (Go.Value.tuple #[Go.Value.agg #[Go.Value.pointer none, Go.Value.bool false, Go.Value.int Go.IntKind.i64 0], Go.Value.int Go.IntKind.i64 0]) }
theorem tok194 : TOk Try.prog 194 ti194 := ⟨Try.underlying194, Try.t194, by kernel_rfl, rfl, rfl, rfl⟩
def ti195 : TI := { desc := (Go.TypeDesc.func #[3, 49] #[120, 40] false), size := 1, bytes := 8, zero := Go.Value.nilFunc }
theorem tok195 : TOk Try.prog 195 ti195 := ⟨Try.underlying195, Try.t195, by kernel_rfl, rfl, rfl, rfl⟩
def ti196 : TI := { desc := (Go.TypeDesc.tuple #[123, 40]), size := 1, bytes := 0, zero := (Go.Value.tuple #[Go.Value.agg #[Go.Value.slice none 0 0, Go.Value.bool false, Go.Value.int Go.IntKind.i64 0], Go.Value.int Go.IntKind.i64 0]) }
theorem tok196 : TOk Try.prog 196 ti196 := ⟨Try.underlying196, Try.t196, by kernel_rfl, rfl, rfl, rfl⟩
def ti197 : TI := { desc := (Go.TypeDesc.func #[123, 3, 57] #[123, 40] false), size := 1, bytes := 8, zero := Go.Value.nilFunc }
theorem tok197 : TOk Try.prog 197 ti197 := ⟨Try.underlying197, Try.t197, by kernel_rfl, rfl, rfl, rfl⟩
def ti198 : TI := { desc := (Go.TypeDesc.func #[203] #[] false), size := 1, bytes := 8, zero := Go.Value.nilFunc }
theorem tok198 : TOk Try.prog 198 ti198 := ⟨Try.underlying198, Try.t198, by kernel_rfl, rfl, rfl, rfl⟩
def ti199 : TI := { desc := (Go.TypeDesc.func #[203] #[] false), size := 1, bytes := 8, zero := Go.Value.nilFunc }
theorem tok199 : TOk Try.prog 199 ti199 := ⟨Try.underlying199, Try.t199, by kernel_rfl, rfl, rfl, rfl⟩
def ti200 : TI := { desc := (Go.TypeDesc.func #[120, 39, 25] #[199] false), size := 1, bytes := 8, zero := Go.Value.nilFunc }
theorem tok200 : TOk Try.prog 200 ti200 := ⟨Try.underlying200, Try.t200, by kernel_rfl, rfl, rfl, rfl⟩
def ti201 : TI := { desc := (Go.TypeDesc.struct #[{ name := "r", type := 3, offset := 0, embedded := false, tag := "", pkgPath := "damier/find", byteOffset := 0 }, { name := "c", type := 3, offset := 1, embedded := false, tag := "", pkgPath := "damier/find", byteOffset := 8 }]), size := 2, bytes := 16, zero := (Go.Value.agg #[Go.Value.int Go.IntKind.i64 0, Go.Value.int Go.IntKind.i64 0]) }
theorem tok201 : TOk Try.prog 201 ti201 := ⟨Try.underlying201, Try.t201, by kernel_rfl, rfl, rfl, rfl⟩
def ti202 : TI := { desc := (Go.TypeDesc.struct #[{ name := "r", type := 3, offset := 0, embedded := false, tag := "", pkgPath := "damier/find", byteOffset := 0 }, { name := "c", type := 3, offset := 1, embedded := false, tag := "", pkgPath := "damier/find", byteOffset := 8 }]), size := 2, bytes := 16, zero := (Go.Value.agg #[Go.Value.int Go.IntKind.i64 0, Go.Value.int Go.IntKind.i64 0]) }
theorem tok202 : TOk Try.prog 202 ti202 := ⟨Try.underlying202, Try.t202, by kernel_rfl, rfl, rfl, rfl⟩
def ti203 : TI := { desc := (Go.TypeDesc.func #[202] #[4] false), size := 1, bytes := 8, zero := Go.Value.nilFunc }
theorem tok203 : TOk Try.prog 203 ti203 := ⟨Try.underlying203, Try.t203, by kernel_rfl, rfl, rfl, rfl⟩
def ti204 : TI := { desc := (Go.TypeDesc.func #[47] #[49] false), size := 1, bytes := 8, zero := Go.Value.nilFunc }
theorem tok204 : TOk Try.prog 204 ti204 := ⟨Try.underlying204, Try.t204, by kernel_rfl, rfl, rfl, rfl⟩
def ti205 : TI := { desc := (Go.TypeDesc.func #[3] #[47] false), size := 1, bytes := 8, zero := Go.Value.nilFunc }
theorem tok205 : TOk Try.prog 205 ti205 := ⟨Try.underlying205, Try.t205, by kernel_rfl, rfl, rfl, rfl⟩
def ti206 : TI := { desc := (Go.TypeDesc.func #[243] #[47] true), size := 1, bytes := 8, zero := Go.Value.nilFunc }
theorem tok206 : TOk Try.prog 206 ti206 := ⟨Try.underlying206, Try.t206, by kernel_rfl, rfl, rfl, rfl⟩
def ti207 : TI := { desc := (Go.TypeDesc.func #[40] #[120, 39, 40] false), size := 1, bytes := 8, zero := Go.Value.nilFunc }
theorem tok207 : TOk Try.prog 207 ti207 := ⟨Try.underlying207, Try.t207, by kernel_rfl, rfl, rfl, rfl⟩
def ti208 : TI := { desc := (Go.TypeDesc.slice 49), size := 1, bytes := 24, zero := (Go.Value.slice none 0 0) }
theorem tok208 : TOk Try.prog 208 ti208 := ⟨Try.underlying208, Try.t208, by kernel_rfl, rfl, rfl, rfl⟩
def ti209 : TI := { desc := (Go.TypeDesc.func #[208] #[118] true), size := 1, bytes := 8, zero := Go.Value.nilFunc }
theorem tok209 : TOk Try.prog 209 ti209 := ⟨Try.underlying209, Try.t209, by kernel_rfl, rfl, rfl, rfl⟩
def ti210 : TI := { desc := (Go.TypeDesc.tuple #[4, 3]), size := 1, bytes := 0, zero := (Go.Value.tuple #[Go.Value.bool false, Go.Value.int Go.IntKind.i64 0]) }
theorem tok210 : TOk Try.prog 210 ti210 := ⟨Try.underlying210, Try.t210, by kernel_rfl, rfl, rfl, rfl⟩
def ti211 : TI := { desc := (Go.TypeDesc.func #[43] #[4, 3] false), size := 1, bytes := 8, zero := Go.Value.nilFunc }
theorem tok211 : TOk Try.prog 211 ti211 := ⟨Try.underlying211, Try.t211, by kernel_rfl, rfl, rfl, rfl⟩
def ti212 : TI := { desc := (Go.TypeDesc.func #[25] #[33] false), size := 1, bytes := 8, zero := Go.Value.nilFunc }
theorem tok212 : TOk Try.prog 212 ti212 := ⟨Try.underlying212, Try.t212, by kernel_rfl, rfl, rfl, rfl⟩
def ti213 : TI := { desc := (Go.TypeDesc.func #[] #[148] false), size := 1, bytes := 8, zero := Go.Value.nilFunc }
theorem tok213 : TOk Try.prog 213 ti213 := ⟨Try.underlying213, Try.t213, by kernel_rfl, rfl, rfl, rfl⟩
def ti214 : TI := { desc := (Go.TypeDesc.func #[5] #[4] false), size := 1, bytes := 8, zero := Go.Value.nilFunc }
theorem tok214 : TOk Try.prog 214 ti214 := ⟨Try.underlying214, Try.t214, by kernel_rfl, rfl, rfl, rfl⟩
def ti215 : TI := { desc := (Go.TypeDesc.func #[9, 3] #[4] false), size := 1, bytes := 8, zero := Go.Value.nilFunc }
theorem tok215 : TOk Try.prog 215 ti215 := ⟨Try.underlying215, Try.t215, by kernel_rfl, rfl, rfl, rfl⟩
def ti216 : TI := { desc := (Go.TypeDesc.func #[33, 3, 3] #[33] false), size := 1, bytes := 8, zero := Go.Value.nilFunc }
theorem tok216 : TOk Try.prog 216 ti216 := ⟨Try.underlying216, Try.t216, by kernel_rfl, rfl, rfl, rfl⟩
def ti217 : TI := { desc := (Go.TypeDesc.func #[25] #[25] false), size := 1, bytes := 8, zero := Go.Value.nilFunc }
theorem tok217 : TOk Try.prog 217 ti217 := ⟨Try.underlying217, Try.t217, by kernel_rfl, rfl, rfl, rfl⟩
def ti218 : TI := { desc := (Go.TypeDesc.func #[82] #[108] false), size := 1, bytes := 8, zero := Go.Value.nilFunc }
theorem tok218 : TOk Try.prog 218 ti218 := ⟨Try.underlying218, Try.t218, by kernel_rfl, rfl, rfl, rfl⟩
def ti219 : TI := { desc := (Go.TypeDesc.func #[25, 25] #[4] false), size := 1, bytes := 8, zero := Go.Value.nilFunc }
theorem tok219 : TOk Try.prog 219 ti219 := ⟨Try.underlying219, Try.t219, by kernel_rfl, rfl, rfl, rfl⟩
def ti220 : TI := { desc := (Go.TypeDesc.pointer 82), size := 1, bytes := 8, zero := (Go.Value.pointer none) }
theorem tok220 : TOk Try.prog 220 ti220 := ⟨Try.underlying220, Try.t220, by kernel_rfl, rfl, rfl, rfl⟩
def ti221 : TI := { desc := (Go.TypeDesc.tuple #[88, 4]), size := 1, bytes := 0, zero := (Go.Value.tuple #[Go.Value.agg #[Go.Value.int Go.IntKind.i64 0, Go.Value.int Go.IntKind.i64 0], Go.Value.bool false]) }
theorem tok221 : TOk Try.prog 221 ti221 := ⟨Try.underlying221, Try.t221, by kernel_rfl, rfl, rfl, rfl⟩
def ti222 : TI := { desc := (Go.TypeDesc.func #[88, 88] #[88, 4] false), size := 1, bytes := 8, zero := Go.Value.nilFunc }
theorem tok222 : TOk Try.prog 222 ti222 := ⟨Try.underlying222, Try.t222, by kernel_rfl, rfl, rfl, rfl⟩
def ti223 : TI := { desc := (Go.TypeDesc.func #[3] #[25] false), size := 1, bytes := 8, zero := Go.Value.nilFunc }
theorem tok223 : TOk Try.prog 223 ti223 := ⟨Try.underlying223, Try.t223, by kernel_rfl, rfl, rfl, rfl⟩
def ti224 : TI := { desc := (Go.TypeDesc.func #[3, 3] #[165] false), size := 1, bytes := 8, zero := Go.Value.nilFunc }
theorem tok224 : TOk Try.prog 224 ti224 := ⟨Try.underlying224, Try.t224, by kernel_rfl, rfl, rfl, rfl⟩
def ti225 : TI := { desc := (Go.TypeDesc.func #[5] #[3] false), size := 1, bytes := 8, zero := Go.Value.nilFunc }
theorem tok225 : TOk Try.prog 225 ti225 := ⟨Try.underlying225, Try.t225, by kernel_rfl, rfl, rfl, rfl⟩
def ti226 : TI := { desc := (Go.TypeDesc.func #[25, 25] #[3] false), size := 1, bytes := 8, zero := Go.Value.nilFunc }
theorem tok226 : TOk Try.prog 226 ti226 := ⟨Try.underlying226, Try.t226, by kernel_rfl, rfl, rfl, rfl⟩
def ti227 : TI := { desc := (Go.TypeDesc.func #[3] #[3] false), size := 1, bytes := 8, zero := Go.Value.nilFunc }
theorem tok227 : TOk Try.prog 227 ti227 := ⟨Try.underlying227, Try.t227, by kernel_rfl, rfl, rfl, rfl⟩
def ti228 : TI := { desc := (Go.TypeDesc.func #[257] #[82] true), size := 1, bytes := 8, zero := Go.Value.nilFunc }
theorem tok228 : TOk Try.prog 228 ti228 := ⟨Try.underlying228, Try.t228, by kernel_rfl, rfl, rfl, rfl⟩
def ti229 : TI := { desc := (Go.TypeDesc.func #[25, 3] #[4] false), size := 1, bytes := 8, zero := Go.Value.nilFunc }
theorem tok229 : TOk Try.prog 229 ti229 := ⟨Try.underlying229, Try.t229, by kernel_rfl, rfl, rfl, rfl⟩
def ti230 : TI := { desc := (Go.TypeDesc.func #[9] #[33] false), size := 1, bytes := 8, zero := Go.Value.nilFunc }
theorem tok230 : TOk Try.prog 230 ti230 := ⟨Try.underlying230, Try.t230, by kernel_rfl, rfl, rfl, rfl⟩
def ti231 : TI := { desc := (Go.TypeDesc.func #[55, 3] #[55] false), size := 1, bytes := 8, zero := Go.Value.nilFunc }
theorem tok231 : TOk Try.prog 231 ti231 := ⟨Try.underlying231, Try.t231, by kernel_rfl, rfl, rfl, rfl⟩
def ti232 : TI := { desc := (Go.TypeDesc.func #[9] #[9] false), size := 1, bytes := 8, zero := Go.Value.nilFunc }
theorem tok232 : TOk Try.prog 232 ti232 := ⟨Try.underlying232, Try.t232, by kernel_rfl, rfl, rfl, rfl⟩
def ti233 : TI := { desc := (Go.TypeDesc.func #[9] #[123, 40] false), size := 1, bytes := 8, zero := Go.Value.nilFunc }
theorem tok233 : TOk Try.prog 233 ti233 := ⟨Try.underlying233, Try.t233, by kernel_rfl, rfl, rfl, rfl⟩
def ti234 : TI := { desc := (Go.TypeDesc.func #[118, 4] #[120, 40] false), size := 1, bytes := 8, zero := Go.Value.nilFunc }
theorem tok234 : TOk Try.prog 234 ti234 := ⟨Try.underlying234, Try.t234, by kernel_rfl, rfl, rfl, rfl⟩
def ti235 : TI := { desc := (Go.TypeDesc.tuple #[118, 4]), size := 1, bytes := 0, zero := (Go.Value.tuple #[Go.Value.agg #[Go.Value.pointer none], Go.Value.bool false]) }
theorem tok235 : TOk Try.prog 235 ti235 := ⟨Try.underlying235, Try.t235, by kernel_rfl, rfl, rfl, rfl⟩
def ti236 : TI := { desc := (Go.TypeDesc.func #[3, 49] #[118, 4] false), size := 1, bytes := 8, zero := Go.Value.nilFunc }
theorem tok236 : TOk Try.prog 236 ti236 := ⟨Try.underlying236, Try.t236, by kernel_rfl, rfl, rfl, rfl⟩
def ti237 : TI := { desc := (Go.TypeDesc.func #[123, 3] #[4] false), size := 1, bytes := 8, zero := Go.Value.nilFunc }
theorem tok237 : TOk Try.prog 237 ti237 := ⟨Try.underlying237, Try.t237, by kernel_rfl, rfl, rfl, rfl⟩
def ti238 : TI := { desc := (Go.TypeDesc.func #[123, 121] #[123] false), size := 1, bytes := 8, zero := Go.Value.nilFunc }
theorem tok238 : TOk Try.prog 238 ti238 := ⟨Try.underlying238, Try.t238, by kernel_rfl, rfl, rfl, rfl⟩
def ti239 : TI := { desc := (Go.TypeDesc.func #[108] #[4] false), size := 1, bytes := 8, zero := Go.Value.nilFunc }
theorem tok239 : TOk Try.prog 239 ti239 := ⟨Try.underlying239, Try.t239, by kernel_rfl, rfl, rfl, rfl⟩
def ti240 : TI := { desc := (Go.TypeDesc.func #[269] #[] false), size := 1, bytes := 8, zero := Go.Value.nilFunc }
theorem tok240 : TOk Try.prog 240 ti240 := ⟨Try.underlying240, Try.t240, by kernel_rfl, rfl, rfl, rfl⟩
def ti241 : TI := { desc := (Go.TypeDesc.func #[269] #[] false), size := 1, bytes := 8, zero := Go.Value.nilFunc }
theorem tok241 : TOk Try.prog 241 ti241 := ⟨Try.underlying241, Try.t241, by kernel_rfl, rfl, rfl, rfl⟩
def ti242 : TI := { desc := (Go.TypeDesc.func #[118, 3, 3] #[241] false), size := 1, bytes := 8, zero := Go.Value.nilFunc }
theorem tok242 : TOk Try.prog 242 ti242 := ⟨Try.underlying242, Try.t242, by kernel_rfl, rfl, rfl, rfl⟩
def ti243 : TI := { desc := (Go.TypeDesc.slice 47), size := 1, bytes := 24, zero := (Go.Value.slice none 0 0) }
theorem tok243 : TOk Try.prog 243 ti243 := ⟨Try.underlying243, Try.t243, by kernel_rfl, rfl, rfl, rfl⟩
def ti244 : TI := { desc := (Go.TypeDesc.func #[47, 3] #[47] false), size := 1, bytes := 8, zero := Go.Value.nilFunc }
theorem tok244 : TOk Try.prog 244 ti244 := ⟨Try.underlying244, Try.t244, by kernel_rfl, rfl, rfl, rfl⟩
def ti245 : TI := { desc := (Go.TypeDesc.func #[246] #[118] true), size := 1, bytes := 8, zero := Go.Value.nilFunc }
theorem tok245 : TOk Try.prog 245 ti245 := ⟨Try.underlying245, Try.t245, by kernel_rfl, rfl, rfl, rfl⟩
def ti246 : TI := { desc := (Go.TypeDesc.slice 116), size := 1, bytes := 24, zero := (Go.Value.slice none 0 0) }
theorem tok246 : TOk Try.prog 246 ti246 := ⟨Try.underlying246, Try.t246, by kernel_rfl, rfl, rfl, rfl⟩
def ti247 : TI := { desc := (Go.TypeDesc.func #[208] #[246] false), size := 1, bytes := 8, zero := Go.Value.nilFunc }
theorem tok247 : TOk Try.prog 247 ti247 := ⟨Try.underlying247, Try.t247, by kernel_rfl, rfl, rfl, rfl⟩
def ti248 : TI := { desc := (Go.TypeDesc.tuple #[3, 80]), size := 1, bytes := 0, zero := (Go.Value.tuple #[Go.Value.int Go.IntKind.i64 0, Go.Value.slice none 0 0]) }
theorem tok248 : TOk Try.prog 248 ti248 := ⟨Try.underlying248, Try.t248, by kernel_rfl, rfl, rfl, rfl⟩
def ti249 : TI := { desc := (Go.TypeDesc.func #[] #[3, 80] false), size := 1, bytes := 8, zero := Go.Value.nilFunc }
theorem tok249 : TOk Try.prog 249 ti249 := ⟨Try.underlying249, Try.t249, by kernel_rfl, rfl, rfl, rfl⟩
def ti250 : TI := { desc := (Go.TypeDesc.func #[25] #[3] false), size := 1, bytes := 8, zero := Go.Value.nilFunc }
theorem tok250 : TOk Try.prog 250 ti250 := ⟨Try.underlying250, Try.t250, by kernel_rfl, rfl, rfl, rfl⟩
def ti251 : TI := { desc := (Go.TypeDesc.func #[25] #[4] false), size := 1, bytes := 8, zero := Go.Value.nilFunc }
theorem tok251 : TOk Try.prog 251 ti251 := ⟨Try.underlying251, Try.t251, by kernel_rfl, rfl, rfl, rfl⟩
def ti252 : TI := { desc := (Go.TypeDesc.array 4 5), size := 4, bytes := 4, zero := (Go.Value.agg #[Go.Value.int Go.IntKind.u8 0, Go.Value.int Go.IntKind.u8 0, Go.Value.int Go.IntKind.u8 0, Go.Value.int Go.IntKind.u8 0]) }
theorem tok252 : TOk Try.prog 252 ti252 := ⟨Try.underlying252, Try.t252, by kernel_rfl, rfl, rfl, rfl⟩
def ti253 : TI := { desc := (Go.TypeDesc.struct #[{ name := "mark", type := 3, offset := 0, embedded := false, tag := "", pkgPath := "damier/utf", byteOffset := 0 }, { name := "room", type := 3, offset := 1, embedded := false, tag := "", pkgPath := "damier/utf", byteOffset := 8 }]), size := 2, bytes := 16, zero := (Go.Value.agg #[Go.Value.int Go.IntKind.i64 0, Go.Value.int Go.IntKind.i64 0]) }
theorem tok253 : TOk Try.prog 253 ti253 := ⟨Try.underlying253, Try.t253, by kernel_rfl, rfl, rfl, rfl⟩
def ti254 : TI := { desc := (Go.TypeDesc.struct #[{ name := "mark", type := 3, offset := 0, embedded := false, tag := "", pkgPath := "damier/utf", byteOffset := 0 }, { name := "room", type := 3, offset := 1, embedded := false, tag := "", pkgPath := "damier/utf", byteOffset := 8 }]), size := 2, bytes := 16, zero := (Go.Value.agg #[Go.Value.int Go.IntKind.i64 0, Go.Value.int Go.IntKind.i64 0]) }
theorem tok254 : TOk Try.prog 254 ti254 := ⟨Try.underlying254, Try.t254, by kernel_rfl, rfl, rfl, rfl⟩
def ti255 : TI := { desc := (Go.TypeDesc.func #[3] #[254] false), size := 1, bytes := 8, zero := Go.Value.nilFunc }
theorem tok255 : TOk Try.prog 255 ti255 := ⟨Try.underlying255, Try.t255, by kernel_rfl, rfl, rfl, rfl⟩
def ti256 : TI := { desc := (Go.TypeDesc.func #[25, 5] #[3] false), size := 1, bytes := 8, zero := Go.Value.nilFunc }
theorem tok256 : TOk Try.prog 256 ti256 := ⟨Try.underlying256, Try.t256, by kernel_rfl, rfl, rfl, rfl⟩
def ti257 : TI := { desc := (Go.TypeDesc.slice 82), size := 1, bytes := 24, zero := (Go.Value.slice none 0 0) }
theorem tok257 : TOk Try.prog 257 ti257 := ⟨Try.underlying257, Try.t257, by kernel_rfl, rfl, rfl, rfl⟩
def ti258 : TI := { desc := (Go.TypeDesc.func #[260] #[] false), size := 1, bytes := 8, zero := Go.Value.nilFunc }
theorem tok258 : TOk Try.prog 258 ti258 := ⟨Try.underlying258, Try.t258, by kernel_rfl, rfl, rfl, rfl⟩
def ti259 : TI := { desc := (Go.TypeDesc.func #[88, 3, 3] #[88] false), size := 1, bytes := 8, zero := Go.Value.nilFunc }
theorem tok259 : TOk Try.prog 259 ti259 := ⟨Try.underlying259, Try.t259, by kernel_rfl, rfl, rfl, rfl⟩
def ti260 : TI := { desc := (Go.TypeDesc.func #[3, 88] #[4] false), size := 1, bytes := 8, zero := Go.Value.nilFunc }
theorem tok260 : TOk Try.prog 260 ti260 := ⟨Try.underlying260, Try.t260, by kernel_rfl, rfl, rfl, rfl⟩
def ti261 : TI := { desc := (Go.TypeDesc.tuple #[3, 3]), size := 1, bytes := 0, zero := (Go.Value.tuple #[Go.Value.int Go.IntKind.i64 0, Go.Value.int Go.IntKind.i64 0]) }
theorem tok261 : TOk Try.prog 261 ti261 := ⟨Try.underlying261, Try.t261, by kernel_rfl, rfl, rfl, rfl⟩
def ti262 : TI := { desc := (Go.TypeDesc.func #[9, 3] #[3, 3] false), size := 1, bytes := 8, zero := Go.Value.nilFunc }
theorem tok262 : TOk Try.prog 262 ti262 := ⟨Try.underlying262, Try.t262, by kernel_rfl, rfl, rfl, rfl⟩
def ti263 : TI := { desc := (Go.TypeDesc.func #[88] #[4] false), size := 1, bytes := 8, zero := Go.Value.nilFunc }
theorem tok263 : TOk Try.prog 263 ti263 := ⟨Try.underlying263, Try.t263, by kernel_rfl, rfl, rfl, rfl⟩
def ti264 : TI := { desc := (Go.TypeDesc.struct #[{ name := "Kids", type := 246, offset := 0, embedded := false, tag := "", pkgPath := "", byteOffset := 0 }, { name := "Items", type := 208, offset := 1, embedded := false, tag := "", pkgPath := "", byteOffset := 24 }, { name := "N", type := 3, offset := 2, embedded := false, tag := "", pkgPath := "", byteOffset := 48 }]), size := 3, bytes := 56, zero := (Go.Value.agg #[Go.Value.slice none 0 0, Go.Value.slice none 0 0, Go.Value.int Go.IntKind.i64 0]) }
theorem tok264 : TOk Try.prog 264 ti264 := ⟨Try.underlying264, Try.t264, by kernel_rfl, rfl, rfl, rfl⟩
def ti265 : TI := { desc := (Go.TypeDesc.struct #[{ name := "Kids", type := 246, offset := 0, embedded := false, tag := "", pkgPath := "", byteOffset := 0 }, { name := "Items", type := 208, offset := 1, embedded := false, tag := "", pkgPath := "", byteOffset := 24 }, { name := "N", type := 3, offset := 2, embedded := false, tag := "", pkgPath := "", byteOffset := 48 }]), size := 3, bytes := 56, zero := (Go.Value.agg #[Go.Value.slice none 0 0, Go.Value.slice none 0 0, Go.Value.int Go.IntKind.i64 0]) }
theorem tok265 : TOk Try.prog 265 ti265 := ⟨Try.underlying265, Try.t265, by kernel_rfl, rfl, rfl, rfl⟩
def ti266 : TI := { desc := (Go.TypeDesc.func #[3] #[3, 3] false), size := 1, bytes := 8, zero := Go.Value.nilFunc }
theorem tok266 : TOk Try.prog 266 ti266 := ⟨Try.underlying266, Try.t266, by kernel_rfl, rfl, rfl, rfl⟩
def ti267 : TI := { desc := (Go.TypeDesc.func #[3, 49] #[116] false), size := 1, bytes := 8, zero := Go.Value.nilFunc }
theorem tok267 : TOk Try.prog 267 ti267 := ⟨Try.underlying267, Try.t267, by kernel_rfl, rfl, rfl, rfl⟩
def ti268 : TI := { desc := (Go.TypeDesc.func #[118, 3, 3] #[3, 3] false), size := 1, bytes := 8, zero := Go.Value.nilFunc }
theorem tok268 : TOk Try.prog 268 ti268 := ⟨Try.underlying268, Try.t268, by kernel_rfl, rfl, rfl, rfl⟩
def ti269 : TI := { desc := (Go.TypeDesc.func #[3, 49] #[4] false), size := 1, bytes := 8, zero := Go.Value.nilFunc }
theorem tok269 : TOk Try.prog 269 ti269 := ⟨Try.underlying269, Try.t269, by kernel_rfl, rfl, rfl, rfl⟩
def ti270 : TI := { desc := (Go.TypeDesc.slice 278), size := 1, bytes := 24, zero := (Go.Value.slice none 0 0) }
theorem tok270 : TOk Try.prog 270 ti270 := ⟨Try.underlying270, Try.t270, by kernel_rfl, rfl, rfl, rfl⟩
def ti271 : TI := { desc := (Go.TypeDesc.struct #[{ name := "l", type := 270, offset := 0, embedded := false, tag := "", pkgPath := "damier/walk", byteOffset := 0 }]), size := 1, bytes := 24, zero := (Go.Value.agg #[Go.Value.slice none 0 0]) }
theorem tok271 : TOk Try.prog 271 ti271 := ⟨Try.underlying271, Try.t271, by kernel_rfl, rfl, rfl, rfl⟩
def ti272 : TI := { desc := (Go.TypeDesc.struct #[{ name := "l", type := 270, offset := 0, embedded := false, tag := "", pkgPath := "damier/walk", byteOffset := 0 }]), size := 1, bytes := 24, zero := (Go.Value.agg #[Go.Value.slice none 0 0]) }
theorem tok272 : TOk Try.prog 272 ti272 := ⟨Try.underlying272, Try.t272, by kernel_rfl, rfl, rfl, rfl⟩
def ti273 : TI := { desc := (Go.TypeDesc.func #[116, 3, 3] #[] false), size := 1, bytes := 8, zero := Go.Value.nilFunc }
theorem tok273 : TOk Try.prog 273 ti273 := ⟨Try.underlying273, Try.t273, by kernel_rfl, rfl, rfl, rfl⟩
def ti274 : TI := { desc := (Go.TypeDesc.func #[] #[116] false), size := 1, bytes := 8, zero := Go.Value.nilFunc }
theorem tok274 : TOk Try.prog 274 ti274 := ⟨Try.underlying274, Try.t274, by kernel_rfl, rfl, rfl, rfl⟩
def ti275 : TI := { desc := (Go.TypeDesc.pointer 278), size := 1, bytes := 8, zero := (Go.Value.pointer none) }
theorem tok275 : TOk Try.prog 275 ti275 := ⟨Try.underlying275, Try.t275, by kernel_rfl, rfl, rfl, rfl⟩
def ti276 : TI := { desc := (Go.TypeDesc.func #[] #[275] false), size := 1, bytes := 8, zero := Go.Value.nilFunc }
theorem tok276 : TOk Try.prog 276 ti276 := ⟨Try.underlying276, Try.t276, by kernel_rfl, rfl, rfl, rfl⟩
def ti277 : TI := { desc := (Go.TypeDesc.struct #[{ name := "n", type := 116, offset := 0, embedded := false, tag := "", pkgPath := "damier/walk", byteOffset := 0 }, { name := "first", type := 3, offset := 1, embedded := false, tag := "", pkgPath := "damier/walk", byteOffset := 8 }, { name := "next", type := 3, offset := 2, embedded := false, tag := "", pkgPath := "damier/walk", byteOffset := 16 }]), size := 3, bytes := 24, zero := (Go.Value.agg #[Go.Value.pointer none, Go.Value.int Go.IntKind.i64 0, Go.Value.int Go.IntKind.i64 0]) }
theorem tok277 : TOk Try.prog 277 ti277 := ⟨Try.underlying277, Try.t277, by kernel_rfl, rfl, rfl, rfl⟩
def ti278 : TI := { desc := (Go.TypeDesc.struct #[{ name := "n", type := 116, offset := 0, embedded := false, tag := "", pkgPath := "damier/walk", byteOffset := 0 }, { name := "first", type := 3, offset := 1, embedded := false, tag := "", pkgPath := "damier/walk", byteOffset := 8 }, { name := "next", type := 3, offset := 2, embedded := false, tag := "", pkgPath := "damier/walk", byteOffset := 16 }]), size := 3, bytes := 24, zero := (Go.Value.agg #[Go.Value.pointer none, Go.Value.int Go.IntKind.i64 0, Go.Value.int Go.IntKind.i64 0]) }
theorem tok278 : TOk Try.prog 278 ti278 := ⟨Try.underlying278, Try.t278, by kernel_rfl, rfl, rfl, rfl⟩
def ti279 : TI := { desc := (Go.TypeDesc.func #[246] #[246] false), size := 1, bytes := 8, zero := Go.Value.nilFunc }
theorem tok279 : TOk Try.prog 279 ti279 := ⟨Try.underlying279, Try.t279, by kernel_rfl, rfl, rfl, rfl⟩
def ti280 : TI := { desc := (Go.TypeDesc.slice 208), size := 1, bytes := 24, zero := (Go.Value.slice none 0 0) }
theorem tok280 : TOk Try.prog 280 ti280 := ⟨Try.underlying280, Try.t280, by kernel_rfl, rfl, rfl, rfl⟩
def ti281 : TI := { desc := (Go.TypeDesc.func #[208] #[280] false), size := 1, bytes := 8, zero := Go.Value.nilFunc }
theorem tok281 : TOk Try.prog 281 ti281 := ⟨Try.underlying281, Try.t281, by kernel_rfl, rfl, rfl, rfl⟩
def ti282 : TI := { desc := (Go.TypeDesc.func #[208] #[116] false), size := 1, bytes := 8, zero := Go.Value.nilFunc }
theorem tok282 : TOk Try.prog 282 ti282 := ⟨Try.underlying282, Try.t282, by kernel_rfl, rfl, rfl, rfl⟩
def ti283 : TI := { desc := (Go.TypeDesc.slice 88), size := 1, bytes := 24, zero := (Go.Value.slice none 0 0) }
theorem tok283 : TOk Try.prog 283 ti283 := ⟨Try.underlying283, Try.t283, by kernel_rfl, rfl, rfl, rfl⟩
def ti284 : TI := { desc := (Go.TypeDesc.func #[3, 3] #[] false), size := 1, bytes := 8, zero := Go.Value.nilFunc }
theorem tok284 : TOk Try.prog 284 ti284 := ⟨Try.underlying284, Try.t284, by kernel_rfl, rfl, rfl, rfl⟩
def ti285 : TI := { desc := (Go.TypeDesc.func #[25] #[3, 3] false), size := 1, bytes := 8, zero := Go.Value.nilFunc }
theorem tok285 : TOk Try.prog 285 ti285 := ⟨Try.underlying285, Try.t285, by kernel_rfl, rfl, rfl, rfl⟩
def ti286 : TI := { desc := (Go.TypeDesc.int Go.IntKind.u32), size := 1, bytes := 4, zero := (Go.Value.int Go.IntKind.u32 0) }
theorem tok286 : TOk Try.prog 286 ti286 := ⟨Try.underlying286, Try.t286, by kernel_rfl, rfl, rfl, rfl⟩
def ti287 : TI := { desc := (Go.TypeDesc.tuple #[286, 286]), size := 1, bytes := 0, zero := (Go.Value.tuple #[Go.Value.int Go.IntKind.u32 0, Go.Value.int Go.IntKind.u32 0]) }
theorem tok287 : TOk Try.prog 287 ti287 := ⟨Try.underlying287, Try.t287, by kernel_rfl, rfl, rfl, rfl⟩
def ti288 : TI := { desc := (Go.TypeDesc.func #[25] #[286, 286] false), size := 1, bytes := 8, zero := Go.Value.nilFunc }
theorem tok288 : TOk Try.prog 288 ti288 := ⟨Try.underlying288, Try.t288, by kernel_rfl, rfl, rfl, rfl⟩
def ti289 : TI := { desc := (Go.TypeDesc.func #[208, 3, 3, 208] #[208] true), size := 1, bytes := 8, zero := Go.Value.nilFunc }
theorem tok289 : TOk Try.prog 289 ti289 := ⟨Try.underlying289, Try.t289, by kernel_rfl, rfl, rfl, rfl⟩
def ti290 : TI := { desc := (Go.TypeDesc.func #[246] #[116] false), size := 1, bytes := 8, zero := Go.Value.nilFunc }
theorem tok290 : TOk Try.prog 290 ti290 := ⟨Try.underlying290, Try.t290, by kernel_rfl, rfl, rfl, rfl⟩
def ti291 : TI := { desc := (Go.TypeDesc.func #[246, 3, 3, 246] #[246] true), size := 1, bytes := 8, zero := Go.Value.nilFunc }
theorem tok291 : TOk Try.prog 291 ti291 := ⟨Try.underlying291, Try.t291, by kernel_rfl, rfl, rfl, rfl⟩
def ti292 : TI := { desc := (Go.TypeDesc.pointer 272), size := 1, bytes := 8, zero := (Go.Value.pointer none) }
theorem tok292 : TOk Try.prog 292 ti292 := ⟨Try.underlying292, Try.t292, by kernel_rfl, rfl, rfl, rfl⟩
def ti293 : TI := { desc := (Go.TypeDesc.slice 246), size := 1, bytes := 24, zero := (Go.Value.slice none 0 0) }
theorem tok293 : TOk Try.prog 293 ti293 := ⟨Try.underlying293, Try.t293, by kernel_rfl, rfl, rfl, rfl⟩
def ti294 : TI := { desc := (Go.TypeDesc.func #[246] #[293] false), size := 1, bytes := 8, zero := Go.Value.nilFunc }
theorem tok294 : TOk Try.prog 294 ti294 := ⟨Try.underlying294, Try.t294, by kernel_rfl, rfl, rfl, rfl⟩
def ti295 : TI := { desc := (Go.TypeDesc.func #[208] #[208] false), size := 1, bytes := 8, zero := Go.Value.nilFunc }
theorem tok295 : TOk Try.prog 295 ti295 := ⟨Try.underlying295, Try.t295, by kernel_rfl, rfl, rfl, rfl⟩
def ti296 : TI := { desc := (Go.TypeDesc.pointer 283), size := 1, bytes := 8, zero := (Go.Value.pointer none) }
theorem tok296 : TOk Try.prog 296 ti296 := ⟨Try.underlying296, Try.t296, by kernel_rfl, rfl, rfl, rfl⟩
def ti297 : TI := { desc := (Go.TypeDesc.func #[5] #[3, 3] false), size := 1, bytes := 8, zero := Go.Value.nilFunc }
theorem tok297 : TOk Try.prog 297 ti297 := ⟨Try.underlying297, Try.t297, by kernel_rfl, rfl, rfl, rfl⟩
def ti298 : TI := { desc := (Go.TypeDesc.func #[280] #[208] true), size := 1, bytes := 8, zero := Go.Value.nilFunc }
theorem tok298 : TOk Try.prog 298 ti298 := ⟨Try.underlying298, Try.t298, by kernel_rfl, rfl, rfl, rfl⟩
def ti299 : TI := { desc := (Go.TypeDesc.func #[293] #[246] true), size := 1, bytes := 8, zero := Go.Value.nilFunc }
theorem tok299 : TOk Try.prog 299 ti299 := ⟨Try.underlying299, Try.t299, by kernel_rfl, rfl, rfl, rfl⟩
def ti300 : TI := { desc := (Go.TypeDesc.func #[208, 3] #[208] false), size := 1, bytes := 8, zero := Go.Value.nilFunc }
theorem tok300 : TOk Try.prog 300 ti300 := ⟨Try.underlying300, Try.t300, by kernel_rfl, rfl, rfl, rfl⟩
def ti301 : TI := { desc := (Go.TypeDesc.func #[246, 3] #[246] false), size := 1, bytes := 8, zero := Go.Value.nilFunc }
theorem tok301 : TOk Try.prog 301 ti301 := ⟨Try.underlying301, Try.t301, by kernel_rfl, rfl, rfl, rfl⟩
def ti302 : TI := { desc := (Go.TypeDesc.func #[] #[9] false), size := 1, bytes := 8, zero := Go.Value.nilFunc }
theorem tok302 : TOk Try.prog 302 ti302 := ⟨Try.underlying302, Try.t302, by kernel_rfl, rfl, rfl, rfl⟩
def ti303 : TI := { desc := (Go.TypeDesc.struct #[{ name := "_interface", type := 17, offset := 0, embedded := false, tag := "", pkgPath := "runtime", byteOffset := 0 }, { name := "concrete", type := 17, offset := 1, embedded := false, tag := "", pkgPath := "runtime", byteOffset := 8 }, { name := "asserted", type := 17, offset := 2, embedded := false, tag := "", pkgPath := "runtime", byteOffset := 16 }, { name := "missingMethod", type := 9, offset := 3, embedded := false, tag := "", pkgPath := "runtime", byteOffset := 24 }]), size := 4, bytes := 40, zero := (Go.Value.agg #[Go.Value.pointer none, Go.Value.pointer none, Go.Value.pointer none, Go.Value.string { data := #[] }]) }
theorem tok303 : TOk Try.prog 303 ti303 := ⟨Try.underlying303, Try.t303, by kernel_rfl, rfl, rfl, rfl⟩
def ti304 : TI := { desc := (Go.TypeDesc.struct #[{ name := "_interface", type := 17, offset := 0, embedded := false, tag := "", pkgPath := "runtime", byteOffset := 0 }, { name := "concrete", type := 17, offset := 1, embedded := false, tag := "", pkgPath := "runtime", byteOffset := 8 }, { name := "asserted", type := 17, offset := 2, embedded := false, tag := "", pkgPath := "runtime", byteOffset := 16 }, { name := "missingMethod", type := 9, offset := 3, embedded := false, tag := "", pkgPath := "runtime", byteOffset := 24 }]), size := 4, bytes := 40, zero := (Go.Value.agg #[Go.Value.pointer none, Go.Value.pointer none, Go.Value.pointer none, Go.Value.string { data := #[] }]) }
theorem tok304 : TOk Try.prog 304 ti304 := ⟨Try.underlying304, Try.t304, by kernel_rfl, rfl, rfl, rfl⟩
def ti305 : TI := { desc := (Go.TypeDesc.array 0 16), size := 0, bytes := 0, zero := (Go.Value.agg #[]) }
theorem tok305 : TOk Try.prog 305 ti305 := ⟨Try.underlying305, Try.t305, by kernel_rfl, rfl, rfl, rfl⟩
def ti306 : TI := { desc := (Go.TypeDesc.struct #[{ name := "_", type := 305, offset := 0, embedded := false, tag := "", pkgPath := "runtime", byteOffset := 0 }]), size := 0, bytes := 0, zero := (Go.Value.agg #[]) }
theorem tok306 : TOk Try.prog 306 ti306 := ⟨Try.underlying306, Try.t306, by kernel_rfl, rfl, rfl, rfl⟩
def ti307 : TI := { desc := (Go.TypeDesc.struct #[{ name := "_", type := 305, offset := 0, embedded := false, tag := "", pkgPath := "runtime", byteOffset := 0 }]), size := 0, bytes := 0, zero := (Go.Value.agg #[]) }
theorem tok307 : TOk Try.prog 307 ti307 := ⟨Try.underlying307, Try.t307, by kernel_rfl, rfl, rfl, rfl⟩
def ti308 : TI := { desc := (Go.TypeDesc.int Go.IntKind.u8), size := 1, bytes := 1, zero := (Go.Value.int Go.IntKind.u8 0) }
theorem tok308 : TOk Try.prog 308 ti308 := ⟨Try.underlying308, Try.t308, by kernel_rfl, rfl, rfl, rfl⟩
def ti309 : TI := { desc := (Go.TypeDesc.int Go.IntKind.u8), size := 1, bytes := 1, zero := (Go.Value.int Go.IntKind.u8 0) }
theorem tok309 : TOk Try.prog 309 ti309 := ⟨Try.underlying309, Try.t309, by kernel_rfl, rfl, rfl, rfl⟩
def ti310 : TI := { desc := (Go.TypeDesc.func #[316, 316] #[4] false), size := 1, bytes := 8, zero := Go.Value.nilFunc }
theorem tok310 : TOk Try.prog 310 ti310 := ⟨Try.underlying310, Try.t310, by kernel_rfl, rfl, rfl, rfl⟩
def ti311 : TI := { desc := (Go.TypeDesc.pointer 5), size := 1, bytes := 8, zero := (Go.Value.pointer none) }
theorem tok311 : TOk Try.prog 311 ti311 := ⟨Try.underlying311, Try.t311, by kernel_rfl, rfl, rfl, rfl⟩
def ti312 : TI := { desc := (Go.TypeDesc.int Go.IntKind.i32), size := 1, bytes := 4, zero := (Go.Value.int Go.IntKind.i32 0) }
theorem tok312 : TOk Try.prog 312 ti312 := ⟨Try.underlying312, Try.t312, by kernel_rfl, rfl, rfl, rfl⟩
def ti313 : TI := { desc := (Go.TypeDesc.int Go.IntKind.i32), size := 1, bytes := 4, zero := (Go.Value.int Go.IntKind.i32 0) }
theorem tok313 : TOk Try.prog 313 ti313 := ⟨Try.underlying313, Try.t313, by kernel_rfl, rfl, rfl, rfl⟩
def ti314 : TI := { desc := (Go.TypeDesc.struct #[{ name := "Size_", type := 12, offset := 0, embedded := false, tag := "", pkgPath := "", byteOffset := 0 }, { name := "PtrBytes", type := 12, offset := 1, embedded := false, tag := "", pkgPath := "", byteOffset := 8 }, { name := "Hash", type := 286, offset := 2, embedded := false, tag := "", pkgPath := "", byteOffset := 16 }, { name := "TFlag", type := 308, offset := 3, embedded := false, tag := "", pkgPath := "", byteOffset := 20 }, { name := "Align_", type := 5, offset := 4, embedded := false, tag := "", pkgPath := "", byteOffset := 21 }, { name := "FieldAlign_", type := 5, offset := 5, embedded := false, tag := "", pkgPath := "", byteOffset := 22 }, { name := "Kind_", type := 309, offset := 6, embedded := false, tag := "", pkgPath := "", byteOffset := 23 }, { name := "Equal", type := 310, offset := 7, embedded := false, tag := "", pkgPath := "", byteOffset := 24 }, { name := "GCData", type := 311, offset := 8, embedded := false, tag := "", pkgPath := "", byteOffset := 32 }, { name := "Str", type := 312, offset := 9, embedded := false, tag := "", pkgPath := "", byteOffset := 40 }, { name := "PtrToThis", type := 313, offset := 10, embedded := false, tag := "", pkgPath := "", byteOffset := 44 }]), size := 11, bytes := 48, zero := (Go.Value.agg #[Go.Value.int Go.IntKind.u64 0, Go.Value.int Go.IntKind.u64 0, Go.Value.int Go.IntKind.u32 0, Go.Value.int Go.IntKind.u8 0, Go.Value.int Go.IntKind.u8 0, Go.Value.int Go.IntKind.u8 0, Go.Value.int Go.IntKind.u8 0, Go.Value.nilFunc, Go.Value.pointer none, Go.Value.int Go.IntKind.i32 0, Go.Value.int Go.IntKind.i32 0]) }
theorem tok314 : TOk Try.prog 314 ti314 := ⟨Try.underlying314, Try.t314, by kernel_rfl, rfl, rfl, rfl⟩
def ti315 : TI := { desc := (Go.TypeDesc.struct #[{ name := "Size_", type := 12, offset := 0, embedded := false, tag := "", pkgPath := "", byteOffset := 0 }, { name := "PtrBytes", type := 12, offset := 1, embedded := false, tag := "", pkgPath := "", byteOffset := 8 }, { name := "Hash", type := 286, offset := 2, embedded := false, tag := "", pkgPath := "", byteOffset := 16 }, { name := "TFlag", type := 308, offset := 3, embedded := false, tag := "", pkgPath := "", byteOffset := 20 }, { name := "Align_", type := 5, offset := 4, embedded := false, tag := "", pkgPath := "", byteOffset := 21 }, { name := "FieldAlign_", type := 5, offset := 5, embedded := false, tag := "", pkgPath := "", byteOffset := 22 }, { name := "Kind_", type := 309, offset := 6, embedded := false, tag := "", pkgPath := "", byteOffset := 23 }, { name := "Equal", type := 310, offset := 7, embedded := false, tag := "", pkgPath := "", byteOffset := 24 }, { name := "GCData", type := 311, offset := 8, embedded := false, tag := "", pkgPath := "", byteOffset := 32 }, { name := "Str", type := 312, offset := 9, embedded := false, tag := "", pkgPath := "", byteOffset := 40 }, { name := "PtrToThis", type := 313, offset := 10, embedded := false, tag := "", pkgPath := "", byteOffset := 44 }]), size := 11, bytes := 48, zero := (Go.Value.agg #[Go.Value.int Go.IntKind.u64 0, Go.Value.int Go.IntKind.u64 0, Go.Value.int Go.IntKind.u32 0, Go.Value.int Go.IntKind.u8 0, Go.Value.int Go.IntKind.u8 0, Go.Value.int Go.IntKind.u8 0, Go.Value.int Go.IntKind.u8 0, Go.Value.nilFunc, Go.Value.pointer none, Go.Value.int Go.IntKind.i32 0, Go.Value.int Go.IntKind.i32 0]) }
theorem tok315 : TOk Try.prog 315 ti315 := ⟨Try.underlying315, Try.t315, by kernel_rfl, rfl, rfl, rfl⟩
def ti316 : TI := { desc := Go.TypeDesc.unsafePointer, size := 1, bytes := 8, zero := (Go.Value.pointer none) }
theorem tok316 : TOk Try.prog 316 ti316 := ⟨Try.underlying316, Try.t316, by kernel_rfl, rfl, rfl, rfl⟩
def tab : List (TypeId × TI) := [(0, ti0), (1, ti1), (2, ti2), (3, ti3), (4, ti4), (5, ti5), (6, ti6), (7, ti7), (8, ti8), (9, ti9), (10, ti10), (11, ti11), (12, ti12), (13, ti13), (14, ti14), (15, ti15), (16, ti16), (17, ti17), (18, ti18), (19, ti19), (20, ti20), (21, ti21), (22, ti22), (23, ti23), (24, ti24), (25, ti25), (26, ti26), (27, ti27), (28, ti28), (29, ti29), (30, ti30), (31, ti31), (32, ti32), (33, ti33), (34, ti34), (35, ti35), (36, ti36), (37, ti37), (38, ti38), (39, ti39), (40, ti40), (41, ti41), (42, ti42), (43, ti43), (44, ti44), (45, ti45), (46, ti46), (47, ti47), (48, ti48), (49, ti49), (50, ti50), (51, ti51), (52, ti52), (53, ti53), (54, ti54), (55, ti55), (56, ti56), (57, ti57), (58, ti58), (59, ti59), (60, ti60), (61, ti61), (62, ti62), (63, ti63), (64, ti64), (65, ti65), (66, ti66), (67, ti67), (68, ti68), (69, ti69), (70, ti70), (71, ti71), (72, ti72), (73, ti73), (74, ti74), (75, ti75), (76, ti76), (77, ti77), (78, ti78), (79, ti79), (80, ti80), (81, ti81), (82, ti82), (83, ti83), (84, ti84), (85, ti85), (86, ti86), (87, ti87), (88, ti88), (89, ti89), (90, ti90), (91, ti91), (92, ti92), (93, ti93), (94, ti94), (95, ti95), (96, ti96), (97, ti97), (98, ti98), (99, ti99), (100, ti100), (101, ti101), (102, ti102), (103, ti103), (104, ti104), (105, ti105), (106, ti106), (107, ti107), (108, ti108), (109, ti109), (110, ti110), (111, ti111), (112, ti112), (113, ti113), (114, ti114), (115, ti115), (116, ti116), (117, ti117), (118, ti118), (119, ti119), (120, ti120), (121, ti121), (122, ti122), (123, ti123), (124, ti124), (125, ti125), (126, ti126), (127, ti127), (128, ti128), (129, ti129), (130, ti130), (131, ti131), (132, ti132), (133, ti133), (134, ti134), (135, ti135), (136, ti136), (137, ti137), (138, ti138), (139, ti139), (140, ti140), (141, ti141), (142, ti142), (143, ti143), (144, ti144), (145, ti145), (146, ti146), (147, ti147), (148, ti148), (149, ti149), (150, ti150), (151, ti151), (152, ti152), (153, ti153), (154, ti154), (155, ti155), (156, ti156), (157, ti157), (158, ti158), (159, ti159), (160, ti160), (161, ti161), (162, ti162), (163, ti163), (164, ti164), (165, ti165), (166, ti166), (167, ti167), (168, ti168), (169, ti169), (170, ti170), (171, ti171), (172, ti172), (173, ti173), (174, ti174), (175, ti175), (176, ti176), (177, ti177), (178, ti178), (179, ti179), (180, ti180), (181, ti181), (182, ti182), (183, ti183), (184, ti184), (185, ti185), (186, ti186), (187, ti187), (188, ti188), (189, ti189), (190, ti190), (191, ti191), (192, ti192), (193, ti193), (194, ti194), (195, ti195), (196, ti196), (197, ti197), (198, ti198), (199, ti199), (200, ti200), (201, ti201), (202, ti202), (203, ti203), (204, ti204), (205, ti205), (206, ti206), (207, ti207), (208, ti208), (209, ti209), (210, ti210), (211, ti211), (212, ti212), (213, ti213), (214, ti214), (215, ti215), (216, ti216), (217, ti217), (218, ti218), (219, ti219), (220, ti220), (221, ti221), (222, ti222), (223, ti223), (224, ti224), (225, ti225), (226, ti226), (227, ti227), (228, ti228), (229, ti229), (230, ti230), (231, ti231), (232, ti232), (233, ti233), (234, ti234), (235, ti235), (236, ti236), (237, ti237), (238, ti238), (239, ti239), (240, ti240), (241, ti241), (242, ti242), (243, ti243), (244, ti244), (245, ti245), (246, ti246), (247, ti247), (248, ti248), (249, ti249), (250, ti250), (251, ti251), (252, ti252), (253, ti253), (254, ti254), (255, ti255), (256, ti256), (257, ti257), (258, ti258), (259, ti259), (260, ti260), (261, ti261), (262, ti262), (263, ti263), (264, ti264), (265, ti265), (266, ti266), (267, ti267), (268, ti268), (269, ti269), (270, ti270), (271, ti271), (272, ti272), (273, ti273), (274, ti274), (275, ti275), (276, ti276), (277, ti277), (278, ti278), (279, ti279), (280, ti280), (281, ti281), (282, ti282), (283, ti283), (284, ti284), (285, ti285), (286, ti286), (287, ti287), (288, ti288), (289, ti289), (290, ti290), (291, ti291), (292, ti292), (293, ti293), (294, ti294), (295, ti295), (296, ti296), (297, ti297), (298, ti298), (299, ti299), (300, ti300), (301, ti301), (302, ti302), (303, ti303), (304, ti304), (305, ti305), (306, ti306), (307, ti307), (308, ti308), (309, ti309), (310, ti310), (311, ti311), (312, ti312), (313, ti313), (314, ti314), (315, ti315), (316, ti316)]
set_option maxRecDepth 100000 in
theorem tabOk : AllT Try.prog tab := .cons tok0 (.cons tok1 (.cons tok2 (.cons tok3 (.cons tok4 (.cons tok5 (.cons tok6 (.cons tok7 (.cons tok8 (.cons tok9 (.cons tok10 (.cons tok11 (.cons tok12 (.cons tok13 (.cons tok14 (.cons tok15 (.cons tok16 (.cons tok17 (.cons tok18 (.cons tok19 (.cons tok20 (.cons tok21 (.cons tok22 (.cons tok23 (.cons tok24 (.cons tok25 (.cons tok26 (.cons tok27 (.cons tok28 (.cons tok29 (.cons tok30 (.cons tok31 (.cons tok32 (.cons tok33 (.cons tok34 (.cons tok35 (.cons tok36 (.cons tok37 (.cons tok38 (.cons tok39 (.cons tok40 (.cons tok41 (.cons tok42 (.cons tok43 (.cons tok44 (.cons tok45 (.cons tok46 (.cons tok47 (.cons tok48 (.cons tok49 (.cons tok50 (.cons tok51 (.cons tok52 (.cons tok53 (.cons tok54 (.cons tok55 (.cons tok56 (.cons tok57 (.cons tok58 (.cons tok59 (.cons tok60 (.cons tok61 (.cons tok62 (.cons tok63 (.cons tok64 (.cons tok65 (.cons tok66 (.cons tok67 (.cons tok68 (.cons tok69 (.cons tok70 (.cons tok71 (.cons tok72 (.cons tok73 (.cons tok74 (.cons tok75 (.cons tok76 (.cons tok77 (.cons tok78 (.cons tok79 (.cons tok80 (.cons tok81 (.cons tok82 (.cons tok83 (.cons tok84 (.cons tok85 (.cons tok86 (.cons tok87 (.cons tok88 (.cons tok89 (.cons tok90 (.cons tok91 (.cons tok92 (.cons tok93 (.cons tok94 (.cons tok95 (.cons tok96 (.cons tok97 (.cons tok98 (.cons tok99 (.cons tok100 (.cons tok101 (.cons tok102 (.cons tok103 (.cons tok104 (.cons tok105 (.cons tok106 (.cons tok107 (.cons tok108 (.cons tok109 (.cons tok110 (.cons tok111 (.cons tok112 (.cons tok113 (.cons tok114 (.cons tok115 (.cons tok116 (.cons tok117 (.cons tok118 (.cons tok119 (.cons tok120 (.cons tok121 (.cons tok122 (.cons tok123 (.cons tok124 (.cons tok125 (.cons tok126 (.cons tok127 (.cons tok128 (.cons tok129 (.cons tok130 (.cons tok131 (.cons tok132 (.cons tok133 (.cons tok134 (.cons tok135 (.cons tok136 (.cons tok137 (.cons tok138 (.cons tok139 (.cons tok140 (.cons tok141 (.cons tok142 (.cons tok143 (.cons tok144 (.cons tok145 (.cons tok146 (.cons tok147 (.cons tok148 (.cons tok149 (.cons tok150 (.cons tok151 (.cons tok152 (.cons tok153 (.cons tok154 (.cons tok155 (.cons tok156 (.cons tok157 (.cons tok158 (.cons tok159 (.cons tok160 (.cons tok161 (.cons tok162 (.cons tok163 (.cons tok164 (.cons tok165 (.cons tok166 (.cons tok167 (.cons tok168 (.cons tok169 (.cons tok170 (.cons tok171 (.cons tok172 (.cons tok173 (.cons tok174 (.cons tok175 (.cons tok176 (.cons tok177 (.cons tok178 (.cons tok179 (.cons tok180 (.cons tok181 (.cons tok182 (.cons tok183 (.cons tok184 (.cons tok185 (.cons tok186 (.cons tok187 (.cons tok188 (.cons tok189 (.cons tok190 (.cons tok191 (.cons tok192 (.cons tok193 (.cons tok194 (.cons tok195 (.cons tok196 (.cons tok197 (.cons tok198 (.cons tok199 (.cons tok200 (.cons tok201 (.cons tok202 (.cons tok203 (.cons tok204 (.cons tok205 (.cons tok206 (.cons tok207 (.cons tok208 (.cons tok209 (.cons tok210 (.cons tok211 (.cons tok212 (.cons tok213 (.cons tok214 (.cons tok215 (.cons tok216 (.cons tok217 (.cons tok218 (.cons tok219 (.cons tok220 (.cons tok221 (.cons tok222 (.cons tok223 (.cons tok224 (.cons tok225 (.cons tok226 (.cons tok227 (.cons tok228 (.cons tok229 (.cons tok230 (.cons tok231 (.cons tok232 (.cons tok233 (.cons tok234 (.cons tok235 (.cons tok236 (.cons tok237 (.cons tok238 (.cons tok239 (.cons tok240 (.cons tok241 (.cons tok242 (.cons tok243 (.cons tok244 (.cons tok245 (.cons tok246 (.cons tok247 (.cons tok248 (.cons tok249 (.cons tok250 (.cons tok251 (.cons tok252 (.cons tok253 (.cons tok254 (.cons tok255 (.cons tok256 (.cons tok257 (.cons tok258 (.cons tok259 (.cons tok260 (.cons tok261 (.cons tok262 (.cons tok263 (.cons tok264 (.cons tok265 (.cons tok266 (.cons tok267 (.cons tok268 (.cons tok269 (.cons tok270 (.cons tok271 (.cons tok272 (.cons tok273 (.cons tok274 (.cons tok275 (.cons tok276 (.cons tok277 (.cons tok278 (.cons tok279 (.cons tok280 (.cons tok281 (.cons tok282 (.cons tok283 (.cons tok284 (.cons tok285 (.cons tok286 (.cons tok287 (.cons tok288 (.cons tok289 (.cons tok290 (.cons tok291 (.cons tok292 (.cons tok293 (.cons tok294 (.cons tok295 (.cons tok296 (.cons tok297 (.cons tok298 (.cons tok299 (.cons tok300 (.cons tok301 (.cons tok302 (.cons tok303 (.cons tok304 (.cons tok305 (.cons tok306 (.cons tok307 (.cons tok308 (.cons tok309 (.cons tok310 (.cons tok311 (.cons tok312 (.cons tok313 (.cons tok314 (.cons tok315 (.cons tok316 (.nil)))))))))))))))))))))))))))))))))))))))))))))))))))))))))))))))))))))))))))))))))))))))))))))))))))))))))))))))))))))))))))))))))))))))))))))))))))))))))))))))))))))))))))))))))))))))))))))))))))))))))))))))))))))))))))))))))))))))))))))))))))))))))))))))))))))))))))))))))))))))))))))))))))))))))))))))))))))))))))))
noncomputable def X : Prg := { P := Try.prog, tab := tab, tok := tabOk.lkT }
end Go.Proofs.Ytbcbggdgkdfciaa.S
