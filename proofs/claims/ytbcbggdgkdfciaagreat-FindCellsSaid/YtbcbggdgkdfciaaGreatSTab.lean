/- The types of the program, as a table. -/
import Derived.Test.YtbcbggdgkdfciaaGreatSF
import Derived.Test.YtbcbggdgkdfciaaGreatProg
import Derived.KernelRfl
namespace Go.Proofs.YtbcbggdgkdfciaaGreat.S
open Go Go.Sm
def ti0 : TI := { desc := (Go.TypeDesc.tuple #[]), size := 1, bytes := 0, zero := (Go.Value.tuple #[]) }
theorem tok0 : TOk Tryz.prog 0 ti0 := ⟨Tryz.underlying0, Tryz.t0, by kernel_rfl, rfl, rfl, rfl⟩
def ti1 : TI := { desc := (Go.TypeDesc.func #[] #[] false), size := 1, bytes := 8, zero := Go.Value.nilFunc }
theorem tok1 : TOk Tryz.prog 1 ti1 := ⟨Tryz.underlying1, Tryz.t1, by kernel_rfl, rfl, rfl, rfl⟩
def ti2 : TI := { desc := (Go.TypeDesc.int Go.IntKind.i64), size := 1, bytes := 8, zero := (Go.Value.int Go.IntKind.i64 0) }
theorem tok2 : TOk Tryz.prog 2 ti2 := ⟨Tryz.underlying2, Tryz.t2, by kernel_rfl, rfl, rfl, rfl⟩
def ti3 : TI := { desc := (Go.TypeDesc.int Go.IntKind.i64), size := 1, bytes := 8, zero := (Go.Value.int Go.IntKind.i64 0) }
theorem tok3 : TOk Tryz.prog 3 ti3 := ⟨Tryz.underlying3, Tryz.t3, by kernel_rfl, rfl, rfl, rfl⟩
def ti4 : TI := { desc := Go.TypeDesc.bool, size := 1, bytes := 1, zero := (Go.Value.bool false) }
theorem tok4 : TOk Tryz.prog 4 ti4 := ⟨Tryz.underlying4, Tryz.t4, by kernel_rfl, rfl, rfl, rfl⟩
def ti5 : TI := { desc := (Go.TypeDesc.int Go.IntKind.u8), size := 1, bytes := 1, zero := (Go.Value.int Go.IntKind.u8 0) }
theorem tok5 : TOk Tryz.prog 5 ti5 := ⟨Tryz.underlying5, Tryz.t5, by kernel_rfl, rfl, rfl, rfl⟩
def ti6 : TI := { desc := (Go.TypeDesc.int Go.IntKind.u8), size := 1, bytes := 1, zero := (Go.Value.int Go.IntKind.u8 0) }
theorem tok6 : TOk Tryz.prog 6 ti6 := ⟨Tryz.underlying6, Tryz.t6, by kernel_rfl, rfl, rfl, rfl⟩
def ti7 : TI := { desc := (Go.TypeDesc.struct #[{ name := "x", type := 2, offset := 0, embedded := false, tag := "", pkgPath := "runtime", byteOffset := 0 }, { name := "y", type := 3, offset := 1, embedded := false, tag := "", pkgPath := "runtime", byteOffset := 8 }, { name := "signed", type := 4, offset := 2, embedded := false, tag := "", pkgPath := "runtime", byteOffset := 16 }, { name := "code", type := 6, offset := 3, embedded := false, tag := "", pkgPath := "runtime", byteOffset := 17 }]), size := 4, bytes := 24, zero := (Go.Value.agg #[Go.Value.int Go.IntKind.i64 0, Go.Value.int Go.IntKind.i64 0, Go.Value.bool false, Go.Value.int Go.IntKind.u8 0]) }
theorem tok7 : TOk Tryz.prog 7 ti7 := ⟨Tryz.underlying7, Tryz.t7, by kernel_rfl, rfl, rfl, rfl⟩
def ti8 : TI := { desc := (Go.TypeDesc.struct #[{ name := "x", type := 2, offset := 0, embedded := false, tag := "", pkgPath := "runtime", byteOffset := 0 }, { name := "y", type := 3, offset := 1, embedded := false, tag := "", pkgPath := "runtime", byteOffset := 8 }, { name := "signed", type := 4, offset := 2, embedded := false, tag := "", pkgPath := "runtime", byteOffset := 16 }, { name := "code", type := 6, offset := 3, embedded := false, tag := "", pkgPath := "runtime", byteOffset := 17 }]), size := 4, bytes := 24, zero := (Go.Value.agg #[Go.Value.int Go.IntKind.i64 0, Go.Value.int Go.IntKind.i64 0, Go.Value.bool false, Go.Value.int Go.IntKind.u8 0]) }
theorem tok8 : TOk Tryz.prog 8 ti8 := ⟨Tryz.underlying8, Tryz.t8, by kernel_rfl, rfl, rfl, rfl⟩
def ti9 : TI := { desc := Go.TypeDesc.string, size := 1, bytes := 16, zero := (Go.Value.string { data := #[] }) }
theorem tok9 : TOk Tryz.prog 9 ti9 := ⟨Tryz.underlying9, Tryz.t9, by kernel_rfl, rfl, rfl, rfl⟩
def ti10 : TI := { desc := Go.TypeDesc.string, size := 1, bytes := 16, zero := (Go.Value.string { data := #[] }) }
theorem tok10 : TOk Tryz.prog 10 ti10 := ⟨Tryz.underlying10, Tryz.t10, by kernel_rfl, rfl, rfl, rfl⟩
def ti11 : TI := { desc := Go.TypeDesc.string, size := 1, bytes := 16, zero := (Go.Value.string { data := #[] }) }
theorem tok11 : TOk Tryz.prog 11 ti11 := ⟨Tryz.underlying11, Tryz.t11, by kernel_rfl, rfl, rfl, rfl⟩
def ti12 : TI := { desc := (Go.TypeDesc.int Go.IntKind.u64), size := 1, bytes := 8, zero := (Go.Value.int Go.IntKind.u64 0) }
theorem tok12 : TOk Tryz.prog 12 ti12 := ⟨Tryz.underlying12, Tryz.t12, by kernel_rfl, rfl, rfl, rfl⟩
def ti13 : TI := { desc := (Go.TypeDesc.struct #[{ name := "msg", type := 9, offset := 0, embedded := false, tag := "", pkgPath := "runtime", byteOffset := 0 }, { name := "addr", type := 12, offset := 1, embedded := false, tag := "", pkgPath := "runtime", byteOffset := 16 }]), size := 2, bytes := 24, zero := (Go.Value.agg #[Go.Value.string { data := #[] }, Go.Value.int Go.IntKind.u64 0]) }
theorem tok13 : TOk Tryz.prog 13 ti13 := ⟨Tryz.underlying13, Tryz.t13, by kernel_rfl, rfl, rfl, rfl⟩
def ti14 : TI := { desc := (Go.TypeDesc.struct #[{ name := "msg", type := 9, offset := 0, embedded := false, tag := "", pkgPath := "runtime", byteOffset := 0 }, { name := "addr", type := 12, offset := 1, embedded := false, tag := "", pkgPath := "runtime", byteOffset := 16 }]), size := 2, bytes := 24, zero := (Go.Value.agg #[Go.Value.string { data := #[] }, Go.Value.int Go.IntKind.u64 0]) }
theorem tok14 : TOk Tryz.prog 14 ti14 := ⟨Tryz.underlying14, Tryz.t14, by kernel_rfl, rfl, rfl, rfl⟩
def ti15 : TI := { desc := (Go.TypeDesc.pointer 199), size := 1, bytes := 8, zero := (Go.Value.pointer none) }
theorem tok15 : TOk Tryz.prog 15 ti15 := ⟨Tryz.underlying15, Tryz.t15, by kernel_rfl, rfl, rfl, rfl⟩
def ti16 : TI := { desc := (Go.TypeDesc.pointer 202), size := 1, bytes := 8, zero := (Go.Value.pointer none) }
theorem tok16 : TOk Tryz.prog 16 ti16 := ⟨Tryz.underlying16, Tryz.t16, by kernel_rfl, rfl, rfl, rfl⟩
def ti17 : TI := { desc := (Go.TypeDesc.pointer 211), size := 1, bytes := 8, zero := (Go.Value.pointer none) }
theorem tok17 : TOk Tryz.prog 17 ti17 := ⟨Tryz.underlying17, Tryz.t17, by kernel_rfl, rfl, rfl, rfl⟩
def ti18 : TI := { desc := (Go.TypeDesc.struct #[{ name := "typ", type := 17, offset := 0, embedded := false, tag := "", pkgPath := "internal/runtime/maps", byteOffset := 0 }]), size := 1, bytes := 8, zero := (Go.Value.agg #[Go.Value.pointer none]) }
theorem tok18 : TOk Tryz.prog 18 ti18 := ⟨Tryz.underlying18, Tryz.t18, by kernel_rfl, rfl, rfl, rfl⟩
def ti19 : TI := { desc := (Go.TypeDesc.struct #[{ name := "typ", type := 17, offset := 0, embedded := false, tag := "", pkgPath := "internal/runtime/maps", byteOffset := 0 }]), size := 1, bytes := 8, zero := (Go.Value.agg #[Go.Value.pointer none]) }
theorem tok19 : TOk Tryz.prog 19 ti19 := ⟨Tryz.underlying19, Tryz.t19, by kernel_rfl, rfl, rfl, rfl⟩
def ti20 : TI := { desc := (Go.TypeDesc.interface #[]), size := 1, bytes := 16, zero := Go.Value.nilIface }
theorem tok20 : TOk Tryz.prog 20 ti20 := ⟨Tryz.underlying20, Tryz.t20, by kernel_rfl, rfl, rfl, rfl⟩
def ti21 : TI := { desc := (Go.TypeDesc.int Go.IntKind.i32), size := 1, bytes := 4, zero := (Go.Value.int Go.IntKind.i32 0) }
theorem tok21 : TOk Tryz.prog 21 ti21 := ⟨Tryz.underlying21, Tryz.t21, by kernel_rfl, rfl, rfl, rfl⟩
def ti22 : TI := { desc := (Go.TypeDesc.int Go.IntKind.u64), size := 1, bytes := 8, zero := (Go.Value.int Go.IntKind.u64 0) }
theorem tok22 : TOk Tryz.prog 22 ti22 := ⟨Tryz.underlying22, Tryz.t22, by kernel_rfl, rfl, rfl, rfl⟩
def ti23 : TI := { desc := (Go.TypeDesc.struct #[{ name := "P", type := 9, offset := 0, embedded := false, tag := "", pkgPath := "", byteOffset := 0 }, { name := "R", type := 3, offset := 1, embedded := false, tag := "", pkgPath := "", byteOffset := 16 }, { name := "C", type := 3, offset := 2, embedded := false, tag := "", pkgPath := "", byteOffset := 24 }]), size := 3, bytes := 32, zero := (Go.Value.agg #[Go.Value.string { data := #[] }, Go.Value.int Go.IntKind.i64 0, Go.Value.int Go.IntKind.i64 0]) }
theorem tok23 : TOk Tryz.prog 23 ti23 := ⟨Tryz.underlying23, Tryz.t23, by kernel_rfl, rfl, rfl, rfl⟩
def ti24 : TI := { desc := (Go.TypeDesc.struct #[{ name := "P", type := 9, offset := 0, embedded := false, tag := "", pkgPath := "", byteOffset := 0 }, { name := "R", type := 3, offset := 1, embedded := false, tag := "", pkgPath := "", byteOffset := 16 }, { name := "C", type := 3, offset := 2, embedded := false, tag := "", pkgPath := "", byteOffset := 24 }]), size := 3, bytes := 32, zero := (Go.Value.agg #[Go.Value.string { data := #[] }, Go.Value.int Go.IntKind.i64 0, Go.Value.int Go.IntKind.i64 0]) }
theorem tok24 : TOk Tryz.prog 24 ti24 := ⟨Tryz.underlying24, Tryz.t24, by kernel_rfl, rfl, rfl, rfl⟩
def ti25 : TI := { desc := (Go.TypeDesc.pointer 130), size := 1, bytes := 8, zero := (Go.Value.pointer none) }
theorem tok25 : TOk Tryz.prog 25 ti25 := ⟨Tryz.underlying25, Tryz.t25, by kernel_rfl, rfl, rfl, rfl⟩
def ti26 : TI := { desc := (Go.TypeDesc.struct #[{ name := "root", type := 25, offset := 0, embedded := false, tag := "", pkgPath := "damier/tree", byteOffset := 0 }]), size := 1, bytes := 8, zero := (Go.Value.agg #[Go.Value.pointer none]) }
theorem tok26 : TOk Tryz.prog 26 ti26 := ⟨Tryz.underlying26, Tryz.t26, by kernel_rfl, rfl, rfl, rfl⟩
def ti27 : TI := { desc := (Go.TypeDesc.struct #[{ name := "root", type := 25, offset := 0, embedded := false, tag := "", pkgPath := "damier/tree", byteOffset := 0 }]), size := 1, bytes := 8, zero := (Go.Value.agg #[Go.Value.pointer none]) }
theorem tok27 : TOk Tryz.prog 27 ti27 := ⟨Tryz.underlying27, Tryz.t27, by kernel_rfl, rfl, rfl, rfl⟩
def ti28 : TI := { desc := (Go.TypeDesc.struct #[{ name := "Rows", type := 27, offset := 0, embedded := false, tag := "", pkgPath := "", byteOffset := 0 }, { name := "Tail", type := 4, offset := 1, embedded := false, tag := "", pkgPath := "", byteOffset := 8 }, { name := "End", type := 3, offset := 2, embedded := false, tag := "", pkgPath := "", byteOffset := 16 }]), size := 3, bytes := 24, zero := (Go.Value.agg #[Go.Value.pointer none, Go.Value.bool false, Go.Value.int Go.IntKind.i64 0]) }
theorem tok28 : TOk Tryz.prog 28 ti28 := ⟨Tryz.underlying28, Tryz.t28, by kernel_rfl, rfl, rfl, rfl⟩
def ti29 : TI := { desc := (Go.TypeDesc.struct #[{ name := "Rows", type := 27, offset := 0, embedded := false, tag := "", pkgPath := "", byteOffset := 0 }, { name := "Tail", type := 4, offset := 1, embedded := false, tag := "", pkgPath := "", byteOffset := 8 }, { name := "End", type := 3, offset := 2, embedded := false, tag := "", pkgPath := "", byteOffset := 16 }]), size := 3, bytes := 24, zero := (Go.Value.agg #[Go.Value.pointer none, Go.Value.bool false, Go.Value.int Go.IntKind.i64 0]) }
theorem tok29 : TOk Tryz.prog 29 ti29 := ⟨Tryz.underlying29, Tryz.t29, by kernel_rfl, rfl, rfl, rfl⟩
def ti30 : TI := { desc := (Go.TypeDesc.pointer 136), size := 1, bytes := 8, zero := (Go.Value.pointer none) }
theorem tok30 : TOk Tryz.prog 30 ti30 := ⟨Tryz.underlying30, Tryz.t30, by kernel_rfl, rfl, rfl, rfl⟩
def ti31 : TI := { desc := (Go.TypeDesc.slice 63), size := 1, bytes := 24, zero := (Go.Value.slice none 0 0) }
theorem tok31 : TOk Tryz.prog 31 ti31 := ⟨Tryz.underlying31, Tryz.t31, by kernel_rfl, rfl, rfl, rfl⟩
def ti32 : TI := { desc := (Go.TypeDesc.struct #[{ name := "Rows", type := 31, offset := 0, embedded := false, tag := "", pkgPath := "", byteOffset := 0 }, { name := "Tail", type := 4, offset := 1, embedded := false, tag := "", pkgPath := "", byteOffset := 24 }, { name := "End", type := 3, offset := 2, embedded := false, tag := "", pkgPath := "", byteOffset := 32 }]), size := 3, bytes := 40, zero := (Go.Value.agg #[Go.Value.slice none 0 0, Go.Value.bool false, Go.Value.int Go.IntKind.i64 0]) }
theorem tok32 : TOk Tryz.prog 32 ti32 := ⟨Tryz.underlying32, Tryz.t32, by kernel_rfl, rfl, rfl, rfl⟩
def ti33 : TI := { desc := (Go.TypeDesc.struct #[{ name := "Rows", type := 31, offset := 0, embedded := false, tag := "", pkgPath := "", byteOffset := 0 }, { name := "Tail", type := 4, offset := 1, embedded := false, tag := "", pkgPath := "", byteOffset := 24 }, { name := "End", type := 3, offset := 2, embedded := false, tag := "", pkgPath := "", byteOffset := 32 }]), size := 3, bytes := 40, zero := (Go.Value.agg #[Go.Value.slice none 0 0, Go.Value.bool false, Go.Value.int Go.IntKind.i64 0]) }
theorem tok33 : TOk Tryz.prog 33 ti33 := ⟨Tryz.underlying33, Tryz.t33, by kernel_rfl, rfl, rfl, rfl⟩
def ti34 : TI := { desc := (Go.TypeDesc.tuple #[29, 30, 33, 4]), size := 1, bytes := 0, zero := (Go.Value.tuple #[Go.Value.agg #[Go.Value.pointer none, Go.Value.bool false, Go.Value.int Go.IntKind.i64 0], Go.Value.pointer none, Go.Value.agg #[Go.Value.slice none 0 0, Go.Value.bool false, Go.Value.int Go.IntKind.i64 0], Go.Value.bool false]) }
theorem tok34 : TOk Tryz.prog 34 ti34 := ⟨Tryz.underlying34, Tryz.t34, by kernel_rfl, rfl, rfl, rfl⟩
def ti35 : TI := { desc := (Go.TypeDesc.func #[9, 22] #[29, 30, 33, 4] false), size := 1, bytes := 8, zero := Go.Value.nilFunc }
theorem tok35 : TOk Tryz.prog 35 ti35 := ⟨Tryz.underlying35, Tryz.t35, by kernel_rfl, rfl, rfl, rfl⟩
def ti38 : TI := { desc := (Go.TypeDesc.slice 5), size := 1, bytes := 24, zero := (Go.Value.slice none 0 0) }
theorem tok38 : TOk Tryz.prog 38 ti38 := ⟨Tryz.underlying38, Tryz.t38, by kernel_rfl, rfl, rfl, rfl⟩
def ti39 : TI := { desc := (Go.TypeDesc.tuple #[3, 3, 4]), size := 1, bytes := 0, zero := (Go.Value.tuple #[Go.Value.int Go.IntKind.i64 0, Go.Value.int Go.IntKind.i64 0, Go.Value.bool false]) }
theorem tok39 : TOk Tryz.prog 39 ti39 := ⟨Tryz.underlying39, Tryz.t39, by kernel_rfl, rfl, rfl, rfl⟩
def ti40 : TI := { desc := (Go.TypeDesc.func #[29, 30, 38, 3, 3] #[3, 3, 4] false), size := 1, bytes := 8, zero := Go.Value.nilFunc }
theorem tok40 : TOk Tryz.prog 40 ti40 := ⟨Tryz.underlying40, Tryz.t40, by kernel_rfl, rfl, rfl, rfl⟩
def ti41 : TI := { desc := (Go.TypeDesc.struct #[{ name := "R", type := 3, offset := 0, embedded := false, tag := "", pkgPath := "", byteOffset := 0 }, { name := "C", type := 3, offset := 1, embedded := false, tag := "", pkgPath := "", byteOffset := 8 }]), size := 2, bytes := 16, zero := (Go.Value.agg #[Go.Value.int Go.IntKind.i64 0, Go.Value.int Go.IntKind.i64 0]) }
theorem tok41 : TOk Tryz.prog 41 ti41 := ⟨Tryz.underlying41, Tryz.t41, by kernel_rfl, rfl, rfl, rfl⟩
def ti42 : TI := { desc := (Go.TypeDesc.struct #[{ name := "R", type := 3, offset := 0, embedded := false, tag := "", pkgPath := "", byteOffset := 0 }, { name := "C", type := 3, offset := 1, embedded := false, tag := "", pkgPath := "", byteOffset := 8 }]), size := 2, bytes := 16, zero := (Go.Value.agg #[Go.Value.int Go.IntKind.i64 0, Go.Value.int Go.IntKind.i64 0]) }
theorem tok42 : TOk Tryz.prog 42 ti42 := ⟨Tryz.underlying42, Tryz.t42, by kernel_rfl, rfl, rfl, rfl⟩
def ti43 : TI := { desc := (Go.TypeDesc.tuple #[42, 4]), size := 1, bytes := 0, zero := (Go.Value.tuple #[Go.Value.agg #[Go.Value.int Go.IntKind.i64 0, Go.Value.int Go.IntKind.i64 0], Go.Value.bool false]) }
theorem tok43 : TOk Tryz.prog 43 ti43 := ⟨Tryz.underlying43, Tryz.t43, by kernel_rfl, rfl, rfl, rfl⟩
def ti46 : TI := { desc := (Go.TypeDesc.slice 42), size := 1, bytes := 24, zero := (Go.Value.slice none 0 0) }
theorem tok46 : TOk Tryz.prog 46 ti46 := ⟨Tryz.underlying46, Tryz.t46, by kernel_rfl, rfl, rfl, rfl⟩
def ti48 : TI := { desc := (Go.TypeDesc.func #[9, 22, 24] #[4] false), size := 1, bytes := 8, zero := Go.Value.nilFunc }
theorem tok48 : TOk Tryz.prog 48 ti48 := ⟨Tryz.underlying48, Tryz.t48, by kernel_rfl, rfl, rfl, rfl⟩
def ti49 : TI := { desc := (Go.TypeDesc.func #[9] #[29, 30, 33, 4] false), size := 1, bytes := 8, zero := Go.Value.nilFunc }
theorem tok49 : TOk Tryz.prog 49 ti49 := ⟨Tryz.underlying49, Tryz.t49, by kernel_rfl, rfl, rfl, rfl⟩
def ti50 : TI := { desc := (Go.TypeDesc.func #[] #[3] false), size := 1, bytes := 8, zero := Go.Value.nilFunc }
theorem tok50 : TOk Tryz.prog 50 ti50 := ⟨Tryz.underlying50, Tryz.t50, by kernel_rfl, rfl, rfl, rfl⟩
def ti51 : TI := { desc := (Go.TypeDesc.int Go.IntKind.u64), size := 1, bytes := 8, zero := (Go.Value.int Go.IntKind.u64 0) }
theorem tok51 : TOk Tryz.prog 51 ti51 := ⟨Tryz.underlying51, Tryz.t51, by kernel_rfl, rfl, rfl, rfl⟩
def ti52 : TI := { desc := (Go.TypeDesc.slice 94), size := 1, bytes := 24, zero := (Go.Value.slice none 0 0) }
theorem tok52 : TOk Tryz.prog 52 ti52 := ⟨Tryz.underlying52, Tryz.t52, by kernel_rfl, rfl, rfl, rfl⟩
def ti54 : TI := { desc := (Go.TypeDesc.struct #[{ name := "Cells", type := 52, offset := 0, embedded := false, tag := "", pkgPath := "", byteOffset := 0 }, { name := "End", type := 3, offset := 1, embedded := false, tag := "", pkgPath := "", byteOffset := 24 }, { name := "Hidden", type := 4, offset := 2, embedded := false, tag := "", pkgPath := "", byteOffset := 32 }]), size := 3, bytes := 40, zero := (Go.Value.agg #[Go.Value.slice none 0 0, Go.Value.int Go.IntKind.i64 0, Go.Value.bool false]) }
theorem tok54 : TOk Tryz.prog 54 ti54 := ⟨Tryz.underlying54, Tryz.t54, by kernel_rfl, rfl, rfl, rfl⟩
def ti55 : TI := { desc := (Go.TypeDesc.tuple #[54, 4]), size := 1, bytes := 0, zero := (Go.Value.tuple #[Go.Value.agg #[Go.Value.slice none 0 0, Go.Value.int Go.IntKind.i64 0, Go.Value.bool false], Go.Value.bool false]) }
theorem tok55 : TOk Tryz.prog 55 ti55 := ⟨Tryz.underlying55, Tryz.t55, by kernel_rfl, rfl, rfl, rfl⟩
def ti56 : TI := { desc := (Go.TypeDesc.func #[3] #[54, 4] false), size := 1, bytes := 8, zero := Go.Value.nilFunc }
theorem tok56 : TOk Tryz.prog 56 ti56 := ⟨Tryz.underlying56, Tryz.t56, by kernel_rfl, rfl, rfl, rfl⟩
def ti57 : TI := { desc := (Go.TypeDesc.int Go.IntKind.i64), size := 1, bytes := 8, zero := (Go.Value.int Go.IntKind.i64 0) }
theorem tok57 : TOk Tryz.prog 57 ti57 := ⟨Tryz.underlying57, Tryz.t57, by kernel_rfl, rfl, rfl, rfl⟩
def ti58 : TI := { desc := (Go.TypeDesc.tuple #[29, 57]), size := 1, bytes := 0, zero := (Go.Value.tuple #[Go.Value.agg #[Go.Value.pointer none, Go.Value.bool false, Go.Value.int Go.IntKind.i64 0], Go.Value.int Go.IntKind.i64 0]) }
theorem tok58 : TOk Tryz.prog 58 ti58 := ⟨Tryz.underlying58, Tryz.t58, by kernel_rfl, rfl, rfl, rfl⟩
def ti59 : TI := { desc := (Go.TypeDesc.func #[3, 54] #[29, 57] false), size := 1, bytes := 8, zero := Go.Value.nilFunc }
theorem tok59 : TOk Tryz.prog 59 ti59 := ⟨Tryz.underlying59, Tryz.t59, by kernel_rfl, rfl, rfl, rfl⟩
def ti60 : TI := { desc := (Go.TypeDesc.func #[4] #[54] false), size := 1, bytes := 8, zero := Go.Value.nilFunc }
theorem tok60 : TOk Tryz.prog 60 ti60 := ⟨Tryz.underlying60, Tryz.t60, by kernel_rfl, rfl, rfl, rfl⟩
def ti61 : TI := { desc := (Go.TypeDesc.slice 81), size := 1, bytes := 24, zero := (Go.Value.slice none 0 0) }
theorem tok61 : TOk Tryz.prog 61 ti61 := ⟨Tryz.underlying61, Tryz.t61, by kernel_rfl, rfl, rfl, rfl⟩
def ti62 : TI := { desc := (Go.TypeDesc.struct #[{ name := "Cells", type := 61, offset := 0, embedded := false, tag := "", pkgPath := "", byteOffset := 0 }, { name := "End", type := 3, offset := 1, embedded := false, tag := "", pkgPath := "", byteOffset := 24 }, { name := "Hidden", type := 4, offset := 2, embedded := false, tag := "", pkgPath := "", byteOffset := 32 }]), size := 3, bytes := 40, zero := (Go.Value.agg #[Go.Value.slice none 0 0, Go.Value.int Go.IntKind.i64 0, Go.Value.bool false]) }
theorem tok62 : TOk Tryz.prog 62 ti62 := ⟨Tryz.underlying62, Tryz.t62, by kernel_rfl, rfl, rfl, rfl⟩
def ti63 : TI := { desc := (Go.TypeDesc.struct #[{ name := "Cells", type := 61, offset := 0, embedded := false, tag := "", pkgPath := "", byteOffset := 0 }, { name := "End", type := 3, offset := 1, embedded := false, tag := "", pkgPath := "", byteOffset := 24 }, { name := "Hidden", type := 4, offset := 2, embedded := false, tag := "", pkgPath := "", byteOffset := 32 }]), size := 3, bytes := 40, zero := (Go.Value.agg #[Go.Value.slice none 0 0, Go.Value.int Go.IntKind.i64 0, Go.Value.bool false]) }
theorem tok63 : TOk Tryz.prog 63 ti63 := ⟨Tryz.underlying63, Tryz.t63, by kernel_rfl, rfl, rfl, rfl⟩
def ti64 : TI := { desc := (Go.TypeDesc.tuple #[33, 57]), size := 1, bytes := 0, zero := (Go.Value.tuple #[Go.Value.agg #[Go.Value.slice none 0 0, Go.Value.bool false, Go.Value.int Go.IntKind.i64 0], Go.Value.int Go.IntKind.i64 0]) }
theorem tok64 : TOk Tryz.prog 64 ti64 := ⟨Tryz.underlying64, Tryz.t64, by kernel_rfl, rfl, rfl, rfl⟩
def ti65 : TI := { desc := (Go.TypeDesc.func #[33, 3, 63] #[33, 57] false), size := 1, bytes := 8, zero := Go.Value.nilFunc }
theorem tok65 : TOk Tryz.prog 65 ti65 := ⟨Tryz.underlying65, Tryz.t65, by kernel_rfl, rfl, rfl, rfl⟩
def ti66 : TI := { desc := (Go.TypeDesc.tuple #[29, 30, 57]), size := 1, bytes := 0, zero := (Go.Value.tuple #[Go.Value.agg #[Go.Value.pointer none, Go.Value.bool false, Go.Value.int Go.IntKind.i64 0], Go.Value.pointer none, Go.Value.int Go.IntKind.i64 0]) }
theorem tok66 : TOk Tryz.prog 66 ti66 := ⟨Tryz.underlying66, Tryz.t66, by kernel_rfl, rfl, rfl, rfl⟩
def ti68 : TI := { desc := (Go.TypeDesc.tuple #[38, 3]), size := 1, bytes := 0, zero := (Go.Value.tuple #[Go.Value.slice none 0 0, Go.Value.int Go.IntKind.i64 0]) }
theorem tok68 : TOk Tryz.prog 68 ti68 := ⟨Tryz.underlying68, Tryz.t68, by kernel_rfl, rfl, rfl, rfl⟩
def ti71 : TI := { desc := (Go.TypeDesc.slice 3), size := 1, bytes := 24, zero := (Go.Value.slice none 0 0) }
theorem tok71 : TOk Tryz.prog 71 ti71 := ⟨Tryz.underlying71, Tryz.t71, by kernel_rfl, rfl, rfl, rfl⟩
def ti72 : TI := { desc := (Go.TypeDesc.func #[38, 38] #[71] false), size := 1, bytes := 8, zero := Go.Value.nilFunc }
theorem tok72 : TOk Tryz.prog 72 ti72 := ⟨Tryz.underlying72, Tryz.t72, by kernel_rfl, rfl, rfl, rfl⟩
def ti73 : TI := { desc := (Go.TypeDesc.struct #[{ name := "r", type := 3, offset := 0, embedded := false, tag := "", pkgPath := "damier/find", byteOffset := 0 }, { name := "c", type := 3, offset := 1, embedded := false, tag := "", pkgPath := "damier/find", byteOffset := 8 }]), size := 2, bytes := 16, zero := (Go.Value.agg #[Go.Value.int Go.IntKind.i64 0, Go.Value.int Go.IntKind.i64 0]) }
theorem tok73 : TOk Tryz.prog 73 ti73 := ⟨Tryz.underlying73, Tryz.t73, by kernel_rfl, rfl, rfl, rfl⟩
def ti74 : TI := { desc := (Go.TypeDesc.struct #[{ name := "r", type := 3, offset := 0, embedded := false, tag := "", pkgPath := "damier/find", byteOffset := 0 }, { name := "c", type := 3, offset := 1, embedded := false, tag := "", pkgPath := "damier/find", byteOffset := 8 }]), size := 2, bytes := 16, zero := (Go.Value.agg #[Go.Value.int Go.IntKind.i64 0, Go.Value.int Go.IntKind.i64 0]) }
theorem tok74 : TOk Tryz.prog 74 ti74 := ⟨Tryz.underlying74, Tryz.t74, by kernel_rfl, rfl, rfl, rfl⟩
def ti75 : TI := { desc := (Go.TypeDesc.func #[78] #[] false), size := 1, bytes := 8, zero := Go.Value.nilFunc }
theorem tok75 : TOk Tryz.prog 75 ti75 := ⟨Tryz.underlying75, Tryz.t75, by kernel_rfl, rfl, rfl, rfl⟩
def ti76 : TI := { desc := (Go.TypeDesc.func #[78] #[] false), size := 1, bytes := 8, zero := Go.Value.nilFunc }
theorem tok76 : TOk Tryz.prog 76 ti76 := ⟨Tryz.underlying76, Tryz.t76, by kernel_rfl, rfl, rfl, rfl⟩
def ti78 : TI := { desc := (Go.TypeDesc.func #[74] #[4] false), size := 1, bytes := 8, zero := Go.Value.nilFunc }
theorem tok78 : TOk Tryz.prog 78 ti78 := ⟨Tryz.underlying78, Tryz.t78, by kernel_rfl, rfl, rfl, rfl⟩
def ti81 : TI := { desc := (Go.TypeDesc.struct #[{ name := "S", type := 9, offset := 0, embedded := false, tag := "", pkgPath := "", byteOffset := 0 }, { name := "Raw", type := 9, offset := 1, embedded := false, tag := "", pkgPath := "", byteOffset := 16 }, { name := "Kept", type := 4, offset := 2, embedded := false, tag := "", pkgPath := "", byteOffset := 32 }]), size := 3, bytes := 40, zero := (Go.Value.agg #[Go.Value.string { data := #[] }, Go.Value.string { data := #[] }, Go.Value.bool false]) }
theorem tok81 : TOk Tryz.prog 81 ti81 := ⟨Tryz.underlying81, Tryz.t81, by kernel_rfl, rfl, rfl, rfl⟩
def ti83 : TI := { desc := (Go.TypeDesc.func #[9] #[33, 57] false), size := 1, bytes := 8, zero := Go.Value.nilFunc }
theorem tok83 : TOk Tryz.prog 83 ti83 := ⟨Tryz.underlying83, Tryz.t83, by kernel_rfl, rfl, rfl, rfl⟩
def ti84 : TI := { desc := (Go.TypeDesc.func #[27, 4] #[29, 57] false), size := 1, bytes := 8, zero := Go.Value.nilFunc }
theorem tok84 : TOk Tryz.prog 84 ti84 := ⟨Tryz.underlying84, Tryz.t84, by kernel_rfl, rfl, rfl, rfl⟩
def ti85 : TI := { desc := (Go.TypeDesc.tuple #[27, 4]), size := 1, bytes := 0, zero := (Go.Value.tuple #[Go.Value.agg #[Go.Value.pointer none], Go.Value.bool false]) }
theorem tok85 : TOk Tryz.prog 85 ti85 := ⟨Tryz.underlying85, Tryz.t85, by kernel_rfl, rfl, rfl, rfl⟩
def ti86 : TI := { desc := (Go.TypeDesc.func #[3, 54] #[27, 4] false), size := 1, bytes := 8, zero := Go.Value.nilFunc }
theorem tok86 : TOk Tryz.prog 86 ti86 := ⟨Tryz.underlying86, Tryz.t86, by kernel_rfl, rfl, rfl, rfl⟩
def ti88 : TI := { desc := (Go.TypeDesc.slice 92), size := 1, bytes := 24, zero := (Go.Value.slice none 0 0) }
theorem tok88 : TOk Tryz.prog 88 ti88 := ⟨Tryz.underlying88, Tryz.t88, by kernel_rfl, rfl, rfl, rfl⟩
def ti89 : TI := { desc := (Go.TypeDesc.struct #[{ name := "l", type := 88, offset := 0, embedded := false, tag := "", pkgPath := "damier/piece", byteOffset := 0 }, { name := "n", type := 3, offset := 1, embedded := false, tag := "", pkgPath := "damier/piece", byteOffset := 24 }]), size := 2, bytes := 32, zero := (Go.Value.agg #[Go.Value.slice none 0 0, Go.Value.int Go.IntKind.i64 0]) }
theorem tok89 : TOk Tryz.prog 89 ti89 := ⟨Tryz.underlying89, Tryz.t89, by kernel_rfl, rfl, rfl, rfl⟩
def ti90 : TI := { desc := (Go.TypeDesc.struct #[{ name := "l", type := 88, offset := 0, embedded := false, tag := "", pkgPath := "damier/piece", byteOffset := 0 }, { name := "n", type := 3, offset := 1, embedded := false, tag := "", pkgPath := "damier/piece", byteOffset := 24 }]), size := 2, bytes := 32, zero := (Go.Value.agg #[Go.Value.slice none 0 0, Go.Value.int Go.IntKind.i64 0]) }
theorem tok90 : TOk Tryz.prog 90 ti90 := ⟨Tryz.underlying90, Tryz.t90, by kernel_rfl, rfl, rfl, rfl⟩
def ti92 : TI := { desc := (Go.TypeDesc.struct #[{ name := "At", type := 3, offset := 0, embedded := false, tag := "", pkgPath := "", byteOffset := 0 }, { name := "N", type := 3, offset := 1, embedded := false, tag := "", pkgPath := "", byteOffset := 8 }]), size := 2, bytes := 16, zero := (Go.Value.agg #[Go.Value.int Go.IntKind.i64 0, Go.Value.int Go.IntKind.i64 0]) }
theorem tok92 : TOk Tryz.prog 92 ti92 := ⟨Tryz.underlying92, Tryz.t92, by kernel_rfl, rfl, rfl, rfl⟩
def ti93 : TI := { desc := (Go.TypeDesc.struct #[{ name := "Text", type := 90, offset := 0, embedded := false, tag := "", pkgPath := "", byteOffset := 0 }, { name := "Raw", type := 92, offset := 2, embedded := false, tag := "", pkgPath := "", byteOffset := 32 }, { name := "Kept", type := 4, offset := 4, embedded := false, tag := "", pkgPath := "", byteOffset := 48 }]), size := 5, bytes := 56, zero := (Go.Value.agg #[Go.Value.slice none 0 0, Go.Value.int Go.IntKind.i64 0, Go.Value.int Go.IntKind.i64 0, Go.Value.int Go.IntKind.i64 0, Go.Value.bool false]) }
theorem tok93 : TOk Tryz.prog 93 ti93 := ⟨Tryz.underlying93, Tryz.t93, by kernel_rfl, rfl, rfl, rfl⟩
def ti94 : TI := { desc := (Go.TypeDesc.struct #[{ name := "Text", type := 90, offset := 0, embedded := false, tag := "", pkgPath := "", byteOffset := 0 }, { name := "Raw", type := 92, offset := 2, embedded := false, tag := "", pkgPath := "", byteOffset := 32 }, { name := "Kept", type := 4, offset := 4, embedded := false, tag := "", pkgPath := "", byteOffset := 48 }]), size := 5, bytes := 56, zero := (Go.Value.agg #[Go.Value.slice none 0 0, Go.Value.int Go.IntKind.i64 0, Go.Value.int Go.IntKind.i64 0, Go.Value.int Go.IntKind.i64 0, Go.Value.bool false]) }
theorem tok94 : TOk Tryz.prog 94 ti94 := ⟨Tryz.underlying94, Tryz.t94, by kernel_rfl, rfl, rfl, rfl⟩
def ti96 : TI := { desc := (Go.TypeDesc.func #[33, 31] #[33] false), size := 1, bytes := 8, zero := Go.Value.nilFunc }
theorem tok96 : TOk Tryz.prog 96 ti96 := ⟨Tryz.underlying96, Tryz.t96, by kernel_rfl, rfl, rfl, rfl⟩
def ti97 : TI := { desc := (Go.TypeDesc.tuple #[30, 57]), size := 1, bytes := 0, zero := (Go.Value.tuple #[Go.Value.pointer none, Go.Value.int Go.IntKind.i64 0]) }
theorem tok97 : TOk Tryz.prog 97 ti97 := ⟨Tryz.underlying97, Tryz.t97, by kernel_rfl, rfl, rfl, rfl⟩
def ti100 : TI := { desc := (Go.TypeDesc.slice 105), size := 1, bytes := 24, zero := (Go.Value.slice none 0 0) }
theorem tok100 : TOk Tryz.prog 100 ti100 := ⟨Tryz.underlying100, Tryz.t100, by kernel_rfl, rfl, rfl, rfl⟩
def ti102 : TI := { desc := (Go.TypeDesc.slice 54), size := 1, bytes := 24, zero := (Go.Value.slice none 0 0) }
theorem tok102 : TOk Tryz.prog 102 ti102 := ⟨Tryz.underlying102, Tryz.t102, by kernel_rfl, rfl, rfl, rfl⟩
def ti103 : TI := { desc := (Go.TypeDesc.slice 142), size := 1, bytes := 24, zero := (Go.Value.slice none 0 0) }
theorem tok103 : TOk Tryz.prog 103 ti103 := ⟨Tryz.underlying103, Tryz.t103, by kernel_rfl, rfl, rfl, rfl⟩
def ti105 : TI := { desc := (Go.TypeDesc.struct #[{ name := "Fields", type := 103, offset := 0, embedded := false, tag := "", pkgPath := "", byteOffset := 0 }, { name := "End", type := 3, offset := 1, embedded := false, tag := "", pkgPath := "", byteOffset := 24 }]), size := 2, bytes := 32, zero := (Go.Value.agg #[Go.Value.slice none 0 0, Go.Value.int Go.IntKind.i64 0]) }
theorem tok105 : TOk Tryz.prog 105 ti105 := ⟨Tryz.underlying105, Tryz.t105, by kernel_rfl, rfl, rfl, rfl⟩
def ti106 : TI := { desc := (Go.TypeDesc.tuple #[54, 57]), size := 1, bytes := 0, zero := (Go.Value.tuple #[Go.Value.agg #[Go.Value.slice none 0 0, Go.Value.int Go.IntKind.i64 0, Go.Value.bool false], Go.Value.int Go.IntKind.i64 0]) }
theorem tok106 : TOk Tryz.prog 106 ti106 := ⟨Tryz.underlying106, Tryz.t106, by kernel_rfl, rfl, rfl, rfl⟩
def ti108 : TI := { desc := (Go.TypeDesc.func #[102] #[27] true), size := 1, bytes := 8, zero := Go.Value.nilFunc }
theorem tok108 : TOk Tryz.prog 108 ti108 := ⟨Tryz.underlying108, Tryz.t108, by kernel_rfl, rfl, rfl, rfl⟩
def ti109 : TI := { desc := (Go.TypeDesc.tuple #[4, 3]), size := 1, bytes := 0, zero := (Go.Value.tuple #[Go.Value.bool false, Go.Value.int Go.IntKind.i64 0]) }
theorem tok109 : TOk Tryz.prog 109 ti109 := ⟨Tryz.underlying109, Tryz.t109, by kernel_rfl, rfl, rfl, rfl⟩
def ti111 : TI := { desc := (Go.TypeDesc.func #[131] #[] false), size := 1, bytes := 8, zero := Go.Value.nilFunc }
theorem tok111 : TOk Tryz.prog 111 ti111 := ⟨Tryz.underlying111, Tryz.t111, by kernel_rfl, rfl, rfl, rfl⟩
def ti112 : TI := { desc := (Go.TypeDesc.func #[131] #[] false), size := 1, bytes := 8, zero := Go.Value.nilFunc }
theorem tok112 : TOk Tryz.prog 112 ti112 := ⟨Tryz.underlying112, Tryz.t112, by kernel_rfl, rfl, rfl, rfl⟩
def ti114 : TI := { desc := (Go.TypeDesc.func #[38, 38, 3] #[3] false), size := 1, bytes := 8, zero := Go.Value.nilFunc }
theorem tok114 : TOk Tryz.prog 114 ti114 := ⟨Tryz.underlying114, Tryz.t114, by kernel_rfl, rfl, rfl, rfl⟩
def ti116 : TI := { desc := (Go.TypeDesc.func #[94] #[4] false), size := 1, bytes := 8, zero := Go.Value.nilFunc }
theorem tok116 : TOk Tryz.prog 116 ti116 := ⟨Tryz.underlying116, Tryz.t116, by kernel_rfl, rfl, rfl, rfl⟩
def ti117 : TI := { desc := (Go.TypeDesc.func #[148] #[] false), size := 1, bytes := 8, zero := Go.Value.nilFunc }
theorem tok117 : TOk Tryz.prog 117 ti117 := ⟨Tryz.underlying117, Tryz.t117, by kernel_rfl, rfl, rfl, rfl⟩
def ti118 : TI := { desc := (Go.TypeDesc.func #[148] #[] false), size := 1, bytes := 8, zero := Go.Value.nilFunc }
theorem tok118 : TOk Tryz.prog 118 ti118 := ⟨Tryz.underlying118, Tryz.t118, by kernel_rfl, rfl, rfl, rfl⟩
def ti119 : TI := { desc := (Go.TypeDesc.func #[27, 3, 3] #[118] false), size := 1, bytes := 8, zero := Go.Value.nilFunc }
theorem tok119 : TOk Tryz.prog 119 ti119 := ⟨Tryz.underlying119, Tryz.t119, by kernel_rfl, rfl, rfl, rfl⟩
def ti121 : TI := { desc := (Go.TypeDesc.slice 125), size := 1, bytes := 24, zero := (Go.Value.slice none 0 0) }
theorem tok121 : TOk Tryz.prog 121 ti121 := ⟨Tryz.underlying121, Tryz.t121, by kernel_rfl, rfl, rfl, rfl⟩
def ti123 : TI := { desc := (Go.TypeDesc.slice 162), size := 1, bytes := 24, zero := (Go.Value.slice none 0 0) }
theorem tok123 : TOk Tryz.prog 123 ti123 := ⟨Tryz.underlying123, Tryz.t123, by kernel_rfl, rfl, rfl, rfl⟩
def ti125 : TI := { desc := (Go.TypeDesc.struct #[{ name := "Fields", type := 123, offset := 0, embedded := false, tag := "", pkgPath := "", byteOffset := 0 }, { name := "End", type := 3, offset := 1, embedded := false, tag := "", pkgPath := "", byteOffset := 24 }]), size := 2, bytes := 32, zero := (Go.Value.agg #[Go.Value.slice none 0 0, Go.Value.int Go.IntKind.i64 0]) }
theorem tok125 : TOk Tryz.prog 125 ti125 := ⟨Tryz.underlying125, Tryz.t125, by kernel_rfl, rfl, rfl, rfl⟩
def ti126 : TI := { desc := (Go.TypeDesc.tuple #[63, 57]), size := 1, bytes := 0, zero := (Go.Value.tuple #[Go.Value.agg #[Go.Value.slice none 0 0, Go.Value.int Go.IntKind.i64 0, Go.Value.bool false], Go.Value.int Go.IntKind.i64 0]) }
theorem tok126 : TOk Tryz.prog 126 ti126 := ⟨Tryz.underlying126, Tryz.t126, by kernel_rfl, rfl, rfl, rfl⟩
def ti127 : TI := { desc := (Go.TypeDesc.func #[9, 125] #[63, 57] false), size := 1, bytes := 8, zero := Go.Value.nilFunc }
theorem tok127 : TOk Tryz.prog 127 ti127 := ⟨Tryz.underlying127, Tryz.t127, by kernel_rfl, rfl, rfl, rfl⟩
def ti128 : TI := { desc := (Go.TypeDesc.slice 25), size := 1, bytes := 24, zero := (Go.Value.slice none 0 0) }
theorem tok128 : TOk Tryz.prog 128 ti128 := ⟨Tryz.underlying128, Tryz.t128, by kernel_rfl, rfl, rfl, rfl⟩
def ti130 : TI := { desc := (Go.TypeDesc.struct #[{ name := "Kids", type := 128, offset := 0, embedded := false, tag := "", pkgPath := "", byteOffset := 0 }, { name := "Items", type := 102, offset := 1, embedded := false, tag := "", pkgPath := "", byteOffset := 24 }, { name := "N", type := 3, offset := 2, embedded := false, tag := "", pkgPath := "", byteOffset := 48 }]), size := 3, bytes := 56, zero := (Go.Value.agg #[Go.Value.slice none 0 0, Go.Value.slice none 0 0, Go.Value.int Go.IntKind.i64 0]) }
theorem tok130 : TOk Tryz.prog 130 ti130 := ⟨Tryz.underlying130, Tryz.t130, by kernel_rfl, rfl, rfl, rfl⟩
def ti131 : TI := { desc := (Go.TypeDesc.func #[3] #[4] false), size := 1, bytes := 8, zero := Go.Value.nilFunc }
theorem tok131 : TOk Tryz.prog 131 ti131 := ⟨Tryz.underlying131, Tryz.t131, by kernel_rfl, rfl, rfl, rfl⟩
def ti132 : TI := { desc := (Go.TypeDesc.tuple #[3, 3]), size := 1, bytes := 0, zero := (Go.Value.tuple #[Go.Value.int Go.IntKind.i64 0, Go.Value.int Go.IntKind.i64 0]) }
theorem tok132 : TOk Tryz.prog 132 ti132 := ⟨Tryz.underlying132, Tryz.t132, by kernel_rfl, rfl, rfl, rfl⟩
def ti135 : TI := { desc := (Go.TypeDesc.struct #[{ name := "b", type := 38, offset := 0, embedded := false, tag := "", pkgPath := "damier/arena", byteOffset := 0 }]), size := 1, bytes := 24, zero := (Go.Value.agg #[Go.Value.slice none 0 0]) }
theorem tok135 : TOk Tryz.prog 135 ti135 := ⟨Tryz.underlying135, Tryz.t135, by kernel_rfl, rfl, rfl, rfl⟩
def ti136 : TI := { desc := (Go.TypeDesc.struct #[{ name := "b", type := 38, offset := 0, embedded := false, tag := "", pkgPath := "damier/arena", byteOffset := 0 }]), size := 1, bytes := 24, zero := (Go.Value.agg #[Go.Value.slice none 0 0]) }
theorem tok136 : TOk Tryz.prog 136 ti136 := ⟨Tryz.underlying136, Tryz.t136, by kernel_rfl, rfl, rfl, rfl⟩
def ti137 : TI := { desc := (Go.TypeDesc.pointer 139), size := 1, bytes := 8, zero := (Go.Value.pointer none) }
theorem tok137 : TOk Tryz.prog 137 ti137 := ⟨Tryz.underlying137, Tryz.t137, by kernel_rfl, rfl, rfl, rfl⟩
def ti139 : TI := { desc := (Go.TypeDesc.struct #[{ name := "b", type := 38, offset := 0, embedded := false, tag := "", pkgPath := "damier/scan", byteOffset := 0 }, { name := "at", type := 3, offset := 1, embedded := false, tag := "", pkgPath := "damier/scan", byteOffset := 24 }]), size := 2, bytes := 32, zero := (Go.Value.agg #[Go.Value.slice none 0 0, Go.Value.int Go.IntKind.i64 0]) }
theorem tok139 : TOk Tryz.prog 139 ti139 := ⟨Tryz.underlying139, Tryz.t139, by kernel_rfl, rfl, rfl, rfl⟩
def ti140 : TI := { desc := (Go.TypeDesc.func #[] #[105] false), size := 1, bytes := 8, zero := Go.Value.nilFunc }
theorem tok140 : TOk Tryz.prog 140 ti140 := ⟨Tryz.underlying140, Tryz.t140, by kernel_rfl, rfl, rfl, rfl⟩
def ti142 : TI := { desc := (Go.TypeDesc.struct #[{ name := "Raw", type := 92, offset := 0, embedded := false, tag := "", pkgPath := "", byteOffset := 0 }, { name := "Kind", type := 3, offset := 2, embedded := false, tag := "", pkgPath := "", byteOffset := 16 }, { name := "Parts", type := 88, offset := 3, embedded := false, tag := "", pkgPath := "", byteOffset := 24 }]), size := 4, bytes := 48, zero := (Go.Value.agg #[Go.Value.int Go.IntKind.i64 0, Go.Value.int Go.IntKind.i64 0, Go.Value.int Go.IntKind.i64 0, Go.Value.slice none 0 0]) }
theorem tok142 : TOk Tryz.prog 142 ti142 := ⟨Tryz.underlying142, Tryz.t142, by kernel_rfl, rfl, rfl, rfl⟩
def ti143 : TI := { desc := (Go.TypeDesc.func #[142] #[94] false), size := 1, bytes := 8, zero := Go.Value.nilFunc }
theorem tok143 : TOk Tryz.prog 143 ti143 := ⟨Tryz.underlying143, Tryz.t143, by kernel_rfl, rfl, rfl, rfl⟩
def ti145 : TI := { desc := (Go.TypeDesc.func #[102] #[128] false), size := 1, bytes := 8, zero := Go.Value.nilFunc }
theorem tok145 : TOk Tryz.prog 145 ti145 := ⟨Tryz.underlying145, Tryz.t145, by kernel_rfl, rfl, rfl, rfl⟩
def ti148 : TI := { desc := (Go.TypeDesc.func #[3, 54] #[4] false), size := 1, bytes := 8, zero := Go.Value.nilFunc }
theorem tok148 : TOk Tryz.prog 148 ti148 := ⟨Tryz.underlying148, Tryz.t148, by kernel_rfl, rfl, rfl, rfl⟩
def ti149 : TI := { desc := (Go.TypeDesc.slice 157), size := 1, bytes := 24, zero := (Go.Value.slice none 0 0) }
theorem tok149 : TOk Tryz.prog 149 ti149 := ⟨Tryz.underlying149, Tryz.t149, by kernel_rfl, rfl, rfl, rfl⟩
def ti151 : TI := { desc := (Go.TypeDesc.struct #[{ name := "l", type := 149, offset := 0, embedded := false, tag := "", pkgPath := "damier/walk", byteOffset := 0 }]), size := 1, bytes := 24, zero := (Go.Value.agg #[Go.Value.slice none 0 0]) }
theorem tok151 : TOk Tryz.prog 151 ti151 := ⟨Tryz.underlying151, Tryz.t151, by kernel_rfl, rfl, rfl, rfl⟩
def ti154 : TI := { desc := (Go.TypeDesc.pointer 157), size := 1, bytes := 8, zero := (Go.Value.pointer none) }
theorem tok154 : TOk Tryz.prog 154 ti154 := ⟨Tryz.underlying154, Tryz.t154, by kernel_rfl, rfl, rfl, rfl⟩
def ti157 : TI := { desc := (Go.TypeDesc.struct #[{ name := "n", type := 25, offset := 0, embedded := false, tag := "", pkgPath := "damier/walk", byteOffset := 0 }, { name := "first", type := 3, offset := 1, embedded := false, tag := "", pkgPath := "damier/walk", byteOffset := 8 }, { name := "next", type := 3, offset := 2, embedded := false, tag := "", pkgPath := "damier/walk", byteOffset := 16 }]), size := 3, bytes := 24, zero := (Go.Value.agg #[Go.Value.pointer none, Go.Value.int Go.IntKind.i64 0, Go.Value.int Go.IntKind.i64 0]) }
theorem tok157 : TOk Tryz.prog 157 ti157 := ⟨Tryz.underlying157, Tryz.t157, by kernel_rfl, rfl, rfl, rfl⟩
def ti158 : TI := { desc := (Go.TypeDesc.tuple #[125, 3]), size := 1, bytes := 0, zero := (Go.Value.tuple #[Go.Value.agg #[Go.Value.slice none 0 0, Go.Value.int Go.IntKind.i64 0], Go.Value.int Go.IntKind.i64 0]) }
theorem tok158 : TOk Tryz.prog 158 ti158 := ⟨Tryz.underlying158, Tryz.t158, by kernel_rfl, rfl, rfl, rfl⟩
def ti160 : TI := { desc := (Go.TypeDesc.struct #[{ name := "At", type := 3, offset := 0, embedded := false, tag := "", pkgPath := "", byteOffset := 0 }, { name := "N", type := 3, offset := 1, embedded := false, tag := "", pkgPath := "", byteOffset := 8 }]), size := 2, bytes := 16, zero := (Go.Value.agg #[Go.Value.int Go.IntKind.i64 0, Go.Value.int Go.IntKind.i64 0]) }
theorem tok160 : TOk Tryz.prog 160 ti160 := ⟨Tryz.underlying160, Tryz.t160, by kernel_rfl, rfl, rfl, rfl⟩
def ti162 : TI := { desc := (Go.TypeDesc.struct #[{ name := "Raw", type := 160, offset := 0, embedded := false, tag := "", pkgPath := "", byteOffset := 0 }, { name := "Kind", type := 3, offset := 2, embedded := false, tag := "", pkgPath := "", byteOffset := 16 }, { name := "Bytes", type := 71, offset := 3, embedded := false, tag := "", pkgPath := "", byteOffset := 24 }]), size := 4, bytes := 48, zero := (Go.Value.agg #[Go.Value.int Go.IntKind.i64 0, Go.Value.int Go.IntKind.i64 0, Go.Value.int Go.IntKind.i64 0, Go.Value.slice none 0 0]) }
theorem tok162 : TOk Tryz.prog 162 ti162 := ⟨Tryz.underlying162, Tryz.t162, by kernel_rfl, rfl, rfl, rfl⟩
def ti165 : TI := { desc := (Go.TypeDesc.func #[102, 3, 3, 102] #[102] true), size := 1, bytes := 8, zero := Go.Value.nilFunc }
theorem tok165 : TOk Tryz.prog 165 ti165 := ⟨Tryz.underlying165, Tryz.t165, by kernel_rfl, rfl, rfl, rfl⟩
def ti169 : TI := { desc := (Go.TypeDesc.func #[5] #[4] false), size := 1, bytes := 8, zero := Go.Value.nilFunc }
theorem tok169 : TOk Tryz.prog 169 ti169 := ⟨Tryz.underlying169, Tryz.t169, by kernel_rfl, rfl, rfl, rfl⟩
def ti172 : TI := { desc := (Go.TypeDesc.slice 102), size := 1, bytes := 24, zero := (Go.Value.slice none 0 0) }
theorem tok172 : TOk Tryz.prog 172 ti172 := ⟨Tryz.underlying172, Tryz.t172, by kernel_rfl, rfl, rfl, rfl⟩
def ti175 : TI := { desc := (Go.TypeDesc.pointer 151), size := 1, bytes := 8, zero := (Go.Value.pointer none) }
theorem tok175 : TOk Tryz.prog 175 ti175 := ⟨Tryz.underlying175, Tryz.t175, by kernel_rfl, rfl, rfl, rfl⟩
def ti176 : TI := { desc := (Go.TypeDesc.func #[9, 3] #[162] false), size := 1, bytes := 8, zero := Go.Value.nilFunc }
theorem tok176 : TOk Tryz.prog 176 ti176 := ⟨Tryz.underlying176, Tryz.t176, by kernel_rfl, rfl, rfl, rfl⟩
def ti179 : TI := { desc := (Go.TypeDesc.tuple #[3, 88]), size := 1, bytes := 0, zero := (Go.Value.tuple #[Go.Value.int Go.IntKind.i64 0, Go.Value.slice none 0 0]) }
theorem tok179 : TOk Tryz.prog 179 ti179 := ⟨Tryz.underlying179, Tryz.t179, by kernel_rfl, rfl, rfl, rfl⟩
def ti182 : TI := { desc := (Go.TypeDesc.slice 128), size := 1, bytes := 24, zero := (Go.Value.slice none 0 0) }
theorem tok182 : TOk Tryz.prog 182 ti182 := ⟨Tryz.underlying182, Tryz.t182, by kernel_rfl, rfl, rfl, rfl⟩
def ti190 : TI := { desc := (Go.TypeDesc.slice 92), size := 1, bytes := 24, zero := (Go.Value.slice none 0 0) }
theorem tok190 : TOk Tryz.prog 190 ti190 := ⟨Tryz.underlying190, Tryz.t190, by kernel_rfl, rfl, rfl, rfl⟩
def ti192 : TI := { desc := (Go.TypeDesc.pointer 90), size := 1, bytes := 8, zero := (Go.Value.pointer none) }
theorem tok192 : TOk Tryz.prog 192 ti192 := ⟨Tryz.underlying192, Tryz.t192, by kernel_rfl, rfl, rfl, rfl⟩
def ti193 : TI := { desc := (Go.TypeDesc.tuple #[92, 4]), size := 1, bytes := 0, zero := (Go.Value.tuple #[Go.Value.agg #[Go.Value.int Go.IntKind.i64 0, Go.Value.int Go.IntKind.i64 0], Go.Value.bool false]) }
theorem tok193 : TOk Tryz.prog 193 ti193 := ⟨Tryz.underlying193, Tryz.t193, by kernel_rfl, rfl, rfl, rfl⟩
def ti195 : TI := { desc := (Go.TypeDesc.func #[92] #[4] false), size := 1, bytes := 8, zero := Go.Value.nilFunc }
theorem tok195 : TOk Tryz.prog 195 ti195 := ⟨Tryz.underlying195, Tryz.t195, by kernel_rfl, rfl, rfl, rfl⟩
def ti196 : TI := { desc := (Go.TypeDesc.pointer 190), size := 1, bytes := 8, zero := (Go.Value.pointer none) }
theorem tok196 : TOk Tryz.prog 196 ti196 := ⟨Tryz.underlying196, Tryz.t196, by kernel_rfl, rfl, rfl, rfl⟩
def tab : List (TypeId × TI) := [(0, ti0), (1, ti1), (2, ti2), (3, ti3), (4, ti4), (5, ti5), (6, ti6), (7, ti7), (8, ti8), (9, ti9), (10, ti10), (11, ti11), (12, ti12), (13, ti13), (14, ti14), (15, ti15), (16, ti16), (17, ti17), (18, ti18), (19, ti19), (20, ti20), (21, ti21), (22, ti22), (23, ti23), (24, ti24), (25, ti25), (26, ti26), (27, ti27), (28, ti28), (29, ti29), (30, ti30), (31, ti31), (32, ti32), (33, ti33), (34, ti34), (35, ti35), (38, ti38), (39, ti39), (40, ti40), (41, ti41), (42, ti42), (43, ti43), (46, ti46), (48, ti48), (49, ti49), (50, ti50), (51, ti51), (52, ti52), (54, ti54), (55, ti55), (56, ti56), (57, ti57), (58, ti58), (59, ti59), (60, ti60), (61, ti61), (62, ti62), (63, ti63), (64, ti64), (65, ti65), (66, ti66), (68, ti68), (71, ti71), (72, ti72), (73, ti73), (74, ti74), (75, ti75), (76, ti76), (78, ti78), (81, ti81), (83, ti83), (84, ti84), (85, ti85), (86, ti86), (88, ti88), (89, ti89), (90, ti90), (92, ti92), (93, ti93), (94, ti94), (96, ti96), (97, ti97), (100, ti100), (102, ti102), (103, ti103), (105, ti105), (106, ti106), (108, ti108), (109, ti109), (111, ti111), (112, ti112), (114, ti114), (116, ti116), (117, ti117), (118, ti118), (119, ti119), (121, ti121), (123, ti123), (125, ti125), (126, ti126), (127, ti127), (128, ti128), (130, ti130), (131, ti131), (132, ti132), (135, ti135), (136, ti136), (137, ti137), (139, ti139), (140, ti140), (142, ti142), (143, ti143), (145, ti145), (148, ti148), (149, ti149), (151, ti151), (154, ti154), (157, ti157), (158, ti158), (160, ti160), (162, ti162), (165, ti165), (169, ti169), (172, ti172), (175, ti175), (176, ti176), (179, ti179), (182, ti182), (190, ti190), (192, ti192), (193, ti193), (195, ti195), (196, ti196)]
set_option maxRecDepth 100000 in
theorem tabOk : AllT Tryz.prog tab := .cons tok0 (.cons tok1 (.cons tok2 (.cons tok3 (.cons tok4 (.cons tok5 (.cons tok6 (.cons tok7 (.cons tok8 (.cons tok9 (.cons tok10 (.cons tok11 (.cons tok12 (.cons tok13 (.cons tok14 (.cons tok15 (.cons tok16 (.cons tok17 (.cons tok18 (.cons tok19 (.cons tok20 (.cons tok21 (.cons tok22 (.cons tok23 (.cons tok24 (.cons tok25 (.cons tok26 (.cons tok27 (.cons tok28 (.cons tok29 (.cons tok30 (.cons tok31 (.cons tok32 (.cons tok33 (.cons tok34 (.cons tok35 (.cons tok38 (.cons tok39 (.cons tok40 (.cons tok41 (.cons tok42 (.cons tok43 (.cons tok46 (.cons tok48 (.cons tok49 (.cons tok50 (.cons tok51 (.cons tok52 (.cons tok54 (.cons tok55 (.cons tok56 (.cons tok57 (.cons tok58 (.cons tok59 (.cons tok60 (.cons tok61 (.cons tok62 (.cons tok63 (.cons tok64 (.cons tok65 (.cons tok66 (.cons tok68 (.cons tok71 (.cons tok72 (.cons tok73 (.cons tok74 (.cons tok75 (.cons tok76 (.cons tok78 (.cons tok81 (.cons tok83 (.cons tok84 (.cons tok85 (.cons tok86 (.cons tok88 (.cons tok89 (.cons tok90 (.cons tok92 (.cons tok93 (.cons tok94 (.cons tok96 (.cons tok97 (.cons tok100 (.cons tok102 (.cons tok103 (.cons tok105 (.cons tok106 (.cons tok108 (.cons tok109 (.cons tok111 (.cons tok112 (.cons tok114 (.cons tok116 (.cons tok117 (.cons tok118 (.cons tok119 (.cons tok121 (.cons tok123 (.cons tok125 (.cons tok126 (.cons tok127 (.cons tok128 (.cons tok130 (.cons tok131 (.cons tok132 (.cons tok135 (.cons tok136 (.cons tok137 (.cons tok139 (.cons tok140 (.cons tok142 (.cons tok143 (.cons tok145 (.cons tok148 (.cons tok149 (.cons tok151 (.cons tok154 (.cons tok157 (.cons tok158 (.cons tok160 (.cons tok162 (.cons tok165 (.cons tok169 (.cons tok172 (.cons tok175 (.cons tok176 (.cons tok179 (.cons tok182 (.cons tok190 (.cons tok192 (.cons tok193 (.cons tok195 (.cons tok196 (.nil)))))))))))))))))))))))))))))))))))))))))))))))))))))))))))))))))))))))))))))))))))))))))))))))))))))))))))))))))))))))))))))))))))))
noncomputable def X : Prg := { P := Tryz.prog, tab := tab, tok := tabOk.lkT }
end Go.Proofs.YtbcbggdgkdfciaaGreat.S
