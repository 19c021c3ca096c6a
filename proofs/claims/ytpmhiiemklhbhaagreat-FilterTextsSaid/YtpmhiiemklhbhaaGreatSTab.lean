/- The types of the program, as a table. -/
import Derived.Test.YtpmhiiemklhbhaaGreatSF
import Derived.Test.YtpmhiiemklhbhaaGreatProg
import Derived.KernelRfl
namespace Go.Proofs.YtpmhiiemklhbhaaGreat.S
open Go Go.Sm
def ti0 : TI := { desc := (Go.TypeDesc.tuple #[]), size := 1, bytes := 0, zero := (Go.Value.tuple #[]) }
theorem tok0 : TOk Tryz.prog 0 ti0 := ⟨Tryz.underlying0, Tryz.t0, by kernel_rfl, rfl, rfl, rfl⟩
def ti1 : TI := { desc := (Go.TypeDesc.func #[] #[] false), size := 1, bytes := 8, zero := Go.Value.nilFunc }
theorem tok1 : TOk Tryz.prog 1 ti1 := ⟨Tryz.underlying1, Tryz.t1, by kernel_rfl, rfl, rfl, rfl⟩
def ti2 : TI := { desc := (Go.TypeDesc.int Go.IntKind.i64), size := 1, bytes := 8, zero := (Go.Value.int Go.IntKind.i64 0) }
theorem tok2 : TOk Tryz.prog 2 ti2 := ⟨Tryz.underlying2, Tryz.t2, by kernel_rfl, rfl, rfl, rfl⟩
def ti3 : TI := { desc := (Go.TypeDesc.int Go.IntKind.i64), size := 1, bytes := 8, zero := (Go.Value.int Go.IntKind.i64 0) }
theorem tok3 : TOk Tryz.prog 3 ti3 := ⟨Tryz.underlying3, Tryz.t3, by kernel_rfl, rfl, rfl, rfl⟩
def ti4 : TI := { desc := Go.TypeDesc.bool, size := 1, bytes := 1, zero := (Go.Value.bool false) }
theorem tok4 : TOk Tryz.prog 4 ti4 := ⟨Tryz.underlying4, Tryz.t4, by kernel_rfl, rfl, rfl, rfl⟩
def ti5 : TI := { desc := (Go.TypeDesc.int Go.IntKind.u8), size := 1, bytes := 1, zero := (Go.Value.int Go.IntKind.u8 0) }
theorem tok5 : TOk Tryz.prog 5 ti5 := ⟨Tryz.underlying5, Tryz.t5, by kernel_rfl, rfl, rfl, rfl⟩
def ti6 : TI := { desc := (Go.TypeDesc.int Go.IntKind.u8), size := 1, bytes := 1, zero := (Go.Value.int Go.IntKind.u8 0) }
theorem tok6 : TOk Tryz.prog 6 ti6 := ⟨Tryz.underlying6, Tryz.t6, by kernel_rfl, rfl, rfl, rfl⟩
def ti7 : TI := { desc := (Go.TypeDesc.struct #[{ name := "x", type := 2, offset := 0, embedded := false, tag := "", pkgPath := "runtime", byteOffset := 0 }, { name := "y", type := 3, offset := 1, embedded := false, tag := "", pkgPath := "runtime", byteOffset := 8 }, { name := "signed", type := 4, offset := 2, embedded := false, tag := "", pkgPath := "runtime", byteOffset := 16 }, { name := "code", type := 6, offset := 3, embedded := false, tag := "", pkgPath := "runtime", byteOffset := 17 }]), size := 4, bytes := 24, zero := (Go.Value.agg #[Go.Value.int Go.IntKind.i64 0, Go.Value.int Go.IntKind.i64 0, Go.Value.bool false, Go.Value.int Go.IntKind.u8 0]) }
theorem tok7 : TOk Tryz.prog 7 ti7 := ⟨Tryz.underlying7, Tryz.t7, by kernel_rfl, rfl, rfl, rfl⟩
def ti8 : TI := { desc := (Go.TypeDesc.struct #[{ name := "x", type := 2, offset := 0, embedded := false, tag := "", pkgPath := "runtime", byteOffset := 0 }, { name := "y", type := 3, offset := 1, embedded := false, tag := "", pkgPath := "runtime", byteOffset := 8 }, { name := "signed", type := 4, offset := 2, embedded := false, tag := "", pkgPath := "runtime", byteOffset := 16 }, { name := "code", type := 6, offset := 3, embedded := false, tag := "", pkgPath := "runtime", byteOffset := 17 }]), size := 4, bytes := 24, zero := (Go.Value.agg #[Go.Value.int Go.IntKind.i64 0, Go.Value.int Go.IntKind.i64 0, Go.Value.bool false, Go.Value.int Go.IntKind.u8 0]) }
theorem tok8 : TOk Tryz.prog 8 ti8 := ⟨Tryz.underlying8, Tryz.t8, by kernel_rfl, rfl, rfl, rfl⟩
def ti9 : TI := { desc := Go.TypeDesc.string, size := 1, bytes := 16, zero := (Go.Value.string { data := #[] }) }
theorem tok9 : TOk Tryz.prog 9 ti9 := ⟨Tryz.underlying9, Tryz.t9, by kernel_rfl, rfl, rfl, rfl⟩
def ti10 : TI := { desc := Go.TypeDesc.string, size := 1, bytes := 16, zero := (Go.Value.string { data := #[] }) }
theorem tok10 : TOk Tryz.prog 10 ti10 := ⟨Tryz.underlying10, Tryz.t10, by kernel_rfl, rfl, rfl, rfl⟩
def ti11 : TI := { desc := Go.TypeDesc.string, size := 1, bytes := 16, zero := (Go.Value.string { data := #[] }) }
theorem tok11 : TOk Tryz.prog 11 ti11 := ⟨Tryz.underlying11, Tryz.t11, by kernel_rfl, rfl, rfl, rfl⟩
def ti12 : TI := { desc := (Go.TypeDesc.int Go.IntKind.u64), size := 1, bytes := 8, zero := (Go.Value.int Go.IntKind.u64 0) }
theorem tok12 : TOk Tryz.prog 12 ti12 := ⟨Tryz.underlying12, Tryz.t12, by kernel_rfl, rfl, rfl, rfl⟩
def ti13 : TI := { desc := (Go.TypeDesc.struct #[{ name := "msg", type := 9, offset := 0, embedded := false, tag := "", pkgPath := "runtime", byteOffset := 0 }, { name := "addr", type := 12, offset := 1, embedded := false, tag := "", pkgPath := "runtime", byteOffset := 16 }]), size := 2, bytes := 24, zero := (Go.Value.agg #[Go.Value.string { data := #[] }, Go.Value.int Go.IntKind.u64 0]) }
theorem tok13 : TOk Tryz.prog 13 ti13 := ⟨Tryz.underlying13, Tryz.t13, by kernel_rfl, rfl, rfl, rfl⟩
def ti14 : TI := { desc := (Go.TypeDesc.struct #[{ name := "msg", type := 9, offset := 0, embedded := false, tag := "", pkgPath := "runtime", byteOffset := 0 }, { name := "addr", type := 12, offset := 1, embedded := false, tag := "", pkgPath := "runtime", byteOffset := 16 }]), size := 2, bytes := 24, zero := (Go.Value.agg #[Go.Value.string { data := #[] }, Go.Value.int Go.IntKind.u64 0]) }
theorem tok14 : TOk Tryz.prog 14 ti14 := ⟨Tryz.underlying14, Tryz.t14, by kernel_rfl, rfl, rfl, rfl⟩
def ti15 : TI := { desc := (Go.TypeDesc.pointer 369), size := 1, bytes := 8, zero := (Go.Value.pointer none) }
theorem tok15 : TOk Tryz.prog 15 ti15 := ⟨Tryz.underlying15, Tryz.t15, by kernel_rfl, rfl, rfl, rfl⟩
def ti16 : TI := { desc := (Go.TypeDesc.pointer 372), size := 1, bytes := 8, zero := (Go.Value.pointer none) }
theorem tok16 : TOk Tryz.prog 16 ti16 := ⟨Tryz.underlying16, Tryz.t16, by kernel_rfl, rfl, rfl, rfl⟩
def ti17 : TI := { desc := (Go.TypeDesc.pointer 381), size := 1, bytes := 8, zero := (Go.Value.pointer none) }
theorem tok17 : TOk Tryz.prog 17 ti17 := ⟨Tryz.underlying17, Tryz.t17, by kernel_rfl, rfl, rfl, rfl⟩
def ti18 : TI := { desc := (Go.TypeDesc.struct #[{ name := "typ", type := 17, offset := 0, embedded := false, tag := "", pkgPath := "internal/runtime/maps", byteOffset := 0 }]), size := 1, bytes := 8, zero := (Go.Value.agg #[Go.Value.pointer none]) }
theorem tok18 : TOk Tryz.prog 18 ti18 := ⟨Tryz.underlying18, Tryz.t18, by kernel_rfl, rfl, rfl, rfl⟩
def ti19 : TI := { desc := (Go.TypeDesc.struct #[{ name := "typ", type := 17, offset := 0, embedded := false, tag := "", pkgPath := "internal/runtime/maps", byteOffset := 0 }]), size := 1, bytes := 8, zero := (Go.Value.agg #[Go.Value.pointer none]) }
theorem tok19 : TOk Tryz.prog 19 ti19 := ⟨Tryz.underlying19, Tryz.t19, by kernel_rfl, rfl, rfl, rfl⟩
def ti20 : TI := { desc := (Go.TypeDesc.interface #[]), size := 1, bytes := 16, zero := Go.Value.nilIface }
theorem tok20 : TOk Tryz.prog 20 ti20 := ⟨Tryz.underlying20, Tryz.t20, by kernel_rfl, rfl, rfl, rfl⟩
def ti21 : TI := { desc := (Go.TypeDesc.int Go.IntKind.i32), size := 1, bytes := 4, zero := (Go.Value.int Go.IntKind.i32 0) }
theorem tok21 : TOk Tryz.prog 21 ti21 := ⟨Tryz.underlying21, Tryz.t21, by kernel_rfl, rfl, rfl, rfl⟩
def ti22 : TI := { desc := (Go.TypeDesc.slice 37), size := 1, bytes := 24, zero := (Go.Value.slice none 0 0) }
theorem tok22 : TOk Tryz.prog 22 ti22 := ⟨Tryz.underlying22, Tryz.t22, by kernel_rfl, rfl, rfl, rfl⟩
def ti23 : TI := { desc := (Go.TypeDesc.pointer 223), size := 1, bytes := 8, zero := (Go.Value.pointer none) }
theorem tok23 : TOk Tryz.prog 23 ti23 := ⟨Tryz.underlying23, Tryz.t23, by kernel_rfl, rfl, rfl, rfl⟩
def ti24 : TI := { desc := (Go.TypeDesc.struct #[{ name := "root", type := 23, offset := 0, embedded := false, tag := "", pkgPath := "damier/tree", byteOffset := 0 }]), size := 1, bytes := 8, zero := (Go.Value.agg #[Go.Value.pointer none]) }
theorem tok24 : TOk Tryz.prog 24 ti24 := ⟨Tryz.underlying24, Tryz.t24, by kernel_rfl, rfl, rfl, rfl⟩
def ti25 : TI := { desc := (Go.TypeDesc.struct #[{ name := "root", type := 23, offset := 0, embedded := false, tag := "", pkgPath := "damier/tree", byteOffset := 0 }]), size := 1, bytes := 8, zero := (Go.Value.agg #[Go.Value.pointer none]) }
theorem tok25 : TOk Tryz.prog 25 ti25 := ⟨Tryz.underlying25, Tryz.t25, by kernel_rfl, rfl, rfl, rfl⟩
def ti26 : TI := { desc := (Go.TypeDesc.struct #[{ name := "Rows", type := 25, offset := 0, embedded := false, tag := "", pkgPath := "", byteOffset := 0 }, { name := "Tail", type := 4, offset := 1, embedded := false, tag := "", pkgPath := "", byteOffset := 8 }, { name := "End", type := 3, offset := 2, embedded := false, tag := "", pkgPath := "", byteOffset := 16 }]), size := 3, bytes := 24, zero := (Go.Value.agg #[Go.Value.pointer none, Go.Value.bool false, Go.Value.int Go.IntKind.i64 0]) }
theorem tok26 : TOk Tryz.prog 26 ti26 := ⟨Tryz.underlying26, Tryz.t26, by kernel_rfl, rfl, rfl, rfl⟩
def ti27 : TI := { desc := (Go.TypeDesc.struct #[{ name := "Rows", type := 25, offset := 0, embedded := false, tag := "", pkgPath := "", byteOffset := 0 }, { name := "Tail", type := 4, offset := 1, embedded := false, tag := "", pkgPath := "", byteOffset := 8 }, { name := "End", type := 3, offset := 2, embedded := false, tag := "", pkgPath := "", byteOffset := 16 }]), size := 3, bytes := 24, zero := (Go.Value.agg #[Go.Value.pointer none, Go.Value.bool false, Go.Value.int Go.IntKind.i64 0]) }
theorem tok27 : TOk Tryz.prog 27 ti27 := ⟨Tryz.underlying27, Tryz.t27, by kernel_rfl, rfl, rfl, rfl⟩
def ti28 : TI := { desc := (Go.TypeDesc.pointer 264), size := 1, bytes := 8, zero := (Go.Value.pointer none) }
theorem tok28 : TOk Tryz.prog 28 ti28 := ⟨Tryz.underlying28, Tryz.t28, by kernel_rfl, rfl, rfl, rfl⟩
def ti29 : TI := { desc := (Go.TypeDesc.slice 60), size := 1, bytes := 24, zero := (Go.Value.slice none 0 0) }
theorem tok29 : TOk Tryz.prog 29 ti29 := ⟨Tryz.underlying29, Tryz.t29, by kernel_rfl, rfl, rfl, rfl⟩
def ti30 : TI := { desc := (Go.TypeDesc.struct #[{ name := "Rows", type := 29, offset := 0, embedded := false, tag := "", pkgPath := "", byteOffset := 0 }, { name := "Tail", type := 4, offset := 1, embedded := false, tag := "", pkgPath := "", byteOffset := 24 }, { name := "End", type := 3, offset := 2, embedded := false, tag := "", pkgPath := "", byteOffset := 32 }]), size := 3, bytes := 40, zero := (Go.Value.agg #[Go.Value.slice none 0 0, Go.Value.bool false, Go.Value.int Go.IntKind.i64 0]) }
theorem tok30 : TOk Tryz.prog 30 ti30 := ⟨Tryz.underlying30, Tryz.t30, by kernel_rfl, rfl, rfl, rfl⟩
def ti31 : TI := { desc := (Go.TypeDesc.struct #[{ name := "Rows", type := 29, offset := 0, embedded := false, tag := "", pkgPath := "", byteOffset := 0 }, { name := "Tail", type := 4, offset := 1, embedded := false, tag := "", pkgPath := "", byteOffset := 24 }, { name := "End", type := 3, offset := 2, embedded := false, tag := "", pkgPath := "", byteOffset := 32 }]), size := 3, bytes := 40, zero := (Go.Value.agg #[Go.Value.slice none 0 0, Go.Value.bool false, Go.Value.int Go.IntKind.i64 0]) }
theorem tok31 : TOk Tryz.prog 31 ti31 := ⟨Tryz.underlying31, Tryz.t31, by kernel_rfl, rfl, rfl, rfl⟩
def ti32 : TI := { desc := (Go.TypeDesc.tuple #[27, 28, 31, 4]), size := 1, bytes := 0, zero := (Go.Value.tuple #[Go.Value.agg #[Go.Value.pointer none, Go.Value.bool false, Go.Value.int Go.IntKind.i64 0], Go.Value.pointer none, Go.Value.agg #[Go.Value.slice none 0 0, Go.Value.bool false, Go.Value.int Go.IntKind.i64 0], Go.Value.bool false]) }
theorem tok32 : TOk Tryz.prog 32 ti32 := ⟨Tryz.underlying32, Tryz.t32, by kernel_rfl, rfl, rfl, rfl⟩
def ti33 : TI := { desc := (Go.TypeDesc.func #[9] #[27, 28, 31, 4] false), size := 1, bytes := 8, zero := Go.Value.nilFunc }
theorem tok33 : TOk Tryz.prog 33 ti33 := ⟨Tryz.underlying33, Tryz.t33, by kernel_rfl, rfl, rfl, rfl⟩
def ti34 : TI := { desc := (Go.TypeDesc.func #[9, 3] #[9] false), size := 1, bytes := 8, zero := Go.Value.nilFunc }
theorem tok34 : TOk Tryz.prog 34 ti34 := ⟨Tryz.underlying34, Tryz.t34, by kernel_rfl, rfl, rfl, rfl⟩
def ti35 : TI := { desc := (Go.TypeDesc.func #[] #[4] false), size := 1, bytes := 8, zero := Go.Value.nilFunc }
theorem tok35 : TOk Tryz.prog 35 ti35 := ⟨Tryz.underlying35, Tryz.t35, by kernel_rfl, rfl, rfl, rfl⟩
def ti36 : TI := { desc := (Go.TypeDesc.struct #[{ name := "Kind", type := 3, offset := 0, embedded := false, tag := "", pkgPath := "", byteOffset := 0 }, { name := "C", type := 3, offset := 1, embedded := false, tag := "", pkgPath := "", byteOffset := 8 }, { name := "D", type := 3, offset := 2, embedded := false, tag := "", pkgPath := "", byteOffset := 16 }]), size := 3, bytes := 24, zero := (Go.Value.agg #[Go.Value.int Go.IntKind.i64 0, Go.Value.int Go.IntKind.i64 0, Go.Value.int Go.IntKind.i64 0]) }
theorem tok36 : TOk Tryz.prog 36 ti36 := ⟨Tryz.underlying36, Tryz.t36, by kernel_rfl, rfl, rfl, rfl⟩
def ti37 : TI := { desc := (Go.TypeDesc.struct #[{ name := "Kind", type := 3, offset := 0, embedded := false, tag := "", pkgPath := "", byteOffset := 0 }, { name := "C", type := 3, offset := 1, embedded := false, tag := "", pkgPath := "", byteOffset := 8 }, { name := "D", type := 3, offset := 2, embedded := false, tag := "", pkgPath := "", byteOffset := 16 }]), size := 3, bytes := 24, zero := (Go.Value.agg #[Go.Value.int Go.IntKind.i64 0, Go.Value.int Go.IntKind.i64 0, Go.Value.int Go.IntKind.i64 0]) }
theorem tok37 : TOk Tryz.prog 37 ti37 := ⟨Tryz.underlying37, Tryz.t37, by kernel_rfl, rfl, rfl, rfl⟩
def ti38 : TI := { desc := (Go.TypeDesc.tuple #[27, 31, 4]), size := 1, bytes := 0, zero := (Go.Value.tuple #[Go.Value.agg #[Go.Value.pointer none, Go.Value.bool false, Go.Value.int Go.IntKind.i64 0], Go.Value.agg #[Go.Value.slice none 0 0, Go.Value.bool false, Go.Value.int Go.IntKind.i64 0], Go.Value.bool false]) }
theorem tok38 : TOk Tryz.prog 38 ti38 := ⟨Tryz.underlying38, Tryz.t38, by kernel_rfl, rfl, rfl, rfl⟩
def ti39 : TI := { desc := (Go.TypeDesc.func #[27, 31, 37] #[27, 31, 4] false), size := 1, bytes := 8, zero := Go.Value.nilFunc }
theorem tok39 : TOk Tryz.prog 39 ti39 := ⟨Tryz.underlying39, Tryz.t39, by kernel_rfl, rfl, rfl, rfl⟩
def ti40 : TI := { desc := (Go.TypeDesc.func #[31, 31] #[4] false), size := 1, bytes := 8, zero := Go.Value.nilFunc }
theorem tok40 : TOk Tryz.prog 40 ti40 := ⟨Tryz.underlying40, Tryz.t40, by kernel_rfl, rfl, rfl, rfl⟩
def ti41 : TI := { desc := (Go.TypeDesc.func #[28, 27] #[31] false), size := 1, bytes := 8, zero := Go.Value.nilFunc }
theorem tok41 : TOk Tryz.prog 41 ti41 := ⟨Tryz.underlying41, Tryz.t41, by kernel_rfl, rfl, rfl, rfl⟩
def ti42 : TI := { desc := (Go.TypeDesc.func #[27] #[4] false), size := 1, bytes := 8, zero := Go.Value.nilFunc }
theorem tok42 : TOk Tryz.prog 42 ti42 := ⟨Tryz.underlying42, Tryz.t42, by kernel_rfl, rfl, rfl, rfl⟩
def ti43 : TI := { desc := (Go.TypeDesc.func #[31] #[4] false), size := 1, bytes := 8, zero := Go.Value.nilFunc }
theorem tok43 : TOk Tryz.prog 43 ti43 := ⟨Tryz.underlying43, Tryz.t43, by kernel_rfl, rfl, rfl, rfl⟩
def ti44 : TI := { desc := (Go.TypeDesc.func #[9, 22] #[4] false), size := 1, bytes := 8, zero := Go.Value.nilFunc }
theorem tok44 : TOk Tryz.prog 44 ti44 := ⟨Tryz.underlying44, Tryz.t44, by kernel_rfl, rfl, rfl, rfl⟩
def ti45 : TI := { desc := (Go.TypeDesc.int Go.IntKind.u64), size := 1, bytes := 8, zero := (Go.Value.int Go.IntKind.u64 0) }
theorem tok45 : TOk Tryz.prog 45 ti45 := ⟨Tryz.underlying45, Tryz.t45, by kernel_rfl, rfl, rfl, rfl⟩
def ti46 : TI := { desc := (Go.TypeDesc.func #[] #[3] false), size := 1, bytes := 8, zero := Go.Value.nilFunc }
theorem tok46 : TOk Tryz.prog 46 ti46 := ⟨Tryz.underlying46, Tryz.t46, by kernel_rfl, rfl, rfl, rfl⟩
def ti47 : TI := { desc := (Go.TypeDesc.slice 144), size := 1, bytes := 24, zero := (Go.Value.slice none 0 0) }
theorem tok47 : TOk Tryz.prog 47 ti47 := ⟨Tryz.underlying47, Tryz.t47, by kernel_rfl, rfl, rfl, rfl⟩
def ti48 : TI := { desc := (Go.TypeDesc.struct #[{ name := "Cells", type := 47, offset := 0, embedded := false, tag := "", pkgPath := "", byteOffset := 0 }, { name := "End", type := 3, offset := 1, embedded := false, tag := "", pkgPath := "", byteOffset := 24 }, { name := "Hidden", type := 4, offset := 2, embedded := false, tag := "", pkgPath := "", byteOffset := 32 }]), size := 3, bytes := 40, zero := (Go.Value.agg #[Go.Value.slice none 0 0, Go.Value.int Go.IntKind.i64 0, Go.Value.bool false]) }
theorem tok48 : TOk Tryz.prog 48 ti48 := ⟨Tryz.underlying48, Tryz.t48, by kernel_rfl, rfl, rfl, rfl⟩
def ti49 : TI := { desc := (Go.TypeDesc.struct #[{ name := "Cells", type := 47, offset := 0, embedded := false, tag := "", pkgPath := "", byteOffset := 0 }, { name := "End", type := 3, offset := 1, embedded := false, tag := "", pkgPath := "", byteOffset := 24 }, { name := "Hidden", type := 4, offset := 2, embedded := false, tag := "", pkgPath := "", byteOffset := 32 }]), size := 3, bytes := 40, zero := (Go.Value.agg #[Go.Value.slice none 0 0, Go.Value.int Go.IntKind.i64 0, Go.Value.bool false]) }
theorem tok49 : TOk Tryz.prog 49 ti49 := ⟨Tryz.underlying49, Tryz.t49, by kernel_rfl, rfl, rfl, rfl⟩
def ti50 : TI := { desc := (Go.TypeDesc.tuple #[49, 4]), size := 1, bytes := 0, zero := (Go.Value.tuple #[Go.Value.agg #[Go.Value.slice none 0 0, Go.Value.int Go.IntKind.i64 0, Go.Value.bool false], Go.Value.bool false]) }
theorem tok50 : TOk Tryz.prog 50 ti50 := ⟨Tryz.underlying50, Tryz.t50, by kernel_rfl, rfl, rfl, rfl⟩
def ti51 : TI := { desc := (Go.TypeDesc.func #[3] #[49, 4] false), size := 1, bytes := 8, zero := Go.Value.nilFunc }
theorem tok51 : TOk Tryz.prog 51 ti51 := ⟨Tryz.underlying51, Tryz.t51, by kernel_rfl, rfl, rfl, rfl⟩
def ti52 : TI := { desc := (Go.TypeDesc.func #[22] #[4] false), size := 1, bytes := 8, zero := Go.Value.nilFunc }
theorem tok52 : TOk Tryz.prog 52 ti52 := ⟨Tryz.underlying52, Tryz.t52, by kernel_rfl, rfl, rfl, rfl⟩
def ti53 : TI := { desc := (Go.TypeDesc.int Go.IntKind.i64), size := 1, bytes := 8, zero := (Go.Value.int Go.IntKind.i64 0) }
theorem tok53 : TOk Tryz.prog 53 ti53 := ⟨Tryz.underlying53, Tryz.t53, by kernel_rfl, rfl, rfl, rfl⟩
def ti54 : TI := { desc := (Go.TypeDesc.tuple #[27, 53]), size := 1, bytes := 0, zero := (Go.Value.tuple #[Go.Value.agg #[Go.Value.pointer none, Go.Value.bool false, Go.Value.int Go.IntKind.i64 0], Go.Value.int Go.IntKind.i64 0]) }
theorem tok54 : TOk Tryz.prog 54 ti54 := ⟨Tryz.underlying54, Tryz.t54, by kernel_rfl, rfl, rfl, rfl⟩
def ti55 : TI := { desc := (Go.TypeDesc.func #[27, 3] #[27, 53] false), size := 1, bytes := 8, zero := Go.Value.nilFunc }
theorem tok55 : TOk Tryz.prog 55 ti55 := ⟨Tryz.underlying55, Tryz.t55, by kernel_rfl, rfl, rfl, rfl⟩
def ti56 : TI := { desc := (Go.TypeDesc.func #[28, 27, 27] #[4] false), size := 1, bytes := 8, zero := Go.Value.nilFunc }
theorem tok56 : TOk Tryz.prog 56 ti56 := ⟨Tryz.underlying56, Tryz.t56, by kernel_rfl, rfl, rfl, rfl⟩
def ti57 : TI := { desc := (Go.TypeDesc.func #[27, 3, 3] #[27, 53] false), size := 1, bytes := 8, zero := Go.Value.nilFunc }
theorem tok57 : TOk Tryz.prog 57 ti57 := ⟨Tryz.underlying57, Tryz.t57, by kernel_rfl, rfl, rfl, rfl⟩
def ti58 : TI := { desc := (Go.TypeDesc.slice 151), size := 1, bytes := 24, zero := (Go.Value.slice none 0 0) }
theorem tok58 : TOk Tryz.prog 58 ti58 := ⟨Tryz.underlying58, Tryz.t58, by kernel_rfl, rfl, rfl, rfl⟩
def ti59 : TI := { desc := (Go.TypeDesc.struct #[{ name := "Cells", type := 58, offset := 0, embedded := false, tag := "", pkgPath := "", byteOffset := 0 }, { name := "End", type := 3, offset := 1, embedded := false, tag := "", pkgPath := "", byteOffset := 24 }, { name := "Hidden", type := 4, offset := 2, embedded := false, tag := "", pkgPath := "", byteOffset := 32 }]), size := 3, bytes := 40, zero := (Go.Value.agg #[Go.Value.slice none 0 0, Go.Value.int Go.IntKind.i64 0, Go.Value.bool false]) }
theorem tok59 : TOk Tryz.prog 59 ti59 := ⟨Tryz.underlying59, Tryz.t59, by kernel_rfl, rfl, rfl, rfl⟩
def ti60 : TI := { desc := (Go.TypeDesc.struct #[{ name := "Cells", type := 58, offset := 0, embedded := false, tag := "", pkgPath := "", byteOffset := 0 }, { name := "End", type := 3, offset := 1, embedded := false, tag := "", pkgPath := "", byteOffset := 24 }, { name := "Hidden", type := 4, offset := 2, embedded := false, tag := "", pkgPath := "", byteOffset := 32 }]), size := 3, bytes := 40, zero := (Go.Value.agg #[Go.Value.slice none 0 0, Go.Value.int Go.IntKind.i64 0, Go.Value.bool false]) }
theorem tok60 : TOk Tryz.prog 60 ti60 := ⟨Tryz.underlying60, Tryz.t60, by kernel_rfl, rfl, rfl, rfl⟩
def ti61 : TI := { desc := (Go.TypeDesc.func #[58, 58] #[4] false), size := 1, bytes := 8, zero := Go.Value.nilFunc }
theorem tok61 : TOk Tryz.prog 61 ti61 := ⟨Tryz.underlying61, Tryz.t61, by kernel_rfl, rfl, rfl, rfl⟩
def ti62 : TI := { desc := (Go.TypeDesc.func #[9, 3, 3] #[4] false), size := 1, bytes := 8, zero := Go.Value.nilFunc }
theorem tok62 : TOk Tryz.prog 62 ti62 := ⟨Tryz.underlying62, Tryz.t62, by kernel_rfl, rfl, rfl, rfl⟩
def ti63 : TI := { desc := (Go.TypeDesc.struct #[{ name := "Col", type := 3, offset := 0, embedded := false, tag := "", pkgPath := "", byteOffset := 0 }, { name := "Op", type := 3, offset := 1, embedded := false, tag := "", pkgPath := "", byteOffset := 8 }, { name := "Arg", type := 9, offset := 2, embedded := false, tag := "", pkgPath := "", byteOffset := 16 }, { name := "Not", type := 4, offset := 3, embedded := false, tag := "", pkgPath := "", byteOffset := 32 }]), size := 4, bytes := 40, zero := (Go.Value.agg #[Go.Value.int Go.IntKind.i64 0, Go.Value.int Go.IntKind.i64 0, Go.Value.string { data := #[] }, Go.Value.bool false]) }
theorem tok63 : TOk Tryz.prog 63 ti63 := ⟨Tryz.underlying63, Tryz.t63, by kernel_rfl, rfl, rfl, rfl⟩
def ti64 : TI := { desc := (Go.TypeDesc.struct #[{ name := "Col", type := 3, offset := 0, embedded := false, tag := "", pkgPath := "", byteOffset := 0 }, { name := "Op", type := 3, offset := 1, embedded := false, tag := "", pkgPath := "", byteOffset := 8 }, { name := "Arg", type := 9, offset := 2, embedded := false, tag := "", pkgPath := "", byteOffset := 16 }, { name := "Not", type := 4, offset := 3, embedded := false, tag := "", pkgPath := "", byteOffset := 32 }]), size := 4, bytes := 40, zero := (Go.Value.agg #[Go.Value.int Go.IntKind.i64 0, Go.Value.int Go.IntKind.i64 0, Go.Value.string { data := #[] }, Go.Value.bool false]) }
theorem tok64 : TOk Tryz.prog 64 ti64 := ⟨Tryz.underlying64, Tryz.t64, by kernel_rfl, rfl, rfl, rfl⟩
def ti65 : TI := { desc := (Go.TypeDesc.struct #[{ name := "Col", type := 3, offset := 0, embedded := false, tag := "", pkgPath := "", byteOffset := 0 }, { name := "Op", type := 3, offset := 1, embedded := false, tag := "", pkgPath := "", byteOffset := 8 }, { name := "Arg", type := 9, offset := 2, embedded := false, tag := "", pkgPath := "", byteOffset := 16 }, { name := "Not", type := 4, offset := 3, embedded := false, tag := "", pkgPath := "", byteOffset := 32 }]), size := 4, bytes := 40, zero := (Go.Value.agg #[Go.Value.int Go.IntKind.i64 0, Go.Value.int Go.IntKind.i64 0, Go.Value.string { data := #[] }, Go.Value.bool false]) }
theorem tok65 : TOk Tryz.prog 65 ti65 := ⟨Tryz.underlying65, Tryz.t65, by kernel_rfl, rfl, rfl, rfl⟩
def ti66 : TI := { desc := (Go.TypeDesc.tuple #[65, 53]), size := 1, bytes := 0, zero := (Go.Value.tuple #[Go.Value.agg #[Go.Value.int Go.IntKind.i64 0, Go.Value.int Go.IntKind.i64 0, Go.Value.string { data := #[] }, Go.Value.bool false], Go.Value.int Go.IntKind.i64 0]) }
theorem tok66 : TOk Tryz.prog 66 ti66 := ⟨Tryz.underlying66, Tryz.t66, by kernel_rfl, rfl, rfl, rfl⟩
def ti67 : TI := { desc := (Go.TypeDesc.func #[9] #[65, 53] false), size := 1, bytes := 8, zero := Go.Value.nilFunc }
theorem tok67 : TOk Tryz.prog 67 ti67 := ⟨Tryz.underlying67, Tryz.t67, by kernel_rfl, rfl, rfl, rfl⟩
def ti68 : TI := { desc := (Go.TypeDesc.tuple #[64, 53]), size := 1, bytes := 0, zero := (Go.Value.tuple #[Go.Value.agg #[Go.Value.int Go.IntKind.i64 0, Go.Value.int Go.IntKind.i64 0, Go.Value.string { data := #[] }, Go.Value.bool false], Go.Value.int Go.IntKind.i64 0]) }
theorem tok68 : TOk Tryz.prog 68 ti68 := ⟨Tryz.underlying68, Tryz.t68, by kernel_rfl, rfl, rfl, rfl⟩
def ti69 : TI := { desc := (Go.TypeDesc.func #[9] #[64, 53] false), size := 1, bytes := 8, zero := Go.Value.nilFunc }
theorem tok69 : TOk Tryz.prog 69 ti69 := ⟨Tryz.underlying69, Tryz.t69, by kernel_rfl, rfl, rfl, rfl⟩
def ti70 : TI := { desc := (Go.TypeDesc.func #[65] #[4] false), size := 1, bytes := 8, zero := Go.Value.nilFunc }
theorem tok70 : TOk Tryz.prog 70 ti70 := ⟨Tryz.underlying70, Tryz.t70, by kernel_rfl, rfl, rfl, rfl⟩
def ti71 : TI := { desc := (Go.TypeDesc.func #[64] #[65] false), size := 1, bytes := 8, zero := Go.Value.nilFunc }
theorem tok71 : TOk Tryz.prog 71 ti71 := ⟨Tryz.underlying71, Tryz.t71, by kernel_rfl, rfl, rfl, rfl⟩
def ti72 : TI := { desc := (Go.TypeDesc.func #[64] #[4] false), size := 1, bytes := 8, zero := Go.Value.nilFunc }
theorem tok72 : TOk Tryz.prog 72 ti72 := ⟨Tryz.underlying72, Tryz.t72, by kernel_rfl, rfl, rfl, rfl⟩
def ti73 : TI := { desc := (Go.TypeDesc.func #[65] #[9] false), size := 1, bytes := 8, zero := Go.Value.nilFunc }
theorem tok73 : TOk Tryz.prog 73 ti73 := ⟨Tryz.underlying73, Tryz.t73, by kernel_rfl, rfl, rfl, rfl⟩
def ti74 : TI := { desc := (Go.TypeDesc.func #[64] #[9] false), size := 1, bytes := 8, zero := Go.Value.nilFunc }
theorem tok74 : TOk Tryz.prog 74 ti74 := ⟨Tryz.underlying74, Tryz.t74, by kernel_rfl, rfl, rfl, rfl⟩
def ti75 : TI := { desc := (Go.TypeDesc.func #[64, 9] #[4] false), size := 1, bytes := 8, zero := Go.Value.nilFunc }
theorem tok75 : TOk Tryz.prog 75 ti75 := ⟨Tryz.underlying75, Tryz.t75, by kernel_rfl, rfl, rfl, rfl⟩
def ti76 : TI := { desc := (Go.TypeDesc.slice 3), size := 1, bytes := 24, zero := (Go.Value.slice none 0 0) }
theorem tok76 : TOk Tryz.prog 76 ti76 := ⟨Tryz.underlying76, Tryz.t76, by kernel_rfl, rfl, rfl, rfl⟩
def ti77 : TI := { desc := (Go.TypeDesc.array 2 76), size := 2, bytes := 48, zero := (Go.Value.agg #[Go.Value.slice none 0 0, Go.Value.slice none 0 0]) }
theorem tok77 : TOk Tryz.prog 77 ti77 := ⟨Tryz.underlying77, Tryz.t77, by kernel_rfl, rfl, rfl, rfl⟩
def ti78 : TI := { desc := (Go.TypeDesc.func #[27, 76, 76] #[27, 53] false), size := 1, bytes := 8, zero := Go.Value.nilFunc }
theorem tok78 : TOk Tryz.prog 78 ti78 := ⟨Tryz.underlying78, Tryz.t78, by kernel_rfl, rfl, rfl, rfl⟩
def ti79 : TI := { desc := (Go.TypeDesc.tuple #[31, 53]), size := 1, bytes := 0, zero := (Go.Value.tuple #[Go.Value.agg #[Go.Value.slice none 0 0, Go.Value.bool false, Go.Value.int Go.IntKind.i64 0], Go.Value.int Go.IntKind.i64 0]) }
theorem tok79 : TOk Tryz.prog 79 ti79 := ⟨Tryz.underlying79, Tryz.t79, by kernel_rfl, rfl, rfl, rfl⟩
def ti80 : TI := { desc := (Go.TypeDesc.func #[31, 76, 76] #[31, 53] false), size := 1, bytes := 8, zero := Go.Value.nilFunc }
theorem tok80 : TOk Tryz.prog 80 ti80 := ⟨Tryz.underlying80, Tryz.t80, by kernel_rfl, rfl, rfl, rfl⟩
def ti81 : TI := { desc := (Go.TypeDesc.func #[27, 28, 3] #[3] false), size := 1, bytes := 8, zero := Go.Value.nilFunc }
theorem tok81 : TOk Tryz.prog 81 ti81 := ⟨Tryz.underlying81, Tryz.t81, by kernel_rfl, rfl, rfl, rfl⟩
def ti82 : TI := { desc := (Go.TypeDesc.func #[31, 3] #[3] false), size := 1, bytes := 8, zero := Go.Value.nilFunc }
theorem tok82 : TOk Tryz.prog 82 ti82 := ⟨Tryz.underlying82, Tryz.t82, by kernel_rfl, rfl, rfl, rfl⟩
def ti83 : TI := { desc := (Go.TypeDesc.func #[9, 77, 3] #[4] false), size := 1, bytes := 8, zero := Go.Value.nilFunc }
theorem tok83 : TOk Tryz.prog 83 ti83 := ⟨Tryz.underlying83, Tryz.t83, by kernel_rfl, rfl, rfl, rfl⟩
def ti84 : TI := { desc := (Go.TypeDesc.func #[49, 28, 65] #[4] false), size := 1, bytes := 8, zero := Go.Value.nilFunc }
theorem tok84 : TOk Tryz.prog 84 ti84 := ⟨Tryz.underlying84, Tryz.t84, by kernel_rfl, rfl, rfl, rfl⟩
def ti85 : TI := { desc := (Go.TypeDesc.func #[60, 64] #[4] false), size := 1, bytes := 8, zero := Go.Value.nilFunc }
theorem tok85 : TOk Tryz.prog 85 ti85 := ⟨Tryz.underlying85, Tryz.t85, by kernel_rfl, rfl, rfl, rfl⟩
def ti86 : TI := { desc := (Go.TypeDesc.func #[9, 64] #[4] false), size := 1, bytes := 8, zero := Go.Value.nilFunc }
theorem tok86 : TOk Tryz.prog 86 ti86 := ⟨Tryz.underlying86, Tryz.t86, by kernel_rfl, rfl, rfl, rfl⟩
def ti87 : TI := { desc := (Go.TypeDesc.slice 64), size := 1, bytes := 24, zero := (Go.Value.slice none 0 0) }
theorem tok87 : TOk Tryz.prog 87 ti87 := ⟨Tryz.underlying87, Tryz.t87, by kernel_rfl, rfl, rfl, rfl⟩
def ti88 : TI := { desc := (Go.TypeDesc.slice 65), size := 1, bytes := 24, zero := (Go.Value.slice none 0 0) }
theorem tok88 : TOk Tryz.prog 88 ti88 := ⟨Tryz.underlying88, Tryz.t88, by kernel_rfl, rfl, rfl, rfl⟩
def ti89 : TI := { desc := (Go.TypeDesc.tuple #[88, 87]), size := 1, bytes := 0, zero := (Go.Value.tuple #[Go.Value.slice none 0 0, Go.Value.slice none 0 0]) }
theorem tok89 : TOk Tryz.prog 89 ti89 := ⟨Tryz.underlying89, Tryz.t89, by kernel_rfl, rfl, rfl, rfl⟩
def ti90 : TI := { desc := (Go.TypeDesc.func #[87] #[88, 87] false), size := 1, bytes := 8, zero := Go.Value.nilFunc }
theorem tok90 : TOk Tryz.prog 90 ti90 := ⟨Tryz.underlying90, Tryz.t90, by kernel_rfl, rfl, rfl, rfl⟩
def ti91 : TI := { desc := (Go.TypeDesc.func #[27, 28, 88] #[27, 53] true), size := 1, bytes := 8, zero := Go.Value.nilFunc }
theorem tok91 : TOk Tryz.prog 91 ti91 := ⟨Tryz.underlying91, Tryz.t91, by kernel_rfl, rfl, rfl, rfl⟩
def ti92 : TI := { desc := (Go.TypeDesc.func #[9, 87, 87] #[4] false), size := 1, bytes := 8, zero := Go.Value.nilFunc }
theorem tok92 : TOk Tryz.prog 92 ti92 := ⟨Tryz.underlying92, Tryz.t92, by kernel_rfl, rfl, rfl, rfl⟩
def ti93 : TI := { desc := (Go.TypeDesc.int Go.IntKind.u64), size := 1, bytes := 8, zero := (Go.Value.int Go.IntKind.u64 0) }
theorem tok93 : TOk Tryz.prog 93 ti93 := ⟨Tryz.underlying93, Tryz.t93, by kernel_rfl, rfl, rfl, rfl⟩
def ti94 : TI := { desc := (Go.TypeDesc.func #[9, 93] #[27, 28, 31, 4] false), size := 1, bytes := 8, zero := Go.Value.nilFunc }
theorem tok94 : TOk Tryz.prog 94 ti94 := ⟨Tryz.underlying94, Tryz.t94, by kernel_rfl, rfl, rfl, rfl⟩
def ti95 : TI := { desc := (Go.TypeDesc.func #[27, 28, 104] #[27, 53] true), size := 1, bytes := 8, zero := Go.Value.nilFunc }
theorem tok95 : TOk Tryz.prog 95 ti95 := ⟨Tryz.underlying95, Tryz.t95, by kernel_rfl, rfl, rfl, rfl⟩
def ti96 : TI := { desc := (Go.TypeDesc.struct #[{ name := "Col", type := 3, offset := 0, embedded := false, tag := "", pkgPath := "", byteOffset := 0 }, { name := "Down", type := 4, offset := 1, embedded := false, tag := "", pkgPath := "", byteOffset := 8 }]), size := 2, bytes := 16, zero := (Go.Value.agg #[Go.Value.int Go.IntKind.i64 0, Go.Value.bool false]) }
theorem tok96 : TOk Tryz.prog 96 ti96 := ⟨Tryz.underlying96, Tryz.t96, by kernel_rfl, rfl, rfl, rfl⟩
def ti97 : TI := { desc := (Go.TypeDesc.struct #[{ name := "Col", type := 3, offset := 0, embedded := false, tag := "", pkgPath := "", byteOffset := 0 }, { name := "Down", type := 4, offset := 1, embedded := false, tag := "", pkgPath := "", byteOffset := 8 }]), size := 2, bytes := 16, zero := (Go.Value.agg #[Go.Value.int Go.IntKind.i64 0, Go.Value.bool false]) }
theorem tok97 : TOk Tryz.prog 97 ti97 := ⟨Tryz.underlying97, Tryz.t97, by kernel_rfl, rfl, rfl, rfl⟩
def ti98 : TI := { desc := (Go.TypeDesc.func #[] #[76] false), size := 1, bytes := 8, zero := Go.Value.nilFunc }
theorem tok98 : TOk Tryz.prog 98 ti98 := ⟨Tryz.underlying98, Tryz.t98, by kernel_rfl, rfl, rfl, rfl⟩
def ti99 : TI := { desc := (Go.TypeDesc.func #[9, 93, 5] #[4] false), size := 1, bytes := 8, zero := Go.Value.nilFunc }
theorem tok99 : TOk Tryz.prog 99 ti99 := ⟨Tryz.underlying99, Tryz.t99, by kernel_rfl, rfl, rfl, rfl⟩
def ti100 : TI := { desc := (Go.TypeDesc.func #[31, 87, 4] #[31, 53] false), size := 1, bytes := 8, zero := Go.Value.nilFunc }
theorem tok100 : TOk Tryz.prog 100 ti100 := ⟨Tryz.underlying100, Tryz.t100, by kernel_rfl, rfl, rfl, rfl⟩
def ti101 : TI := { desc := (Go.TypeDesc.func #[27] #[27] false), size := 1, bytes := 8, zero := Go.Value.nilFunc }
theorem tok101 : TOk Tryz.prog 101 ti101 := ⟨Tryz.underlying101, Tryz.t101, by kernel_rfl, rfl, rfl, rfl⟩
def ti102 : TI := { desc := (Go.TypeDesc.func #[9, 93, 87] #[4] false), size := 1, bytes := 8, zero := Go.Value.nilFunc }
theorem tok102 : TOk Tryz.prog 102 ti102 := ⟨Tryz.underlying102, Tryz.t102, by kernel_rfl, rfl, rfl, rfl⟩
def ti103 : TI := { desc := (Go.TypeDesc.slice 189), size := 1, bytes := 24, zero := (Go.Value.slice none 0 0) }
theorem tok103 : TOk Tryz.prog 103 ti103 := ⟨Tryz.underlying103, Tryz.t103, by kernel_rfl, rfl, rfl, rfl⟩
def ti104 : TI := { desc := (Go.TypeDesc.slice 97), size := 1, bytes := 24, zero := (Go.Value.slice none 0 0) }
theorem tok104 : TOk Tryz.prog 104 ti104 := ⟨Tryz.underlying104, Tryz.t104, by kernel_rfl, rfl, rfl, rfl⟩
def ti105 : TI := { desc := (Go.TypeDesc.tuple #[104, 103]), size := 1, bytes := 0, zero := (Go.Value.tuple #[Go.Value.slice none 0 0, Go.Value.slice none 0 0]) }
theorem tok105 : TOk Tryz.prog 105 ti105 := ⟨Tryz.underlying105, Tryz.t105, by kernel_rfl, rfl, rfl, rfl⟩
def ti106 : TI := { desc := (Go.TypeDesc.func #[103] #[104, 103] false), size := 1, bytes := 8, zero := Go.Value.nilFunc }
theorem tok106 : TOk Tryz.prog 106 ti106 := ⟨Tryz.underlying106, Tryz.t106, by kernel_rfl, rfl, rfl, rfl⟩
def ti107 : TI := { desc := (Go.TypeDesc.func #[31, 103] #[31, 53] false), size := 1, bytes := 8, zero := Go.Value.nilFunc }
theorem tok107 : TOk Tryz.prog 107 ti107 := ⟨Tryz.underlying107, Tryz.t107, by kernel_rfl, rfl, rfl, rfl⟩
def ti108 : TI := { desc := (Go.TypeDesc.func #[104] #[4] true), size := 1, bytes := 8, zero := Go.Value.nilFunc }
theorem tok108 : TOk Tryz.prog 108 ti108 := ⟨Tryz.underlying108, Tryz.t108, by kernel_rfl, rfl, rfl, rfl⟩
def ti109 : TI := { desc := (Go.TypeDesc.func #[103] #[4] false), size := 1, bytes := 8, zero := Go.Value.nilFunc }
theorem tok109 : TOk Tryz.prog 109 ti109 := ⟨Tryz.underlying109, Tryz.t109, by kernel_rfl, rfl, rfl, rfl⟩
def ti110 : TI := { desc := (Go.TypeDesc.func #[76, 76] #[4] false), size := 1, bytes := 8, zero := Go.Value.nilFunc }
theorem tok110 : TOk Tryz.prog 110 ti110 := ⟨Tryz.underlying110, Tryz.t110, by kernel_rfl, rfl, rfl, rfl⟩
def ti111 : TI := { desc := (Go.TypeDesc.func #[27, 28, 104] #[76] true), size := 1, bytes := 8, zero := Go.Value.nilFunc }
theorem tok111 : TOk Tryz.prog 111 ti111 := ⟨Tryz.underlying111, Tryz.t111, by kernel_rfl, rfl, rfl, rfl⟩
def ti112 : TI := { desc := (Go.TypeDesc.func #[31, 103] #[76] false), size := 1, bytes := 8, zero := Go.Value.nilFunc }
theorem tok112 : TOk Tryz.prog 112 ti112 := ⟨Tryz.underlying112, Tryz.t112, by kernel_rfl, rfl, rfl, rfl⟩
def ti113 : TI := { desc := (Go.TypeDesc.func #[27, 28, 104] #[4] true), size := 1, bytes := 8, zero := Go.Value.nilFunc }
theorem tok113 : TOk Tryz.prog 113 ti113 := ⟨Tryz.underlying113, Tryz.t113, by kernel_rfl, rfl, rfl, rfl⟩
def ti114 : TI := { desc := (Go.TypeDesc.func #[31, 103] #[4] false), size := 1, bytes := 8, zero := Go.Value.nilFunc }
theorem tok114 : TOk Tryz.prog 114 ti114 := ⟨Tryz.underlying114, Tryz.t114, by kernel_rfl, rfl, rfl, rfl⟩
def ti115 : TI := { desc := (Go.TypeDesc.func #[9, 93, 103] #[4] false), size := 1, bytes := 8, zero := Go.Value.nilFunc }
theorem tok115 : TOk Tryz.prog 115 ti115 := ⟨Tryz.underlying115, Tryz.t115, by kernel_rfl, rfl, rfl, rfl⟩
def ti116 : TI := { desc := (Go.TypeDesc.func #[31] #[76] false), size := 1, bytes := 8, zero := Go.Value.nilFunc }
theorem tok116 : TOk Tryz.prog 116 ti116 := ⟨Tryz.underlying116, Tryz.t116, by kernel_rfl, rfl, rfl, rfl⟩
def ti117 : TI := { desc := (Go.TypeDesc.func #[31, 3] #[4] false), size := 1, bytes := 8, zero := Go.Value.nilFunc }
theorem tok117 : TOk Tryz.prog 117 ti117 := ⟨Tryz.underlying117, Tryz.t117, by kernel_rfl, rfl, rfl, rfl⟩
def ti118 : TI := { desc := (Go.TypeDesc.func #[60, 60] #[4] false), size := 1, bytes := 8, zero := Go.Value.nilFunc }
theorem tok118 : TOk Tryz.prog 118 ti118 := ⟨Tryz.underlying118, Tryz.t118, by kernel_rfl, rfl, rfl, rfl⟩
def ti119 : TI := { desc := (Go.TypeDesc.func #[60, 60, 103] #[3] false), size := 1, bytes := 8, zero := Go.Value.nilFunc }
theorem tok119 : TOk Tryz.prog 119 ti119 := ⟨Tryz.underlying119, Tryz.t119, by kernel_rfl, rfl, rfl, rfl⟩
def ti120 : TI := { desc := (Go.TypeDesc.tuple #[27, 28, 53]), size := 1, bytes := 0, zero := (Go.Value.tuple #[Go.Value.agg #[Go.Value.pointer none, Go.Value.bool false, Go.Value.int Go.IntKind.i64 0], Go.Value.pointer none, Go.Value.int Go.IntKind.i64 0]) }
theorem tok120 : TOk Tryz.prog 120 ti120 := ⟨Tryz.underlying120, Tryz.t120, by kernel_rfl, rfl, rfl, rfl⟩
def ti121 : TI := { desc := (Go.TypeDesc.func #[122] #[27, 28, 53] false), size := 1, bytes := 8, zero := Go.Value.nilFunc }
theorem tok121 : TOk Tryz.prog 121 ti121 := ⟨Tryz.underlying121, Tryz.t121, by kernel_rfl, rfl, rfl, rfl⟩
def ti122 : TI := { desc := (Go.TypeDesc.slice 5), size := 1, bytes := 24, zero := (Go.Value.slice none 0 0) }
theorem tok122 : TOk Tryz.prog 122 ti122 := ⟨Tryz.underlying122, Tryz.t122, by kernel_rfl, rfl, rfl, rfl⟩
def ti123 : TI := { desc := (Go.TypeDesc.func #[9] #[31, 53] false), size := 1, bytes := 8, zero := Go.Value.nilFunc }
theorem tok123 : TOk Tryz.prog 123 ti123 := ⟨Tryz.underlying123, Tryz.t123, by kernel_rfl, rfl, rfl, rfl⟩
def ti124 : TI := { desc := (Go.TypeDesc.func #[28] #[122] false), size := 1, bytes := 8, zero := Go.Value.nilFunc }
theorem tok124 : TOk Tryz.prog 124 ti124 := ⟨Tryz.underlying124, Tryz.t124, by kernel_rfl, rfl, rfl, rfl⟩
def ti125 : TI := { desc := (Go.TypeDesc.func #[31, 3] #[31, 53] false), size := 1, bytes := 8, zero := Go.Value.nilFunc }
theorem tok125 : TOk Tryz.prog 125 ti125 := ⟨Tryz.underlying125, Tryz.t125, by kernel_rfl, rfl, rfl, rfl⟩
def ti126 : TI := { desc := (Go.TypeDesc.func #[31, 3, 3] #[31, 53] false), size := 1, bytes := 8, zero := Go.Value.nilFunc }
theorem tok126 : TOk Tryz.prog 126 ti126 := ⟨Tryz.underlying126, Tryz.t126, by kernel_rfl, rfl, rfl, rfl⟩
def ti127 : TI := { desc := (Go.TypeDesc.func #[31] #[31] false), size := 1, bytes := 8, zero := Go.Value.nilFunc }
theorem tok127 : TOk Tryz.prog 127 ti127 := ⟨Tryz.underlying127, Tryz.t127, by kernel_rfl, rfl, rfl, rfl⟩
def ti128 : TI := { desc := (Go.TypeDesc.func #[28, 49] #[60] false), size := 1, bytes := 8, zero := Go.Value.nilFunc }
theorem tok128 : TOk Tryz.prog 128 ti128 := ⟨Tryz.underlying128, Tryz.t128, by kernel_rfl, rfl, rfl, rfl⟩
def ti129 : TI := { desc := (Go.TypeDesc.func #[25, 3, 130] #[3] false), size := 1, bytes := 8, zero := Go.Value.nilFunc }
theorem tok129 : TOk Tryz.prog 129 ti129 := ⟨Tryz.underlying129, Tryz.t129, by kernel_rfl, rfl, rfl, rfl⟩
def ti130 : TI := { desc := (Go.TypeDesc.func #[49] #[4] false), size := 1, bytes := 8, zero := Go.Value.nilFunc }
theorem tok130 : TOk Tryz.prog 130 ti130 := ⟨Tryz.underlying130, Tryz.t130, by kernel_rfl, rfl, rfl, rfl⟩
def ti131 : TI := { desc := (Go.TypeDesc.func #[31] #[3] false), size := 1, bytes := 8, zero := Go.Value.nilFunc }
theorem tok131 : TOk Tryz.prog 131 ti131 := ⟨Tryz.underlying131, Tryz.t131, by kernel_rfl, rfl, rfl, rfl⟩
def ti132 : TI := { desc := (Go.TypeDesc.func #[225] #[] false), size := 1, bytes := 8, zero := Go.Value.nilFunc }
theorem tok132 : TOk Tryz.prog 132 ti132 := ⟨Tryz.underlying132, Tryz.t132, by kernel_rfl, rfl, rfl, rfl⟩
def ti133 : TI := { desc := (Go.TypeDesc.func #[225] #[] false), size := 1, bytes := 8, zero := Go.Value.nilFunc }
theorem tok133 : TOk Tryz.prog 133 ti133 := ⟨Tryz.underlying133, Tryz.t133, by kernel_rfl, rfl, rfl, rfl⟩
def ti134 : TI := { desc := (Go.TypeDesc.func #[25, 3, 3] #[133] false), size := 1, bytes := 8, zero := Go.Value.nilFunc }
theorem tok134 : TOk Tryz.prog 134 ti134 := ⟨Tryz.underlying134, Tryz.t134, by kernel_rfl, rfl, rfl, rfl⟩
def ti135 : TI := { desc := (Go.TypeDesc.func #[27, 145] #[27, 53] false), size := 1, bytes := 8, zero := Go.Value.nilFunc }
theorem tok135 : TOk Tryz.prog 135 ti135 := ⟨Tryz.underlying135, Tryz.t135, by kernel_rfl, rfl, rfl, rfl⟩
def ti136 : TI := { desc := (Go.TypeDesc.tuple #[49, 53]), size := 1, bytes := 0, zero := (Go.Value.tuple #[Go.Value.agg #[Go.Value.slice none 0 0, Go.Value.int Go.IntKind.i64 0, Go.Value.bool false], Go.Value.int Go.IntKind.i64 0]) }
theorem tok136 : TOk Tryz.prog 136 ti136 := ⟨Tryz.underlying136, Tryz.t136, by kernel_rfl, rfl, rfl, rfl⟩
def ti137 : TI := { desc := (Go.TypeDesc.func #[3, 144] #[49, 53] false), size := 1, bytes := 8, zero := Go.Value.nilFunc }
theorem tok137 : TOk Tryz.prog 137 ti137 := ⟨Tryz.underlying137, Tryz.t137, by kernel_rfl, rfl, rfl, rfl⟩
def ti138 : TI := { desc := (Go.TypeDesc.slice 142), size := 1, bytes := 24, zero := (Go.Value.slice none 0 0) }
theorem tok138 : TOk Tryz.prog 138 ti138 := ⟨Tryz.underlying138, Tryz.t138, by kernel_rfl, rfl, rfl, rfl⟩
def ti139 : TI := { desc := (Go.TypeDesc.struct #[{ name := "l", type := 138, offset := 0, embedded := false, tag := "", pkgPath := "damier/piece", byteOffset := 0 }, { name := "n", type := 3, offset := 1, embedded := false, tag := "", pkgPath := "damier/piece", byteOffset := 24 }]), size := 2, bytes := 32, zero := (Go.Value.agg #[Go.Value.slice none 0 0, Go.Value.int Go.IntKind.i64 0]) }
theorem tok139 : TOk Tryz.prog 139 ti139 := ⟨Tryz.underlying139, Tryz.t139, by kernel_rfl, rfl, rfl, rfl⟩
def ti140 : TI := { desc := (Go.TypeDesc.struct #[{ name := "l", type := 138, offset := 0, embedded := false, tag := "", pkgPath := "damier/piece", byteOffset := 0 }, { name := "n", type := 3, offset := 1, embedded := false, tag := "", pkgPath := "damier/piece", byteOffset := 24 }]), size := 2, bytes := 32, zero := (Go.Value.agg #[Go.Value.slice none 0 0, Go.Value.int Go.IntKind.i64 0]) }
theorem tok140 : TOk Tryz.prog 140 ti140 := ⟨Tryz.underlying140, Tryz.t140, by kernel_rfl, rfl, rfl, rfl⟩
def ti141 : TI := { desc := (Go.TypeDesc.struct #[{ name := "At", type := 3, offset := 0, embedded := false, tag := "", pkgPath := "", byteOffset := 0 }, { name := "N", type := 3, offset := 1, embedded := false, tag := "", pkgPath := "", byteOffset := 8 }]), size := 2, bytes := 16, zero := (Go.Value.agg #[Go.Value.int Go.IntKind.i64 0, Go.Value.int Go.IntKind.i64 0]) }
theorem tok141 : TOk Tryz.prog 141 ti141 := ⟨Tryz.underlying141, Tryz.t141, by kernel_rfl, rfl, rfl, rfl⟩
def ti142 : TI := { desc := (Go.TypeDesc.struct #[{ name := "At", type := 3, offset := 0, embedded := false, tag := "", pkgPath := "", byteOffset := 0 }, { name := "N", type := 3, offset := 1, embedded := false, tag := "", pkgPath := "", byteOffset := 8 }]), size := 2, bytes := 16, zero := (Go.Value.agg #[Go.Value.int Go.IntKind.i64 0, Go.Value.int Go.IntKind.i64 0]) }
theorem tok142 : TOk Tryz.prog 142 ti142 := ⟨Tryz.underlying142, Tryz.t142, by kernel_rfl, rfl, rfl, rfl⟩
def ti143 : TI := { desc := (Go.TypeDesc.struct #[{ name := "Text", type := 140, offset := 0, embedded := false, tag := "", pkgPath := "", byteOffset := 0 }, { name := "Raw", type := 142, offset := 2, embedded := false, tag := "", pkgPath := "", byteOffset := 32 }, { name := "Kept", type := 4, offset := 4, embedded := false, tag := "", pkgPath := "", byteOffset := 48 }]), size := 5, bytes := 56, zero := (Go.Value.agg #[Go.Value.slice none 0 0, Go.Value.int Go.IntKind.i64 0, Go.Value.int Go.IntKind.i64 0, Go.Value.int Go.IntKind.i64 0, Go.Value.bool false]) }
theorem tok143 : TOk Tryz.prog 143 ti143 := ⟨Tryz.underlying143, Tryz.t143, by kernel_rfl, rfl, rfl, rfl⟩
def ti144 : TI := { desc := (Go.TypeDesc.struct #[{ name := "Text", type := 140, offset := 0, embedded := false, tag := "", pkgPath := "", byteOffset := 0 }, { name := "Raw", type := 142, offset := 2, embedded := false, tag := "", pkgPath := "", byteOffset := 32 }, { name := "Kept", type := 4, offset := 4, embedded := false, tag := "", pkgPath := "", byteOffset := 48 }]), size := 5, bytes := 56, zero := (Go.Value.agg #[Go.Value.slice none 0 0, Go.Value.int Go.IntKind.i64 0, Go.Value.int Go.IntKind.i64 0, Go.Value.int Go.IntKind.i64 0, Go.Value.bool false]) }
theorem tok144 : TOk Tryz.prog 144 ti144 := ⟨Tryz.underlying144, Tryz.t144, by kernel_rfl, rfl, rfl, rfl⟩
def ti145 : TI := { desc := (Go.TypeDesc.func #[49] #[49, 53] false), size := 1, bytes := 8, zero := Go.Value.nilFunc }
theorem tok145 : TOk Tryz.prog 145 ti145 := ⟨Tryz.underlying145, Tryz.t145, by kernel_rfl, rfl, rfl, rfl⟩
def ti146 : TI := { desc := (Go.TypeDesc.func #[3] #[49, 53] false), size := 1, bytes := 8, zero := Go.Value.nilFunc }
theorem tok146 : TOk Tryz.prog 146 ti146 := ⟨Tryz.underlying146, Tryz.t146, by kernel_rfl, rfl, rfl, rfl⟩
def ti147 : TI := { desc := (Go.TypeDesc.func #[28, 49, 49] #[4] false), size := 1, bytes := 8, zero := Go.Value.nilFunc }
theorem tok147 : TOk Tryz.prog 147 ti147 := ⟨Tryz.underlying147, Tryz.t147, by kernel_rfl, rfl, rfl, rfl⟩
def ti148 : TI := { desc := (Go.TypeDesc.func #[3] #[49] false), size := 1, bytes := 8, zero := Go.Value.nilFunc }
theorem tok148 : TOk Tryz.prog 148 ti148 := ⟨Tryz.underlying148, Tryz.t148, by kernel_rfl, rfl, rfl, rfl⟩
def ti149 : TI := { desc := (Go.TypeDesc.func #[3, 3] #[49, 53] false), size := 1, bytes := 8, zero := Go.Value.nilFunc }
theorem tok149 : TOk Tryz.prog 149 ti149 := ⟨Tryz.underlying149, Tryz.t149, by kernel_rfl, rfl, rfl, rfl⟩
def ti150 : TI := { desc := (Go.TypeDesc.struct #[{ name := "S", type := 9, offset := 0, embedded := false, tag := "", pkgPath := "", byteOffset := 0 }, { name := "Raw", type := 9, offset := 1, embedded := false, tag := "", pkgPath := "", byteOffset := 16 }, { name := "Kept", type := 4, offset := 2, embedded := false, tag := "", pkgPath := "", byteOffset := 32 }]), size := 3, bytes := 40, zero := (Go.Value.agg #[Go.Value.string { data := #[] }, Go.Value.string { data := #[] }, Go.Value.bool false]) }
theorem tok150 : TOk Tryz.prog 150 ti150 := ⟨Tryz.underlying150, Tryz.t150, by kernel_rfl, rfl, rfl, rfl⟩
def ti151 : TI := { desc := (Go.TypeDesc.struct #[{ name := "S", type := 9, offset := 0, embedded := false, tag := "", pkgPath := "", byteOffset := 0 }, { name := "Raw", type := 9, offset := 1, embedded := false, tag := "", pkgPath := "", byteOffset := 16 }, { name := "Kept", type := 4, offset := 2, embedded := false, tag := "", pkgPath := "", byteOffset := 32 }]), size := 3, bytes := 40, zero := (Go.Value.agg #[Go.Value.string { data := #[] }, Go.Value.string { data := #[] }, Go.Value.bool false]) }
theorem tok151 : TOk Tryz.prog 151 ti151 := ⟨Tryz.underlying151, Tryz.t151, by kernel_rfl, rfl, rfl, rfl⟩
def ti152 : TI := { desc := (Go.TypeDesc.tuple #[9, 4]), size := 1, bytes := 0, zero := (Go.Value.tuple #[Go.Value.string { data := #[] }, Go.Value.bool false]) }
theorem tok152 : TOk Tryz.prog 152 ti152 := ⟨Tryz.underlying152, Tryz.t152, by kernel_rfl, rfl, rfl, rfl⟩
def ti153 : TI := { desc := (Go.TypeDesc.func #[9, 9] #[9, 4] false), size := 1, bytes := 8, zero := Go.Value.nilFunc }
theorem tok153 : TOk Tryz.prog 153 ti153 := ⟨Tryz.underlying153, Tryz.t153, by kernel_rfl, rfl, rfl, rfl⟩
def ti154 : TI := { desc := (Go.TypeDesc.tuple #[3, 3]), size := 1, bytes := 0, zero := (Go.Value.tuple #[Go.Value.int Go.IntKind.i64 0, Go.Value.int Go.IntKind.i64 0]) }
theorem tok154 : TOk Tryz.prog 154 ti154 := ⟨Tryz.underlying154, Tryz.t154, by kernel_rfl, rfl, rfl, rfl⟩
def ti155 : TI := { desc := (Go.TypeDesc.func #[9, 3] #[3, 3] false), size := 1, bytes := 8, zero := Go.Value.nilFunc }
theorem tok155 : TOk Tryz.prog 155 ti155 := ⟨Tryz.underlying155, Tryz.t155, by kernel_rfl, rfl, rfl, rfl⟩
def ti156 : TI := { desc := (Go.TypeDesc.func #[9, 5] #[3] false), size := 1, bytes := 8, zero := Go.Value.nilFunc }
theorem tok156 : TOk Tryz.prog 156 ti156 := ⟨Tryz.underlying156, Tryz.t156, by kernel_rfl, rfl, rfl, rfl⟩
def ti157 : TI := { desc := (Go.TypeDesc.func #[9, 9] #[4] false), size := 1, bytes := 8, zero := Go.Value.nilFunc }
theorem tok157 : TOk Tryz.prog 157 ti157 := ⟨Tryz.underlying157, Tryz.t157, by kernel_rfl, rfl, rfl, rfl⟩
def ti158 : TI := { desc := (Go.TypeDesc.func #[3] #[9] false), size := 1, bytes := 8, zero := Go.Value.nilFunc }
theorem tok158 : TOk Tryz.prog 158 ti158 := ⟨Tryz.underlying158, Tryz.t158, by kernel_rfl, rfl, rfl, rfl⟩
def ti159 : TI := { desc := (Go.TypeDesc.slice 4), size := 1, bytes := 24, zero := (Go.Value.slice none 0 0) }
theorem tok159 : TOk Tryz.prog 159 ti159 := ⟨Tryz.underlying159, Tryz.t159, by kernel_rfl, rfl, rfl, rfl⟩
def ti160 : TI := { desc := (Go.TypeDesc.tuple #[159, 4]), size := 1, bytes := 0, zero := (Go.Value.tuple #[Go.Value.slice none 0 0, Go.Value.bool false]) }
theorem tok160 : TOk Tryz.prog 160 ti160 := ⟨Tryz.underlying160, Tryz.t160, by kernel_rfl, rfl, rfl, rfl⟩
def ti161 : TI := { desc := (Go.TypeDesc.func #[3, 76] #[159, 4] false), size := 1, bytes := 8, zero := Go.Value.nilFunc }
theorem tok161 : TOk Tryz.prog 161 ti161 := ⟨Tryz.underlying161, Tryz.t161, by kernel_rfl, rfl, rfl, rfl⟩
def ti162 : TI := { desc := (Go.TypeDesc.func #[159, 159] #[4] false), size := 1, bytes := 8, zero := Go.Value.nilFunc }
theorem tok162 : TOk Tryz.prog 162 ti162 := ⟨Tryz.underlying162, Tryz.t162, by kernel_rfl, rfl, rfl, rfl⟩
def ti163 : TI := { desc := (Go.TypeDesc.slice 49), size := 1, bytes := 24, zero := (Go.Value.slice none 0 0) }
theorem tok163 : TOk Tryz.prog 163 ti163 := ⟨Tryz.underlying163, Tryz.t163, by kernel_rfl, rfl, rfl, rfl⟩
def ti164 : TI := { desc := (Go.TypeDesc.func #[25] #[163] false), size := 1, bytes := 8, zero := Go.Value.nilFunc }
theorem tok164 : TOk Tryz.prog 164 ti164 := ⟨Tryz.underlying164, Tryz.t164, by kernel_rfl, rfl, rfl, rfl⟩
def ti165 : TI := { desc := (Go.TypeDesc.func #[163] #[25] true), size := 1, bytes := 8, zero := Go.Value.nilFunc }
theorem tok165 : TOk Tryz.prog 165 ti165 := ⟨Tryz.underlying165, Tryz.t165, by kernel_rfl, rfl, rfl, rfl⟩
def ti166 : TI := { desc := (Go.TypeDesc.func #[76, 3] #[3] false), size := 1, bytes := 8, zero := Go.Value.nilFunc }
theorem tok166 : TOk Tryz.prog 166 ti166 := ⟨Tryz.underlying166, Tryz.t166, by kernel_rfl, rfl, rfl, rfl⟩
def ti167 : TI := { desc := (Go.TypeDesc.func #[31, 3, 60] #[31, 53] false), size := 1, bytes := 8, zero := Go.Value.nilFunc }
theorem tok167 : TOk Tryz.prog 167 ti167 := ⟨Tryz.underlying167, Tryz.t167, by kernel_rfl, rfl, rfl, rfl⟩
def ti168 : TI := { desc := (Go.TypeDesc.tuple #[163, 76]), size := 1, bytes := 0, zero := (Go.Value.tuple #[Go.Value.slice none 0 0, Go.Value.slice none 0 0]) }
theorem tok168 : TOk Tryz.prog 168 ti168 := ⟨Tryz.underlying168, Tryz.t168, by kernel_rfl, rfl, rfl, rfl⟩
def ti169 : TI := { desc := (Go.TypeDesc.func #[27] #[163, 76] false), size := 1, bytes := 8, zero := Go.Value.nilFunc }
theorem tok169 : TOk Tryz.prog 169 ti169 := ⟨Tryz.underlying169, Tryz.t169, by kernel_rfl, rfl, rfl, rfl⟩
def ti170 : TI := { desc := (Go.TypeDesc.func #[49, 49] #[3] false), size := 1, bytes := 8, zero := Go.Value.nilFunc }
theorem tok170 : TOk Tryz.prog 170 ti170 := ⟨Tryz.underlying170, Tryz.t170, by kernel_rfl, rfl, rfl, rfl⟩
def ti171 : TI := { desc := (Go.TypeDesc.func #[28, 104] #[170] false), size := 1, bytes := 8, zero := Go.Value.nilFunc }
theorem tok171 : TOk Tryz.prog 171 ti171 := ⟨Tryz.underlying171, Tryz.t171, by kernel_rfl, rfl, rfl, rfl⟩
def ti172 : TI := { desc := (Go.TypeDesc.func #[163, 170] #[163] false), size := 1, bytes := 8, zero := Go.Value.nilFunc }
theorem tok172 : TOk Tryz.prog 172 ti172 := ⟨Tryz.underlying172, Tryz.t172, by kernel_rfl, rfl, rfl, rfl⟩
def ti173 : TI := { desc := (Go.TypeDesc.func #[163, 174] #[163] false), size := 1, bytes := 8, zero := Go.Value.nilFunc }
theorem tok173 : TOk Tryz.prog 173 ti173 := ⟨Tryz.underlying173, Tryz.t173, by kernel_rfl, rfl, rfl, rfl⟩
def ti174 : TI := { desc := (Go.TypeDesc.func #[49, 49] #[4] false), size := 1, bytes := 8, zero := Go.Value.nilFunc }
theorem tok174 : TOk Tryz.prog 174 ti174 := ⟨Tryz.underlying174, Tryz.t174, by kernel_rfl, rfl, rfl, rfl⟩
def ti175 : TI := { desc := (Go.TypeDesc.func #[9, 9] #[3] false), size := 1, bytes := 8, zero := Go.Value.nilFunc }
theorem tok175 : TOk Tryz.prog 175 ti175 := ⟨Tryz.underlying175, Tryz.t175, by kernel_rfl, rfl, rfl, rfl⟩
def ti176 : TI := { desc := (Go.TypeDesc.func #[60, 3] #[9] false), size := 1, bytes := 8, zero := Go.Value.nilFunc }
theorem tok176 : TOk Tryz.prog 176 ti176 := ⟨Tryz.underlying176, Tryz.t176, by kernel_rfl, rfl, rfl, rfl⟩
def ti177 : TI := { desc := (Go.TypeDesc.tuple #[144, 4]), size := 1, bytes := 0, zero := (Go.Value.tuple #[Go.Value.agg #[Go.Value.slice none 0 0, Go.Value.int Go.IntKind.i64 0, Go.Value.int Go.IntKind.i64 0, Go.Value.int Go.IntKind.i64 0, Go.Value.bool false], Go.Value.bool false]) }
theorem tok177 : TOk Tryz.prog 177 ti177 := ⟨Tryz.underlying177, Tryz.t177, by kernel_rfl, rfl, rfl, rfl⟩
def ti178 : TI := { desc := (Go.TypeDesc.func #[3] #[144, 4] false), size := 1, bytes := 8, zero := Go.Value.nilFunc }
theorem tok178 : TOk Tryz.prog 178 ti178 := ⟨Tryz.underlying178, Tryz.t178, by kernel_rfl, rfl, rfl, rfl⟩
def ti179 : TI := { desc := (Go.TypeDesc.func #[122, 122] #[4] false), size := 1, bytes := 8, zero := Go.Value.nilFunc }
theorem tok179 : TOk Tryz.prog 179 ti179 := ⟨Tryz.underlying179, Tryz.t179, by kernel_rfl, rfl, rfl, rfl⟩
def ti180 : TI := { desc := (Go.TypeDesc.struct #[{ name := "ask", type := 179, offset := 0, embedded := false, tag := "", pkgPath := "damier/filter", byteOffset := 0 }]), size := 1, bytes := 8, zero := (Go.Value.agg #[Go.Value.nilFunc]) }
theorem tok180 : TOk Tryz.prog 180 ti180 := ⟨Tryz.underlying180, Tryz.t180, by kernel_rfl, rfl, rfl, rfl⟩
def ti181 : TI := { desc := (Go.TypeDesc.struct #[{ name := "ask", type := 179, offset := 0, embedded := false, tag := "", pkgPath := "damier/filter", byteOffset := 0 }]), size := 1, bytes := 8, zero := (Go.Value.agg #[Go.Value.nilFunc]) }
theorem tok181 : TOk Tryz.prog 181 ti181 := ⟨Tryz.underlying181, Tryz.t181, by kernel_rfl, rfl, rfl, rfl⟩
def ti182 : TI := { desc := (Go.TypeDesc.func #[3] #[181] false), size := 1, bytes := 8, zero := Go.Value.nilFunc }
theorem tok182 : TOk Tryz.prog 182 ti182 := ⟨Tryz.underlying182, Tryz.t182, by kernel_rfl, rfl, rfl, rfl⟩
def ti183 : TI := { desc := (Go.TypeDesc.func #[88] #[4] false), size := 1, bytes := 8, zero := Go.Value.nilFunc }
theorem tok183 : TOk Tryz.prog 183 ti183 := ⟨Tryz.underlying183, Tryz.t183, by kernel_rfl, rfl, rfl, rfl⟩
def ti184 : TI := { desc := (Go.TypeDesc.func #[27, 130] #[27] false), size := 1, bytes := 8, zero := Go.Value.nilFunc }
theorem tok184 : TOk Tryz.prog 184 ti184 := ⟨Tryz.underlying184, Tryz.t184, by kernel_rfl, rfl, rfl, rfl⟩
def ti185 : TI := { desc := (Go.TypeDesc.func #[49, 28, 88] #[4] false), size := 1, bytes := 8, zero := Go.Value.nilFunc }
theorem tok185 : TOk Tryz.prog 185 ti185 := ⟨Tryz.underlying185, Tryz.t185, by kernel_rfl, rfl, rfl, rfl⟩
def ti186 : TI := { desc := (Go.TypeDesc.func #[3, 49] #[27, 53] false), size := 1, bytes := 8, zero := Go.Value.nilFunc }
theorem tok186 : TOk Tryz.prog 186 ti186 := ⟨Tryz.underlying186, Tryz.t186, by kernel_rfl, rfl, rfl, rfl⟩
def ti187 : TI := { desc := (Go.TypeDesc.func #[4] #[49] false), size := 1, bytes := 8, zero := Go.Value.nilFunc }
theorem tok187 : TOk Tryz.prog 187 ti187 := ⟨Tryz.underlying187, Tryz.t187, by kernel_rfl, rfl, rfl, rfl⟩
def ti188 : TI := { desc := (Go.TypeDesc.func #[31, 29] #[31] false), size := 1, bytes := 8, zero := Go.Value.nilFunc }
theorem tok188 : TOk Tryz.prog 188 ti188 := ⟨Tryz.underlying188, Tryz.t188, by kernel_rfl, rfl, rfl, rfl⟩
def ti189 : TI := { desc := (Go.TypeDesc.struct #[{ name := "Col", type := 3, offset := 0, embedded := false, tag := "", pkgPath := "", byteOffset := 0 }, { name := "Down", type := 4, offset := 1, embedded := false, tag := "", pkgPath := "", byteOffset := 8 }]), size := 2, bytes := 16, zero := (Go.Value.agg #[Go.Value.int Go.IntKind.i64 0, Go.Value.bool false]) }
theorem tok189 : TOk Tryz.prog 189 ti189 := ⟨Tryz.underlying189, Tryz.t189, by kernel_rfl, rfl, rfl, rfl⟩
def ti190 : TI := { desc := (Go.TypeDesc.func #[97] #[4] false), size := 1, bytes := 8, zero := Go.Value.nilFunc }
theorem tok190 : TOk Tryz.prog 190 ti190 := ⟨Tryz.underlying190, Tryz.t190, by kernel_rfl, rfl, rfl, rfl⟩
def ti191 : TI := { desc := (Go.TypeDesc.func #[104, 190] #[4] false), size := 1, bytes := 8, zero := Go.Value.nilFunc }
theorem tok191 : TOk Tryz.prog 191 ti191 := ⟨Tryz.underlying191, Tryz.t191, by kernel_rfl, rfl, rfl, rfl⟩
def ti192 : TI := { desc := (Go.TypeDesc.func #[163, 170] #[76] false), size := 1, bytes := 8, zero := Go.Value.nilFunc }
theorem tok192 : TOk Tryz.prog 192 ti192 := ⟨Tryz.underlying192, Tryz.t192, by kernel_rfl, rfl, rfl, rfl⟩
def ti193 : TI := { desc := (Go.TypeDesc.slice 163), size := 1, bytes := 24, zero := (Go.Value.slice none 0 0) }
theorem tok193 : TOk Tryz.prog 193 ti193 := ⟨Tryz.underlying193, Tryz.t193, by kernel_rfl, rfl, rfl, rfl⟩
def ti194 : TI := { desc := (Go.TypeDesc.func #[163, 170] #[193] false), size := 1, bytes := 8, zero := Go.Value.nilFunc }
theorem tok194 : TOk Tryz.prog 194 ti194 := ⟨Tryz.underlying194, Tryz.t194, by kernel_rfl, rfl, rfl, rfl⟩
def ti195 : TI := { desc := (Go.TypeDesc.tuple #[28, 53]), size := 1, bytes := 0, zero := (Go.Value.tuple #[Go.Value.pointer none, Go.Value.int Go.IntKind.i64 0]) }
theorem tok195 : TOk Tryz.prog 195 ti195 := ⟨Tryz.underlying195, Tryz.t195, by kernel_rfl, rfl, rfl, rfl⟩
def ti196 : TI := { desc := (Go.TypeDesc.func #[122] #[28, 53] false), size := 1, bytes := 8, zero := Go.Value.nilFunc }
theorem tok196 : TOk Tryz.prog 196 ti196 := ⟨Tryz.underlying196, Tryz.t196, by kernel_rfl, rfl, rfl, rfl⟩
def ti197 : TI := { desc := (Go.TypeDesc.func #[53] #[27, 28, 53] false), size := 1, bytes := 8, zero := Go.Value.nilFunc }
theorem tok197 : TOk Tryz.prog 197 ti197 := ⟨Tryz.underlying197, Tryz.t197, by kernel_rfl, rfl, rfl, rfl⟩
def ti198 : TI := { desc := (Go.TypeDesc.slice 202), size := 1, bytes := 24, zero := (Go.Value.slice none 0 0) }
theorem tok198 : TOk Tryz.prog 198 ti198 := ⟨Tryz.underlying198, Tryz.t198, by kernel_rfl, rfl, rfl, rfl⟩
def ti199 : TI := { desc := (Go.TypeDesc.func #[122] #[198] false), size := 1, bytes := 8, zero := Go.Value.nilFunc }
theorem tok199 : TOk Tryz.prog 199 ti199 := ⟨Tryz.underlying199, Tryz.t199, by kernel_rfl, rfl, rfl, rfl⟩
def ti200 : TI := { desc := (Go.TypeDesc.slice 270), size := 1, bytes := 24, zero := (Go.Value.slice none 0 0) }
theorem tok200 : TOk Tryz.prog 200 ti200 := ⟨Tryz.underlying200, Tryz.t200, by kernel_rfl, rfl, rfl, rfl⟩
def ti201 : TI := { desc := (Go.TypeDesc.struct #[{ name := "Fields", type := 200, offset := 0, embedded := false, tag := "", pkgPath := "", byteOffset := 0 }, { name := "End", type := 3, offset := 1, embedded := false, tag := "", pkgPath := "", byteOffset := 24 }]), size := 2, bytes := 32, zero := (Go.Value.agg #[Go.Value.slice none 0 0, Go.Value.int Go.IntKind.i64 0]) }
theorem tok201 : TOk Tryz.prog 201 ti201 := ⟨Tryz.underlying201, Tryz.t201, by kernel_rfl, rfl, rfl, rfl⟩
def ti202 : TI := { desc := (Go.TypeDesc.struct #[{ name := "Fields", type := 200, offset := 0, embedded := false, tag := "", pkgPath := "", byteOffset := 0 }, { name := "End", type := 3, offset := 1, embedded := false, tag := "", pkgPath := "", byteOffset := 24 }]), size := 2, bytes := 32, zero := (Go.Value.agg #[Go.Value.slice none 0 0, Go.Value.int Go.IntKind.i64 0]) }
theorem tok202 : TOk Tryz.prog 202 ti202 := ⟨Tryz.underlying202, Tryz.t202, by kernel_rfl, rfl, rfl, rfl⟩
def ti203 : TI := { desc := (Go.TypeDesc.func #[202] #[49, 53] false), size := 1, bytes := 8, zero := Go.Value.nilFunc }
theorem tok203 : TOk Tryz.prog 203 ti203 := ⟨Tryz.underlying203, Tryz.t203, by kernel_rfl, rfl, rfl, rfl⟩
def ti204 : TI := { desc := (Go.TypeDesc.tuple #[4, 3]), size := 1, bytes := 0, zero := (Go.Value.tuple #[Go.Value.bool false, Go.Value.int Go.IntKind.i64 0]) }
theorem tok204 : TOk Tryz.prog 204 ti204 := ⟨Tryz.underlying204, Tryz.t204, by kernel_rfl, rfl, rfl, rfl⟩
def ti205 : TI := { desc := (Go.TypeDesc.func #[198] #[4, 3] false), size := 1, bytes := 8, zero := Go.Value.nilFunc }
theorem tok205 : TOk Tryz.prog 205 ti205 := ⟨Tryz.underlying205, Tryz.t205, by kernel_rfl, rfl, rfl, rfl⟩
def ti206 : TI := { desc := (Go.TypeDesc.slice 210), size := 1, bytes := 24, zero := (Go.Value.slice none 0 0) }
theorem tok206 : TOk Tryz.prog 206 ti206 := ⟨Tryz.underlying206, Tryz.t206, by kernel_rfl, rfl, rfl, rfl⟩
def ti207 : TI := { desc := (Go.TypeDesc.func #[9] #[206] false), size := 1, bytes := 8, zero := Go.Value.nilFunc }
theorem tok207 : TOk Tryz.prog 207 ti207 := ⟨Tryz.underlying207, Tryz.t207, by kernel_rfl, rfl, rfl, rfl⟩
def ti208 : TI := { desc := (Go.TypeDesc.slice 276), size := 1, bytes := 24, zero := (Go.Value.slice none 0 0) }
theorem tok208 : TOk Tryz.prog 208 ti208 := ⟨Tryz.underlying208, Tryz.t208, by kernel_rfl, rfl, rfl, rfl⟩
def ti209 : TI := { desc := (Go.TypeDesc.struct #[{ name := "Fields", type := 208, offset := 0, embedded := false, tag := "", pkgPath := "", byteOffset := 0 }, { name := "End", type := 3, offset := 1, embedded := false, tag := "", pkgPath := "", byteOffset := 24 }]), size := 2, bytes := 32, zero := (Go.Value.agg #[Go.Value.slice none 0 0, Go.Value.int Go.IntKind.i64 0]) }
theorem tok209 : TOk Tryz.prog 209 ti209 := ⟨Tryz.underlying209, Tryz.t209, by kernel_rfl, rfl, rfl, rfl⟩
def ti210 : TI := { desc := (Go.TypeDesc.struct #[{ name := "Fields", type := 208, offset := 0, embedded := false, tag := "", pkgPath := "", byteOffset := 0 }, { name := "End", type := 3, offset := 1, embedded := false, tag := "", pkgPath := "", byteOffset := 24 }]), size := 2, bytes := 32, zero := (Go.Value.agg #[Go.Value.slice none 0 0, Go.Value.int Go.IntKind.i64 0]) }
theorem tok210 : TOk Tryz.prog 210 ti210 := ⟨Tryz.underlying210, Tryz.t210, by kernel_rfl, rfl, rfl, rfl⟩
def ti211 : TI := { desc := (Go.TypeDesc.tuple #[60, 53]), size := 1, bytes := 0, zero := (Go.Value.tuple #[Go.Value.agg #[Go.Value.slice none 0 0, Go.Value.int Go.IntKind.i64 0, Go.Value.bool false], Go.Value.int Go.IntKind.i64 0]) }
theorem tok211 : TOk Tryz.prog 211 ti211 := ⟨Tryz.underlying211, Tryz.t211, by kernel_rfl, rfl, rfl, rfl⟩
def ti212 : TI := { desc := (Go.TypeDesc.func #[9, 210] #[60, 53] false), size := 1, bytes := 8, zero := Go.Value.nilFunc }
theorem tok212 : TOk Tryz.prog 212 ti212 := ⟨Tryz.underlying212, Tryz.t212, by kernel_rfl, rfl, rfl, rfl⟩
def ti213 : TI := { desc := (Go.TypeDesc.func #[49] #[9] false), size := 1, bytes := 8, zero := Go.Value.nilFunc }
theorem tok213 : TOk Tryz.prog 213 ti213 := ⟨Tryz.underlying213, Tryz.t213, by kernel_rfl, rfl, rfl, rfl⟩
def ti214 : TI := { desc := (Go.TypeDesc.func #[25, 215] #[25] false), size := 1, bytes := 8, zero := Go.Value.nilFunc }
theorem tok214 : TOk Tryz.prog 214 ti214 := ⟨Tryz.underlying214, Tryz.t214, by kernel_rfl, rfl, rfl, rfl⟩
def ti215 : TI := { desc := (Go.TypeDesc.func #[3, 49] #[49] false), size := 1, bytes := 8, zero := Go.Value.nilFunc }
theorem tok215 : TOk Tryz.prog 215 ti215 := ⟨Tryz.underlying215, Tryz.t215, by kernel_rfl, rfl, rfl, rfl⟩
def ti216 : TI := { desc := (Go.TypeDesc.func #[60, 3, 151] #[60, 53] false), size := 1, bytes := 8, zero := Go.Value.nilFunc }
theorem tok216 : TOk Tryz.prog 216 ti216 := ⟨Tryz.underlying216, Tryz.t216, by kernel_rfl, rfl, rfl, rfl⟩
def ti217 : TI := { desc := (Go.TypeDesc.func #[60, 3] #[60, 53] false), size := 1, bytes := 8, zero := Go.Value.nilFunc }
theorem tok217 : TOk Tryz.prog 217 ti217 := ⟨Tryz.underlying217, Tryz.t217, by kernel_rfl, rfl, rfl, rfl⟩
def ti218 : TI := { desc := (Go.TypeDesc.func #[60, 3, 3] #[60, 53] false), size := 1, bytes := 8, zero := Go.Value.nilFunc }
theorem tok218 : TOk Tryz.prog 218 ti218 := ⟨Tryz.underlying218, Tryz.t218, by kernel_rfl, rfl, rfl, rfl⟩
def ti219 : TI := { desc := (Go.TypeDesc.func #[60, 3] #[60] false), size := 1, bytes := 8, zero := Go.Value.nilFunc }
theorem tok219 : TOk Tryz.prog 219 ti219 := ⟨Tryz.underlying219, Tryz.t219, by kernel_rfl, rfl, rfl, rfl⟩
def ti220 : TI := { desc := (Go.TypeDesc.func #[28, 144] #[151] false), size := 1, bytes := 8, zero := Go.Value.nilFunc }
theorem tok220 : TOk Tryz.prog 220 ti220 := ⟨Tryz.underlying220, Tryz.t220, by kernel_rfl, rfl, rfl, rfl⟩
def ti221 : TI := { desc := (Go.TypeDesc.slice 23), size := 1, bytes := 24, zero := (Go.Value.slice none 0 0) }
theorem tok221 : TOk Tryz.prog 221 ti221 := ⟨Tryz.underlying221, Tryz.t221, by kernel_rfl, rfl, rfl, rfl⟩
def ti222 : TI := { desc := (Go.TypeDesc.struct #[{ name := "Kids", type := 221, offset := 0, embedded := false, tag := "", pkgPath := "", byteOffset := 0 }, { name := "Items", type := 163, offset := 1, embedded := false, tag := "", pkgPath := "", byteOffset := 24 }, { name := "N", type := 3, offset := 2, embedded := false, tag := "", pkgPath := "", byteOffset := 48 }]), size := 3, bytes := 56, zero := (Go.Value.agg #[Go.Value.slice none 0 0, Go.Value.slice none 0 0, Go.Value.int Go.IntKind.i64 0]) }
theorem tok222 : TOk Tryz.prog 222 ti222 := ⟨Tryz.underlying222, Tryz.t222, by kernel_rfl, rfl, rfl, rfl⟩
def ti223 : TI := { desc := (Go.TypeDesc.struct #[{ name := "Kids", type := 221, offset := 0, embedded := false, tag := "", pkgPath := "", byteOffset := 0 }, { name := "Items", type := 163, offset := 1, embedded := false, tag := "", pkgPath := "", byteOffset := 24 }, { name := "N", type := 3, offset := 2, embedded := false, tag := "", pkgPath := "", byteOffset := 48 }]), size := 3, bytes := 56, zero := (Go.Value.agg #[Go.Value.slice none 0 0, Go.Value.slice none 0 0, Go.Value.int Go.IntKind.i64 0]) }
theorem tok223 : TOk Tryz.prog 223 ti223 := ⟨Tryz.underlying223, Tryz.t223, by kernel_rfl, rfl, rfl, rfl⟩
def ti224 : TI := { desc := (Go.TypeDesc.func #[25, 3, 3] #[3, 3] false), size := 1, bytes := 8, zero := Go.Value.nilFunc }
theorem tok224 : TOk Tryz.prog 224 ti224 := ⟨Tryz.underlying224, Tryz.t224, by kernel_rfl, rfl, rfl, rfl⟩
def ti225 : TI := { desc := (Go.TypeDesc.func #[3, 49] #[4] false), size := 1, bytes := 8, zero := Go.Value.nilFunc }
theorem tok225 : TOk Tryz.prog 225 ti225 := ⟨Tryz.underlying225, Tryz.t225, by kernel_rfl, rfl, rfl, rfl⟩
def ti226 : TI := { desc := (Go.TypeDesc.slice 234), size := 1, bytes := 24, zero := (Go.Value.slice none 0 0) }
theorem tok226 : TOk Tryz.prog 226 ti226 := ⟨Tryz.underlying226, Tryz.t226, by kernel_rfl, rfl, rfl, rfl⟩
def ti227 : TI := { desc := (Go.TypeDesc.struct #[{ name := "l", type := 226, offset := 0, embedded := false, tag := "", pkgPath := "damier/walk", byteOffset := 0 }]), size := 1, bytes := 24, zero := (Go.Value.agg #[Go.Value.slice none 0 0]) }
theorem tok227 : TOk Tryz.prog 227 ti227 := ⟨Tryz.underlying227, Tryz.t227, by kernel_rfl, rfl, rfl, rfl⟩
def ti228 : TI := { desc := (Go.TypeDesc.struct #[{ name := "l", type := 226, offset := 0, embedded := false, tag := "", pkgPath := "damier/walk", byteOffset := 0 }]), size := 1, bytes := 24, zero := (Go.Value.agg #[Go.Value.slice none 0 0]) }
theorem tok228 : TOk Tryz.prog 228 ti228 := ⟨Tryz.underlying228, Tryz.t228, by kernel_rfl, rfl, rfl, rfl⟩
def ti229 : TI := { desc := (Go.TypeDesc.func #[23, 3, 3] #[] false), size := 1, bytes := 8, zero := Go.Value.nilFunc }
theorem tok229 : TOk Tryz.prog 229 ti229 := ⟨Tryz.underlying229, Tryz.t229, by kernel_rfl, rfl, rfl, rfl⟩
def ti230 : TI := { desc := (Go.TypeDesc.func #[] #[23] false), size := 1, bytes := 8, zero := Go.Value.nilFunc }
theorem tok230 : TOk Tryz.prog 230 ti230 := ⟨Tryz.underlying230, Tryz.t230, by kernel_rfl, rfl, rfl, rfl⟩
def ti231 : TI := { desc := (Go.TypeDesc.pointer 234), size := 1, bytes := 8, zero := (Go.Value.pointer none) }
theorem tok231 : TOk Tryz.prog 231 ti231 := ⟨Tryz.underlying231, Tryz.t231, by kernel_rfl, rfl, rfl, rfl⟩
def ti232 : TI := { desc := (Go.TypeDesc.func #[] #[231] false), size := 1, bytes := 8, zero := Go.Value.nilFunc }
theorem tok232 : TOk Tryz.prog 232 ti232 := ⟨Tryz.underlying232, Tryz.t232, by kernel_rfl, rfl, rfl, rfl⟩
def ti233 : TI := { desc := (Go.TypeDesc.struct #[{ name := "n", type := 23, offset := 0, embedded := false, tag := "", pkgPath := "damier/walk", byteOffset := 0 }, { name := "first", type := 3, offset := 1, embedded := false, tag := "", pkgPath := "damier/walk", byteOffset := 8 }, { name := "next", type := 3, offset := 2, embedded := false, tag := "", pkgPath := "damier/walk", byteOffset := 16 }]), size := 3, bytes := 24, zero := (Go.Value.agg #[Go.Value.pointer none, Go.Value.int Go.IntKind.i64 0, Go.Value.int Go.IntKind.i64 0]) }
theorem tok233 : TOk Tryz.prog 233 ti233 := ⟨Tryz.underlying233, Tryz.t233, by kernel_rfl, rfl, rfl, rfl⟩
def ti234 : TI := { desc := (Go.TypeDesc.struct #[{ name := "n", type := 23, offset := 0, embedded := false, tag := "", pkgPath := "damier/walk", byteOffset := 0 }, { name := "first", type := 3, offset := 1, embedded := false, tag := "", pkgPath := "damier/walk", byteOffset := 8 }, { name := "next", type := 3, offset := 2, embedded := false, tag := "", pkgPath := "damier/walk", byteOffset := 16 }]), size := 3, bytes := 24, zero := (Go.Value.agg #[Go.Value.pointer none, Go.Value.int Go.IntKind.i64 0, Go.Value.int Go.IntKind.i64 0]) }
theorem tok234 : TOk Tryz.prog 234 ti234 := ⟨Tryz.underlying234, Tryz.t234, by kernel_rfl, rfl, rfl, rfl⟩
def ti235 : TI := { desc := (Go.TypeDesc.func #[3] #[4] false), size := 1, bytes := 8, zero := Go.Value.nilFunc }
theorem tok235 : TOk Tryz.prog 235 ti235 := ⟨Tryz.underlying235, Tryz.t235, by kernel_rfl, rfl, rfl, rfl⟩
def ti236 : TI := { desc := (Go.TypeDesc.func #[3] #[3, 3] false), size := 1, bytes := 8, zero := Go.Value.nilFunc }
theorem tok236 : TOk Tryz.prog 236 ti236 := ⟨Tryz.underlying236, Tryz.t236, by kernel_rfl, rfl, rfl, rfl⟩
def ti237 : TI := { desc := (Go.TypeDesc.func #[47] #[49] false), size := 1, bytes := 8, zero := Go.Value.nilFunc }
theorem tok237 : TOk Tryz.prog 237 ti237 := ⟨Tryz.underlying237, Tryz.t237, by kernel_rfl, rfl, rfl, rfl⟩
def ti238 : TI := { desc := (Go.TypeDesc.func #[3] #[47] false), size := 1, bytes := 8, zero := Go.Value.nilFunc }
theorem tok238 : TOk Tryz.prog 238 ti238 := ⟨Tryz.underlying238, Tryz.t238, by kernel_rfl, rfl, rfl, rfl⟩
def ti239 : TI := { desc := (Go.TypeDesc.func #[281] #[47] true), size := 1, bytes := 8, zero := Go.Value.nilFunc }
theorem tok239 : TOk Tryz.prog 239 ti239 := ⟨Tryz.underlying239, Tryz.t239, by kernel_rfl, rfl, rfl, rfl⟩
def ti240 : TI := { desc := (Go.TypeDesc.func #[47, 47, 242] #[4] false), size := 1, bytes := 8, zero := Go.Value.nilFunc }
theorem tok240 : TOk Tryz.prog 240 ti240 := ⟨Tryz.underlying240, Tryz.t240, by kernel_rfl, rfl, rfl, rfl⟩
def ti241 : TI := { desc := (Go.TypeDesc.func #[28, 144, 144] #[4] false), size := 1, bytes := 8, zero := Go.Value.nilFunc }
theorem tok241 : TOk Tryz.prog 241 ti241 := ⟨Tryz.underlying241, Tryz.t241, by kernel_rfl, rfl, rfl, rfl⟩
def ti242 : TI := { desc := (Go.TypeDesc.func #[144, 144] #[4] false), size := 1, bytes := 8, zero := Go.Value.nilFunc }
theorem tok242 : TOk Tryz.prog 242 ti242 := ⟨Tryz.underlying242, Tryz.t242, by kernel_rfl, rfl, rfl, rfl⟩
def ti243 : TI := { desc := (Go.TypeDesc.func #[47] #[47] false), size := 1, bytes := 8, zero := Go.Value.nilFunc }
theorem tok243 : TOk Tryz.prog 243 ti243 := ⟨Tryz.underlying243, Tryz.t243, by kernel_rfl, rfl, rfl, rfl⟩
def ti244 : TI := { desc := (Go.TypeDesc.tuple #[93, 4]), size := 1, bytes := 0, zero := (Go.Value.tuple #[Go.Value.int Go.IntKind.u64 0, Go.Value.bool false]) }
theorem tok244 : TOk Tryz.prog 244 ti244 := ⟨Tryz.underlying244, Tryz.t244, by kernel_rfl, rfl, rfl, rfl⟩
def ti245 : TI := { desc := (Go.TypeDesc.func #[5] #[93, 4] false), size := 1, bytes := 8, zero := Go.Value.nilFunc }
theorem tok245 : TOk Tryz.prog 245 ti245 := ⟨Tryz.underlying245, Tryz.t245, by kernel_rfl, rfl, rfl, rfl⟩
def ti246 : TI := { desc := (Go.TypeDesc.array 20 5), size := 20, bytes := 20, zero := (Go.Value.agg #[Go.Value.int Go.IntKind.u8 0, Go.Value.int Go.IntKind.u8 0, Go.Value.int Go.IntKind.u8 0, Go.Value.int Go.IntKind.u8 0, Go.Value.int Go.IntKind.u8 0, Go.Value.int Go.IntKind.u8 0, Go.Value.int Go.IntKind.u8 0, Go.Value.int Go.IntKind.u8 0, Go.Value.int Go.IntKind.u8 0, Go.Value.int Go.IntKind.u8 0, Go.Value.int Go.IntKind.u8 0, Go.Value.int Go.IntKind.u8 0, Go.Value.int Go.IntKind.u8 0, Go.Value.int Go.IntKind.u8 0, Go.Value.int Go.IntKind.u8 0, Go.Value.int Go.IntKind.u8 0, Go.Value.int Go.IntKind.u8 0, Go.Value.int Go.IntKind.u8 0, Go.Value.int Go.IntKind.u8 0, Go.Value.int Go.IntKind.u8 0]) }
theorem tok246 : TOk Tryz.prog 246 ti246 := ⟨Tryz.underlying246, Tryz.t246, by kernel_rfl, rfl, rfl, rfl⟩
def ti247 : TI := { desc := (Go.TypeDesc.func #[221] #[25] true), size := 1, bytes := 8, zero := Go.Value.nilFunc }
theorem tok247 : TOk Tryz.prog 247 ti247 := ⟨Tryz.underlying247, Tryz.t247, by kernel_rfl, rfl, rfl, rfl⟩
def ti248 : TI := { desc := (Go.TypeDesc.func #[163] #[221] false), size := 1, bytes := 8, zero := Go.Value.nilFunc }
theorem tok248 : TOk Tryz.prog 248 ti248 := ⟨Tryz.underlying248, Tryz.t248, by kernel_rfl, rfl, rfl, rfl⟩
def ti249 : TI := { desc := (Go.TypeDesc.func #[122, 122] #[3] false), size := 1, bytes := 8, zero := Go.Value.nilFunc }
theorem tok249 : TOk Tryz.prog 249 ti249 := ⟨Tryz.underlying249, Tryz.t249, by kernel_rfl, rfl, rfl, rfl⟩
def ti250 : TI := { desc := (Go.TypeDesc.func #[49, 28, 3] #[122] false), size := 1, bytes := 8, zero := Go.Value.nilFunc }
theorem tok250 : TOk Tryz.prog 250 ti250 := ⟨Tryz.underlying250, Tryz.t250, by kernel_rfl, rfl, rfl, rfl⟩
def ti251 : TI := { desc := (Go.TypeDesc.func #[170, 193] #[163] true), size := 1, bytes := 8, zero := Go.Value.nilFunc }
theorem tok251 : TOk Tryz.prog 251 ti251 := ⟨Tryz.underlying251, Tryz.t251, by kernel_rfl, rfl, rfl, rfl⟩
def ti252 : TI := { desc := (Go.TypeDesc.tuple #[3, 4]), size := 1, bytes := 0, zero := (Go.Value.tuple #[Go.Value.int Go.IntKind.i64 0, Go.Value.bool false]) }
theorem tok252 : TOk Tryz.prog 252 ti252 := ⟨Tryz.underlying252, Tryz.t252, by kernel_rfl, rfl, rfl, rfl⟩
def ti253 : TI := { desc := (Go.TypeDesc.func #[9] #[3, 4] false), size := 1, bytes := 8, zero := Go.Value.nilFunc }
theorem tok253 : TOk Tryz.prog 253 ti253 := ⟨Tryz.underlying253, Tryz.t253, by kernel_rfl, rfl, rfl, rfl⟩
def ti254 : TI := { desc := (Go.TypeDesc.func #[122, 122, 3] #[3] false), size := 1, bytes := 8, zero := Go.Value.nilFunc }
theorem tok254 : TOk Tryz.prog 254 ti254 := ⟨Tryz.underlying254, Tryz.t254, by kernel_rfl, rfl, rfl, rfl⟩
def ti255 : TI := { desc := (Go.TypeDesc.func #[9, 9] #[76] false), size := 1, bytes := 8, zero := Go.Value.nilFunc }
theorem tok255 : TOk Tryz.prog 255 ti255 := ⟨Tryz.underlying255, Tryz.t255, by kernel_rfl, rfl, rfl, rfl⟩
def ti256 : TI := { desc := (Go.TypeDesc.func #[25, 4] #[27, 53] false), size := 1, bytes := 8, zero := Go.Value.nilFunc }
theorem tok256 : TOk Tryz.prog 256 ti256 := ⟨Tryz.underlying256, Tryz.t256, by kernel_rfl, rfl, rfl, rfl⟩
def ti257 : TI := { desc := (Go.TypeDesc.tuple #[25, 4]), size := 1, bytes := 0, zero := (Go.Value.tuple #[Go.Value.agg #[Go.Value.pointer none], Go.Value.bool false]) }
theorem tok257 : TOk Tryz.prog 257 ti257 := ⟨Tryz.underlying257, Tryz.t257, by kernel_rfl, rfl, rfl, rfl⟩
def ti258 : TI := { desc := (Go.TypeDesc.func #[3, 49] #[25, 4] false), size := 1, bytes := 8, zero := Go.Value.nilFunc }
theorem tok258 : TOk Tryz.prog 258 ti258 := ⟨Tryz.underlying258, Tryz.t258, by kernel_rfl, rfl, rfl, rfl⟩
def ti259 : TI := { desc := (Go.TypeDesc.func #[104, 190] #[3] false), size := 1, bytes := 8, zero := Go.Value.nilFunc }
theorem tok259 : TOk Tryz.prog 259 ti259 := ⟨Tryz.underlying259, Tryz.t259, by kernel_rfl, rfl, rfl, rfl⟩
def ti260 : TI := { desc := (Go.TypeDesc.func #[76, 261] #[76] false), size := 1, bytes := 8, zero := Go.Value.nilFunc }
theorem tok260 : TOk Tryz.prog 260 ti260 := ⟨Tryz.underlying260, Tryz.t260, by kernel_rfl, rfl, rfl, rfl⟩
def ti261 : TI := { desc := (Go.TypeDesc.func #[3, 3] #[3] false), size := 1, bytes := 8, zero := Go.Value.nilFunc }
theorem tok261 : TOk Tryz.prog 261 ti261 := ⟨Tryz.underlying261, Tryz.t261, by kernel_rfl, rfl, rfl, rfl⟩
def ti262 : TI := { desc := (Go.TypeDesc.func #[163] #[163] false), size := 1, bytes := 8, zero := Go.Value.nilFunc }
theorem tok262 : TOk Tryz.prog 262 ti262 := ⟨Tryz.underlying262, Tryz.t262, by kernel_rfl, rfl, rfl, rfl⟩
def ti263 : TI := { desc := (Go.TypeDesc.struct #[{ name := "b", type := 122, offset := 0, embedded := false, tag := "", pkgPath := "damier/arena", byteOffset := 0 }]), size := 1, bytes := 24, zero := (Go.Value.agg #[Go.Value.slice none 0 0]) }
theorem tok263 : TOk Tryz.prog 263 ti263 := ⟨Tryz.underlying263, Tryz.t263, by kernel_rfl, rfl, rfl, rfl⟩
def ti264 : TI := { desc := (Go.TypeDesc.struct #[{ name := "b", type := 122, offset := 0, embedded := false, tag := "", pkgPath := "damier/arena", byteOffset := 0 }]), size := 1, bytes := 24, zero := (Go.Value.agg #[Go.Value.slice none 0 0]) }
theorem tok264 : TOk Tryz.prog 264 ti264 := ⟨Tryz.underlying264, Tryz.t264, by kernel_rfl, rfl, rfl, rfl⟩
def ti265 : TI := { desc := (Go.TypeDesc.pointer 267), size := 1, bytes := 8, zero := (Go.Value.pointer none) }
theorem tok265 : TOk Tryz.prog 265 ti265 := ⟨Tryz.underlying265, Tryz.t265, by kernel_rfl, rfl, rfl, rfl⟩
def ti266 : TI := { desc := (Go.TypeDesc.struct #[{ name := "b", type := 122, offset := 0, embedded := false, tag := "", pkgPath := "damier/scan", byteOffset := 0 }, { name := "at", type := 3, offset := 1, embedded := false, tag := "", pkgPath := "damier/scan", byteOffset := 24 }]), size := 2, bytes := 32, zero := (Go.Value.agg #[Go.Value.slice none 0 0, Go.Value.int Go.IntKind.i64 0]) }
theorem tok266 : TOk Tryz.prog 266 ti266 := ⟨Tryz.underlying266, Tryz.t266, by kernel_rfl, rfl, rfl, rfl⟩
def ti267 : TI := { desc := (Go.TypeDesc.struct #[{ name := "b", type := 122, offset := 0, embedded := false, tag := "", pkgPath := "damier/scan", byteOffset := 0 }, { name := "at", type := 3, offset := 1, embedded := false, tag := "", pkgPath := "damier/scan", byteOffset := 24 }]), size := 2, bytes := 32, zero := (Go.Value.agg #[Go.Value.slice none 0 0, Go.Value.int Go.IntKind.i64 0]) }
theorem tok267 : TOk Tryz.prog 267 ti267 := ⟨Tryz.underlying267, Tryz.t267, by kernel_rfl, rfl, rfl, rfl⟩
def ti268 : TI := { desc := (Go.TypeDesc.func #[] #[202] false), size := 1, bytes := 8, zero := Go.Value.nilFunc }
theorem tok268 : TOk Tryz.prog 268 ti268 := ⟨Tryz.underlying268, Tryz.t268, by kernel_rfl, rfl, rfl, rfl⟩
def ti269 : TI := { desc := (Go.TypeDesc.struct #[{ name := "Raw", type := 142, offset := 0, embedded := false, tag := "", pkgPath := "", byteOffset := 0 }, { name := "Kind", type := 3, offset := 2, embedded := false, tag := "", pkgPath := "", byteOffset := 16 }, { name := "Parts", type := 138, offset := 3, embedded := false, tag := "", pkgPath := "", byteOffset := 24 }]), size := 4, bytes := 48, zero := (Go.Value.agg #[Go.Value.int Go.IntKind.i64 0, Go.Value.int Go.IntKind.i64 0, Go.Value.int Go.IntKind.i64 0, Go.Value.slice none 0 0]) }
theorem tok269 : TOk Tryz.prog 269 ti269 := ⟨Tryz.underlying269, Tryz.t269, by kernel_rfl, rfl, rfl, rfl⟩
def ti270 : TI := { desc := (Go.TypeDesc.struct #[{ name := "Raw", type := 142, offset := 0, embedded := false, tag := "", pkgPath := "", byteOffset := 0 }, { name := "Kind", type := 3, offset := 2, embedded := false, tag := "", pkgPath := "", byteOffset := 16 }, { name := "Parts", type := 138, offset := 3, embedded := false, tag := "", pkgPath := "", byteOffset := 24 }]), size := 4, bytes := 48, zero := (Go.Value.agg #[Go.Value.int Go.IntKind.i64 0, Go.Value.int Go.IntKind.i64 0, Go.Value.int Go.IntKind.i64 0, Go.Value.slice none 0 0]) }
theorem tok270 : TOk Tryz.prog 270 ti270 := ⟨Tryz.underlying270, Tryz.t270, by kernel_rfl, rfl, rfl, rfl⟩
def ti271 : TI := { desc := (Go.TypeDesc.func #[270] #[144] false), size := 1, bytes := 8, zero := Go.Value.nilFunc }
theorem tok271 : TOk Tryz.prog 271 ti271 := ⟨Tryz.underlying271, Tryz.t271, by kernel_rfl, rfl, rfl, rfl⟩
def ti272 : TI := { desc := (Go.TypeDesc.tuple #[210, 3]), size := 1, bytes := 0, zero := (Go.Value.tuple #[Go.Value.agg #[Go.Value.slice none 0 0, Go.Value.int Go.IntKind.i64 0], Go.Value.int Go.IntKind.i64 0]) }
theorem tok272 : TOk Tryz.prog 272 ti272 := ⟨Tryz.underlying272, Tryz.t272, by kernel_rfl, rfl, rfl, rfl⟩
def ti273 : TI := { desc := (Go.TypeDesc.func #[9, 3] #[210, 3] false), size := 1, bytes := 8, zero := Go.Value.nilFunc }
theorem tok273 : TOk Tryz.prog 273 ti273 := ⟨Tryz.underlying273, Tryz.t273, by kernel_rfl, rfl, rfl, rfl⟩
def ti274 : TI := { desc := (Go.TypeDesc.struct #[{ name := "At", type := 3, offset := 0, embedded := false, tag := "", pkgPath := "", byteOffset := 0 }, { name := "N", type := 3, offset := 1, embedded := false, tag := "", pkgPath := "", byteOffset := 8 }]), size := 2, bytes := 16, zero := (Go.Value.agg #[Go.Value.int Go.IntKind.i64 0, Go.Value.int Go.IntKind.i64 0]) }
theorem tok274 : TOk Tryz.prog 274 ti274 := ⟨Tryz.underlying274, Tryz.t274, by kernel_rfl, rfl, rfl, rfl⟩
def ti275 : TI := { desc := (Go.TypeDesc.struct #[{ name := "Raw", type := 274, offset := 0, embedded := false, tag := "", pkgPath := "", byteOffset := 0 }, { name := "Kind", type := 3, offset := 2, embedded := false, tag := "", pkgPath := "", byteOffset := 16 }, { name := "Bytes", type := 76, offset := 3, embedded := false, tag := "", pkgPath := "", byteOffset := 24 }]), size := 4, bytes := 48, zero := (Go.Value.agg #[Go.Value.int Go.IntKind.i64 0, Go.Value.int Go.IntKind.i64 0, Go.Value.int Go.IntKind.i64 0, Go.Value.slice none 0 0]) }
theorem tok275 : TOk Tryz.prog 275 ti275 := ⟨Tryz.underlying275, Tryz.t275, by kernel_rfl, rfl, rfl, rfl⟩
def ti276 : TI := { desc := (Go.TypeDesc.struct #[{ name := "Raw", type := 274, offset := 0, embedded := false, tag := "", pkgPath := "", byteOffset := 0 }, { name := "Kind", type := 3, offset := 2, embedded := false, tag := "", pkgPath := "", byteOffset := 16 }, { name := "Bytes", type := 76, offset := 3, embedded := false, tag := "", pkgPath := "", byteOffset := 24 }]), size := 4, bytes := 48, zero := (Go.Value.agg #[Go.Value.int Go.IntKind.i64 0, Go.Value.int Go.IntKind.i64 0, Go.Value.int Go.IntKind.i64 0, Go.Value.slice none 0 0]) }
theorem tok276 : TOk Tryz.prog 276 ti276 := ⟨Tryz.underlying276, Tryz.t276, by kernel_rfl, rfl, rfl, rfl⟩
def ti277 : TI := { desc := (Go.TypeDesc.func #[9, 76] #[9] false), size := 1, bytes := 8, zero := Go.Value.nilFunc }
theorem tok277 : TOk Tryz.prog 277 ti277 := ⟨Tryz.underlying277, Tryz.t277, by kernel_rfl, rfl, rfl, rfl⟩
def ti278 : TI := { desc := (Go.TypeDesc.func #[58, 3] #[58] false), size := 1, bytes := 8, zero := Go.Value.nilFunc }
theorem tok278 : TOk Tryz.prog 278 ti278 := ⟨Tryz.underlying278, Tryz.t278, by kernel_rfl, rfl, rfl, rfl⟩
def ti279 : TI := { desc := (Go.TypeDesc.func #[142] #[122] false), size := 1, bytes := 8, zero := Go.Value.nilFunc }
theorem tok279 : TOk Tryz.prog 279 ti279 := ⟨Tryz.underlying279, Tryz.t279, by kernel_rfl, rfl, rfl, rfl⟩
def ti280 : TI := { desc := (Go.TypeDesc.pointer 228), size := 1, bytes := 8, zero := (Go.Value.pointer none) }
theorem tok280 : TOk Tryz.prog 280 ti280 := ⟨Tryz.underlying280, Tryz.t280, by kernel_rfl, rfl, rfl, rfl⟩
def ti281 : TI := { desc := (Go.TypeDesc.slice 47), size := 1, bytes := 24, zero := (Go.Value.slice none 0 0) }
theorem tok281 : TOk Tryz.prog 281 ti281 := ⟨Tryz.underlying281, Tryz.t281, by kernel_rfl, rfl, rfl, rfl⟩
def ti282 : TI := { desc := (Go.TypeDesc.func #[47, 3] #[47] false), size := 1, bytes := 8, zero := Go.Value.nilFunc }
theorem tok282 : TOk Tryz.prog 282 ti282 := ⟨Tryz.underlying282, Tryz.t282, by kernel_rfl, rfl, rfl, rfl⟩
def ti283 : TI := { desc := (Go.TypeDesc.func #[9, 21] #[3] false), size := 1, bytes := 8, zero := Go.Value.nilFunc }
theorem tok283 : TOk Tryz.prog 283 ti283 := ⟨Tryz.underlying283, Tryz.t283, by kernel_rfl, rfl, rfl, rfl⟩
def ti284 : TI := { desc := (Go.TypeDesc.array 256 4), size := 256, bytes := 256, zero := (Go.Value.agg (([Go.Value.bool false, Go.Value.bool false, Go.Value.bool false, Go.Value.bool false, Go.Value.bool false, Go.Value.bool false, Go.Value.bool false, Go.Value.bool false, Go.Value.bool false, Go.Value.bool false, Go.Value.bool false, Go.Value.bool false, Go.Value.bool false, Go.Value.bool false, Go.Value.bool false, Go.Value.bool false, Go.Value.bool false, Go.Value.bool false, Go.Value.bool false, Go.Value.bool false, Go.Value.bool false, Go.Value.bool false, Go.Value.bool false, Go.Value.bool false, Go.Value.bool false, Go.Value.bool false, Go.Value.bool false, Go.Value.bool false, Go.Value.bool false, Go.Value.bool false, Go.Value.bool false, Go.Value.bool false, Go.Value.bool false, Go.Value.bool false, Go.Value.bool false, Go.Value.bool false, Go.Value.bool false, Go.Value.bool false, Go.Value.bool false, Go.Value.bool false, Go.Value.bool false, Go.Value.bool false, Go.Value.bool false, Go.Value.bool false, Go.Value.bool false, Go.Value.bool false, Go.Value.bool false, Go.Value.bool false, Go.Value.bool false, Go.Value.bool false, Go.Value.bool false, Go.Value.bool false, Go.Value.bool false, Go.Value.bool false, Go.Value.bool false, Go.Value.bool false, Go.Value.bool false, Go.Value.bool false, Go.Value.bool false, Go.Value.bool false, Go.Value.bool false, Go.Value.bool false, Go.Value.bool false, Go.Value.bool false].append [Go.Value.bool false, Go.Value.bool false, Go.Value.bool false, Go.Value.bool false, Go.Value.bool false, Go.Value.bool false, Go.Value.bool false, Go.Value.bool false, Go.Value.bool false, Go.Value.bool false, Go.Value.bool false, Go.Value.bool false, Go.Value.bool false, Go.Value.bool false, Go.Value.bool false, Go.Value.bool false, Go.Value.bool false, Go.Value.bool false, Go.Value.bool false, Go.Value.bool false, Go.Value.bool false, Go.Value.bool false, Go.Value.bool false, Go.Value.bool false, Go.Value.bool false, Go.Value.bool false, Go.Value.bool false, Go.Value.bool false, Go.Value.bool false, Go.Value.bool false, Go.Value.bool false, Go.Value.bool false, Go.Value.bool false, Go.Value.bool false, Go.Value.bool false, Go.Value.bool false, Go.Value.bool false, Go.Value.bool false, Go.Value.bool false, Go.Value.bool false, Go.Value.bool false, Go.Value.bool false, Go.Value.bool false, Go.Value.bool false, Go.Value.bool false, Go.Value.bool false, Go.Value.bool false, Go.Value.bool false, Go.Value.bool false, Go.Value.bool false, Go.Value.bool false, Go.Value.bool false, Go.Value.bool false, Go.Value.bool false, Go.Value.bool false, Go.Value.bool false, Go.Value.bool false, Go.Value.bool false, Go.Value.bool false, Go.Value.bool false, Go.Value.bool false, Go.Value.bool false, Go.Value.bool false, Go.Value.bool false]).append ([Go.Value.bool false, Go.Value.bool false, Go.Value.bool false, Go.Value.bool false, Go.Value.bool false, Go.Value.bool false, Go.Value.bool false, Go.Value.bool false, Go.Value.bool false, Go.Value.bool false, Go.Value.bool false, Go.Value.bool false, Go.Value.bool false, Go.Value.bool false, Go.Value.bool false, Go.Value.bool false, Go.Value.bool false, Go.Value.bool false, Go.Value.bool false, Go.Value.bool false, Go.Value.bool false, Go.Value.bool false, Go.Value.bool false, Go.Value.bool false, Go.Value.bool false, Go.Value.bool false, Go.Value.bool false, Go.Value.bool false, Go.Value.bool false, Go.Value.bool false, Go.Value.bool false, Go.Value.bool false, Go.Value.bool false, Go.Value.bool false, Go.Value.bool false, Go.Value.bool false, Go.Value.bool false, Go.Value.bool false, Go.Value.bool false, Go.Value.bool false, Go.Value.bool false, Go.Value.bool false, Go.Value.bool false, Go.Value.bool false, Go.Value.bool false, Go.Value.bool false, Go.Value.bool false, Go.Value.bool false, Go.Value.bool false, Go.Value.bool false, Go.Value.bool false, Go.Value.bool false, Go.Value.bool false, Go.Value.bool false, Go.Value.bool false, Go.Value.bool false, Go.Value.bool false, Go.Value.bool false, Go.Value.bool false, Go.Value.bool false, Go.Value.bool false, Go.Value.bool false, Go.Value.bool false, Go.Value.bool false].append [Go.Value.bool false, Go.Value.bool false, Go.Value.bool false, Go.Value.bool false, Go.Value.bool false, Go.Value.bool false, Go.Value.bool false, Go.Value.bool false, Go.Value.bool false, Go.Value.bool false, Go.Value.bool false, Go.Value.bool false, Go.Value.bool false, Go.Value.bool false, Go.Value.bool false, Go.Value.bool false, Go.Value.bool false, Go.Value.bool false, Go.Value.bool false, Go.Value.bool false, Go.Value.bool false, Go.Value.bool false, Go.Value.bool false, Go.Value.bool false, Go.Value.bool false, Go.Value.bool false, Go.Value.bool false, Go.Value.bool false, Go.Value.bool false, Go.Value.bool false, Go.Value.bool false, Go.Value.bool false, Go.Value.bool false, Go.Value.bool false, Go.Value.bool false, Go.Value.bool false, Go.Value.bool false, Go.Value.bool false, Go.Value.bool false, Go.Value.bool false, Go.Value.bool false, Go.Value.bool false, Go.Value.bool false, Go.Value.bool false, Go.Value.bool false, Go.Value.bool false, Go.Value.bool false, Go.Value.bool false, Go.Value.bool false, Go.Value.bool false, Go.Value.bool false, Go.Value.bool false, Go.Value.bool false, Go.Value.bool false, Go.Value.bool false, Go.Value.bool false, Go.Value.bool false, Go.Value.bool false, Go.Value.bool false, Go.Value.bool false, Go.Value.bool false, Go.Value.bool false, Go.Value.bool false, Go.Value.bool false])).toArray) }
theorem tok284 : TOk Tryz.prog 284 ti284 := ⟨Tryz.underlying284, Tryz.t284, by kernel_rfl, rfl, rfl, rfl⟩
def ti285 : TI := { desc := (Go.TypeDesc.array 256 4), size := 256, bytes := 256, zero := (Go.Value.agg (([Go.Value.bool false, Go.Value.bool false, Go.Value.bool false, Go.Value.bool false, Go.Value.bool false, Go.Value.bool false, Go.Value.bool false, Go.Value.bool false, Go.Value.bool false, Go.Value.bool false, Go.Value.bool false, Go.Value.bool false, Go.Value.bool false, Go.Value.bool false, Go.Value.bool false, Go.Value.bool false, Go.Value.bool false, Go.Value.bool false, Go.Value.bool false, Go.Value.bool false, Go.Value.bool false, Go.Value.bool false, Go.Value.bool false, Go.Value.bool false, Go.Value.bool false, Go.Value.bool false, Go.Value.bool false, Go.Value.bool false, Go.Value.bool false, Go.Value.bool false, Go.Value.bool false, Go.Value.bool false, Go.Value.bool false, Go.Value.bool false, Go.Value.bool false, Go.Value.bool false, Go.Value.bool false, Go.Value.bool false, Go.Value.bool false, Go.Value.bool false, Go.Value.bool false, Go.Value.bool false, Go.Value.bool false, Go.Value.bool false, Go.Value.bool false, Go.Value.bool false, Go.Value.bool false, Go.Value.bool false, Go.Value.bool false, Go.Value.bool false, Go.Value.bool false, Go.Value.bool false, Go.Value.bool false, Go.Value.bool false, Go.Value.bool false, Go.Value.bool false, Go.Value.bool false, Go.Value.bool false, Go.Value.bool false, Go.Value.bool false, Go.Value.bool false, Go.Value.bool false, Go.Value.bool false, Go.Value.bool false].append [Go.Value.bool false, Go.Value.bool false, Go.Value.bool false, Go.Value.bool false, Go.Value.bool false, Go.Value.bool false, Go.Value.bool false, Go.Value.bool false, Go.Value.bool false, Go.Value.bool false, Go.Value.bool false, Go.Value.bool false, Go.Value.bool false, Go.Value.bool false, Go.Value.bool false, Go.Value.bool false, Go.Value.bool false, Go.Value.bool false, Go.Value.bool false, Go.Value.bool false, Go.Value.bool false, Go.Value.bool false, Go.Value.bool false, Go.Value.bool false, Go.Value.bool false, Go.Value.bool false, Go.Value.bool false, Go.Value.bool false, Go.Value.bool false, Go.Value.bool false, Go.Value.bool false, Go.Value.bool false, Go.Value.bool false, Go.Value.bool false, Go.Value.bool false, Go.Value.bool false, Go.Value.bool false, Go.Value.bool false, Go.Value.bool false, Go.Value.bool false, Go.Value.bool false, Go.Value.bool false, Go.Value.bool false, Go.Value.bool false, Go.Value.bool false, Go.Value.bool false, Go.Value.bool false, Go.Value.bool false, Go.Value.bool false, Go.Value.bool false, Go.Value.bool false, Go.Value.bool false, Go.Value.bool false, Go.Value.bool false, Go.Value.bool false, Go.Value.bool false, Go.Value.bool false, Go.Value.bool false, Go.Value.bool false, Go.Value.bool false, Go.Value.bool false, Go.Value.bool false, Go.Value.bool false, Go.Value.bool false]).append ([Go.Value.bool false, Go.Value.bool false, Go.Value.bool false, Go.Value.bool false, Go.Value.bool false, Go.Value.bool false, Go.Value.bool false, Go.Value.bool false, Go.Value.bool false, Go.Value.bool false, Go.Value.bool false, Go.Value.bool false, Go.Value.bool false, Go.Value.bool false, Go.Value.bool false, Go.Value.bool false, Go.Value.bool false, Go.Value.bool false, Go.Value.bool false, Go.Value.bool false, Go.Value.bool false, Go.Value.bool false, Go.Value.bool false, Go.Value.bool false, Go.Value.bool false, Go.Value.bool false, Go.Value.bool false, Go.Value.bool false, Go.Value.bool false, Go.Value.bool false, Go.Value.bool false, Go.Value.bool false, Go.Value.bool false, Go.Value.bool false, Go.Value.bool false, Go.Value.bool false, Go.Value.bool false, Go.Value.bool false, Go.Value.bool false, Go.Value.bool false, Go.Value.bool false, Go.Value.bool false, Go.Value.bool false, Go.Value.bool false, Go.Value.bool false, Go.Value.bool false, Go.Value.bool false, Go.Value.bool false, Go.Value.bool false, Go.Value.bool false, Go.Value.bool false, Go.Value.bool false, Go.Value.bool false, Go.Value.bool false, Go.Value.bool false, Go.Value.bool false, Go.Value.bool false, Go.Value.bool false, Go.Value.bool false, Go.Value.bool false, Go.Value.bool false, Go.Value.bool false, Go.Value.bool false, Go.Value.bool false].append [Go.Value.bool false, Go.Value.bool false, Go.Value.bool false, Go.Value.bool false, Go.Value.bool false, Go.Value.bool false, Go.Value.bool false, Go.Value.bool false, Go.Value.bool false, Go.Value.bool false, Go.Value.bool false, Go.Value.bool false, Go.Value.bool false, Go.Value.bool false, Go.Value.bool false, Go.Value.bool false, Go.Value.bool false, Go.Value.bool false, Go.Value.bool false, Go.Value.bool false, Go.Value.bool false, Go.Value.bool false, Go.Value.bool false, Go.Value.bool false, Go.Value.bool false, Go.Value.bool false, Go.Value.bool false, Go.Value.bool false, Go.Value.bool false, Go.Value.bool false, Go.Value.bool false, Go.Value.bool false, Go.Value.bool false, Go.Value.bool false, Go.Value.bool false, Go.Value.bool false, Go.Value.bool false, Go.Value.bool false, Go.Value.bool false, Go.Value.bool false, Go.Value.bool false, Go.Value.bool false, Go.Value.bool false, Go.Value.bool false, Go.Value.bool false, Go.Value.bool false, Go.Value.bool false, Go.Value.bool false, Go.Value.bool false, Go.Value.bool false, Go.Value.bool false, Go.Value.bool false, Go.Value.bool false, Go.Value.bool false, Go.Value.bool false, Go.Value.bool false, Go.Value.bool false, Go.Value.bool false, Go.Value.bool false, Go.Value.bool false, Go.Value.bool false, Go.Value.bool false, Go.Value.bool false, Go.Value.bool false])).toArray) }
theorem tok285 : TOk Tryz.prog 285 ti285 := ⟨Tryz.underlying285, Tryz.t285, by kernel_rfl, rfl, rfl, rfl⟩
def ti286 : TI := { desc := (Go.TypeDesc.tuple #[285, 4]), size := 1, bytes := 0, zero := (Go.Value.tuple #[Go.Value.agg (([Go.Value.bool false, Go.Value.bool false, Go.Value.bool false, Go.Value.bool false, Go.Value.bool false, Go.Value.bool false, Go.Value.bool false, Go.Value.bool false, Go.Value.bool false, Go.Value.bool false, Go.Value.bool false, Go.Value.bool false, Go.Value.bool false, Go.Value.bool false, Go.Value.bool false, Go.Value.bool false, Go.Value.bool false, Go.Value.bool false, Go.Value.bool false, Go.Value.bool false, Go.Value.bool false, Go.Value.bool false, Go.Value.bool false, Go.Value.bool false, Go.Value.bool false, Go.Value.bool false, Go.Value.bool false, Go.Value.bool false, Go.Value.bool false, Go.Value.bool false, Go.Value.bool false, Go.Value.bool false, Go.Value.bool false, Go.Value.bool false, Go.Value.bool false, Go.Value.bool false, Go.Value.bool false, Go.Value.bool false, Go.Value.bool false, Go.Value.bool false, Go.Value.bool false, Go.Value.bool false, Go.Value.bool false, Go.Value.bool false, Go.Value.bool false, Go.Value.bool false, Go.Value.bool false, Go.Value.bool false, Go.Value.bool false, Go.Value.bool false, Go.Value.bool false, Go.Value.bool false, Go.Value.bool false, Go.Value.bool false, Go.Value.bool false, Go.Value.bool false, Go.Value.bool false, Go.Value.bool false, Go.Value.bool false, Go.Value.bool false, Go.Value.bool false, Go.Value.bool false, Go.Value.bool false, Go.Value.bool false].append [Go.Value.bool false, Go.Value.bool false, Go.Value.bool false, Go.Value.bool false, Go.Value.bool false, Go.Value.bool false, Go.Value.bool false, Go.Value.bool false, Go.Value.bool false, Go.Value.bool false, Go.Value.bool false, Go.Value.bool false, Go.Value.bool false, Go.Value.bool false, Go.Value.bool false, Go.Value.bool false, Go.Value.bool false, Go.Value.bool false, Go.Value.bool false, Go.Value.bool false, Go.Value.bool false, Go.Value.bool false, Go.Value.bool false, Go.Value.bool false, Go.Value.bool false, Go.Value.bool false, Go.Value.bool false, Go.Value.bool false, Go.Value.bool false, Go.Value.bool false, Go.Value.bool false, Go.Value.bool false, Go.Value.bool false, Go.Value.bool false, Go.Value.bool false, Go.Value.bool false, Go.Value.bool false, Go.Value.bool false, Go.Value.bool false, Go.Value.bool false, Go.Value.bool false, Go.Value.bool false, Go.Value.bool false, Go.Value.bool false, Go.Value.bool false, Go.Value.bool false, Go.Value.bool false, Go.Value.bool false, Go.Value.bool false, Go.Value.bool false, Go.Value.bool false, Go.Value.bool false, Go.Value.bool false, Go.Value.bool false, Go.Value.bool false, Go.Value.bool false, Go.Value.bool false, Go.Value.bool false, Go.Value.bool false, Go.Value.bool false, Go.Value.bool false, Go.Value.bool false, Go.Value.bool false, Go.Value.bool false]).append ([Go.Value.bool false, Go.Value.bool false, Go.Value.bool false, Go.Value.bool false, Go.Value.bool false, Go.Value.bool false, Go.Value.bool false, Go.Value.bool false, Go.Value.bool false, Go.Value.bool false, Go.Value.bool false, Go.Value.bool false, Go.Value.bool false, Go.Value.bool false, Go.Value.bool false, Go.Value.bool false, Go.Value.bool false, Go.Value.bool false, Go.Value.bool false, Go.Value.bool false, Go.Value.bool false, Go.Value.bool false, Go.Value.bool false, Go.Value.bool false, Go.Value.bool false, Go.Value.bool false, Go.Value.bool false, Go.Value.bool false, Go.Value.bool false, Go.Value.bool false, Go.Value.bool false, Go.Value.bool false, Go.Value.bool false, Go.Value.bool false, Go.Value.bool false, Go.Value.bool false, Go.Value.bool false, Go.Value.bool false, Go.Value.bool false, Go.Value.bool false, Go.Value.bool false, Go.Value.bool false, Go.Value.bool false, Go.Value.bool false, Go.Value.bool false, Go.Value.bool false, Go.Value.bool false, Go.Value.bool false, Go.Value.bool false, Go.Value.bool false, Go.Value.bool false, Go.Value.bool false, Go.Value.bool false, Go.Value.bool false, Go.Value.bool false, Go.Value.bool false, Go.Value.bool false, Go.Value.bool false, Go.Value.bool false, Go.Value.bool false, Go.Value.bool false, Go.Value.bool false, Go.Value.bool false, Go.Value.bool false].append [Go.Value.bool false, Go.Value.bool false, Go.Value.bool false, Go.Value.bool false, Go.Value.bool false, Go.Value.bool false, Go.Value.bool false, Go.Value.bool false, Go.Value.bool false, Go.Value.bool false, Go.Value.bool false, Go.Value.bool false, Go.Value.bool false, Go.Value.bool false, Go.Value.bool false, Go.Value.bool false, Go.Value.bool false, Go.Value.bool false, Go.Value.bool false, Go.Value.bool false, Go.Value.bool false, Go.Value.bool false, Go.Value.bool false, Go.Value.bool false, Go.Value.bool false, Go.Value.bool false, Go.Value.bool false, Go.Value.bool false, Go.Value.bool false, Go.Value.bool false, Go.Value.bool false, Go.Value.bool false, Go.Value.bool false, Go.Value.bool false, Go.Value.bool false, Go.Value.bool false, Go.Value.bool false, Go.Value.bool false, Go.Value.bool false, Go.Value.bool false, Go.Value.bool false, Go.Value.bool false, Go.Value.bool false, Go.Value.bool false, Go.Value.bool false, Go.Value.bool false, Go.Value.bool false, Go.Value.bool false, Go.Value.bool false, Go.Value.bool false, Go.Value.bool false, Go.Value.bool false, Go.Value.bool false, Go.Value.bool false, Go.Value.bool false, Go.Value.bool false, Go.Value.bool false, Go.Value.bool false, Go.Value.bool false, Go.Value.bool false, Go.Value.bool false, Go.Value.bool false, Go.Value.bool false, Go.Value.bool false])).toArray, Go.Value.bool false]) }
theorem tok286 : TOk Tryz.prog 286 ti286 := ⟨Tryz.underlying286, Tryz.t286, by kernel_rfl, rfl, rfl, rfl⟩
def ti287 : TI := { desc := (Go.TypeDesc.func #[9] #[285, 4] false), size := 1, bytes := 8, zero := Go.Value.nilFunc }
theorem tok287 : TOk Tryz.prog 287 ti287 := ⟨Tryz.underlying287, Tryz.t287, by kernel_rfl, rfl, rfl, rfl⟩
def ti288 : TI := { desc := (Go.TypeDesc.func #[5] #[4] false), size := 1, bytes := 8, zero := Go.Value.nilFunc }
theorem tok288 : TOk Tryz.prog 288 ti288 := ⟨Tryz.underlying288, Tryz.t288, by kernel_rfl, rfl, rfl, rfl⟩
def ti289 : TI := { desc := (Go.TypeDesc.func #[221] #[221] false), size := 1, bytes := 8, zero := Go.Value.nilFunc }
theorem tok289 : TOk Tryz.prog 289 ti289 := ⟨Tryz.underlying289, Tryz.t289, by kernel_rfl, rfl, rfl, rfl⟩
def ti290 : TI := { desc := (Go.TypeDesc.func #[163] #[193] false), size := 1, bytes := 8, zero := Go.Value.nilFunc }
theorem tok290 : TOk Tryz.prog 290 ti290 := ⟨Tryz.underlying290, Tryz.t290, by kernel_rfl, rfl, rfl, rfl⟩
def ti291 : TI := { desc := (Go.TypeDesc.func #[163] #[23] false), size := 1, bytes := 8, zero := Go.Value.nilFunc }
theorem tok291 : TOk Tryz.prog 291 ti291 := ⟨Tryz.underlying291, Tryz.t291, by kernel_rfl, rfl, rfl, rfl⟩
def ti292 : TI := { desc := (Go.TypeDesc.func #[122] #[3, 4] false), size := 1, bytes := 8, zero := Go.Value.nilFunc }
theorem tok292 : TOk Tryz.prog 292 ti292 := ⟨Tryz.underlying292, Tryz.t292, by kernel_rfl, rfl, rfl, rfl⟩
def ti293 : TI := { desc := (Go.TypeDesc.func #[170, 193, 3] #[163] false), size := 1, bytes := 8, zero := Go.Value.nilFunc }
theorem tok293 : TOk Tryz.prog 293 ti293 := ⟨Tryz.underlying293, Tryz.t293, by kernel_rfl, rfl, rfl, rfl⟩
def ti294 : TI := { desc := (Go.TypeDesc.func #[193] #[3] false), size := 1, bytes := 8, zero := Go.Value.nilFunc }
theorem tok294 : TOk Tryz.prog 294 ti294 := ⟨Tryz.underlying294, Tryz.t294, by kernel_rfl, rfl, rfl, rfl⟩
def ti295 : TI := { desc := (Go.TypeDesc.func #[9] #[9] false), size := 1, bytes := 8, zero := Go.Value.nilFunc }
theorem tok295 : TOk Tryz.prog 295 ti295 := ⟨Tryz.underlying295, Tryz.t295, by kernel_rfl, rfl, rfl, rfl⟩
def ti296 : TI := { desc := (Go.TypeDesc.func #[235] #[] false), size := 1, bytes := 8, zero := Go.Value.nilFunc }
theorem tok296 : TOk Tryz.prog 296 ti296 := ⟨Tryz.underlying296, Tryz.t296, by kernel_rfl, rfl, rfl, rfl⟩
def ti297 : TI := { desc := (Go.TypeDesc.func #[235] #[] false), size := 1, bytes := 8, zero := Go.Value.nilFunc }
theorem tok297 : TOk Tryz.prog 297 ti297 := ⟨Tryz.underlying297, Tryz.t297, by kernel_rfl, rfl, rfl, rfl⟩
def ti298 : TI := { desc := (Go.TypeDesc.func #[122, 122] #[297] false), size := 1, bytes := 8, zero := Go.Value.nilFunc }
theorem tok298 : TOk Tryz.prog 298 ti298 := ⟨Tryz.underlying298, Tryz.t298, by kernel_rfl, rfl, rfl, rfl⟩
def ti299 : TI := { desc := (Go.TypeDesc.func #[9, 9, 3] #[4] false), size := 1, bytes := 8, zero := Go.Value.nilFunc }
theorem tok299 : TOk Tryz.prog 299 ti299 := ⟨Tryz.underlying299, Tryz.t299, by kernel_rfl, rfl, rfl, rfl⟩
def ti300 : TI := { desc := (Go.TypeDesc.func #[3, 49] #[23] false), size := 1, bytes := 8, zero := Go.Value.nilFunc }
theorem tok300 : TOk Tryz.prog 300 ti300 := ⟨Tryz.underlying300, Tryz.t300, by kernel_rfl, rfl, rfl, rfl⟩
def ti301 : TI := { desc := (Go.TypeDesc.func #[261, 302] #[76] true), size := 1, bytes := 8, zero := Go.Value.nilFunc }
theorem tok301 : TOk Tryz.prog 301 ti301 := ⟨Tryz.underlying301, Tryz.t301, by kernel_rfl, rfl, rfl, rfl⟩
def ti302 : TI := { desc := (Go.TypeDesc.slice 76), size := 1, bytes := 24, zero := (Go.Value.slice none 0 0) }
theorem tok302 : TOk Tryz.prog 302 ti302 := ⟨Tryz.underlying302, Tryz.t302, by kernel_rfl, rfl, rfl, rfl⟩
def ti303 : TI := { desc := (Go.TypeDesc.func #[76, 261] #[302] false), size := 1, bytes := 8, zero := Go.Value.nilFunc }
theorem tok303 : TOk Tryz.prog 303 ti303 := ⟨Tryz.underlying303, Tryz.t303, by kernel_rfl, rfl, rfl, rfl⟩
def ti304 : TI := { desc := (Go.TypeDesc.func #[] #[270] false), size := 1, bytes := 8, zero := Go.Value.nilFunc }
theorem tok304 : TOk Tryz.prog 304 ti304 := ⟨Tryz.underlying304, Tryz.t304, by kernel_rfl, rfl, rfl, rfl⟩
def ti305 : TI := { desc := (Go.TypeDesc.func #[138] #[140] true), size := 1, bytes := 8, zero := Go.Value.nilFunc }
theorem tok305 : TOk Tryz.prog 305 ti305 := ⟨Tryz.underlying305, Tryz.t305, by kernel_rfl, rfl, rfl, rfl⟩
def ti306 : TI := { desc := (Go.TypeDesc.func #[9, 3] #[276] false), size := 1, bytes := 8, zero := Go.Value.nilFunc }
theorem tok306 : TOk Tryz.prog 306 ti306 := ⟨Tryz.underlying306, Tryz.t306, by kernel_rfl, rfl, rfl, rfl⟩
def ti307 : TI := { desc := (Go.TypeDesc.func #[122] #[122] false), size := 1, bytes := 8, zero := Go.Value.nilFunc }
theorem tok307 : TOk Tryz.prog 307 ti307 := ⟨Tryz.underlying307, Tryz.t307, by kernel_rfl, rfl, rfl, rfl⟩
def ti308 : TI := { desc := (Go.TypeDesc.func #[21] #[4] false), size := 1, bytes := 8, zero := Go.Value.nilFunc }
theorem tok308 : TOk Tryz.prog 308 ti308 := ⟨Tryz.underlying308, Tryz.t308, by kernel_rfl, rfl, rfl, rfl⟩
def ti309 : TI := { desc := (Go.TypeDesc.func #[3] #[3] false), size := 1, bytes := 8, zero := Go.Value.nilFunc }
theorem tok309 : TOk Tryz.prog 309 ti309 := ⟨Tryz.underlying309, Tryz.t309, by kernel_rfl, rfl, rfl, rfl⟩
def ti310 : TI := { desc := (Go.TypeDesc.pointer 285), size := 1, bytes := 8, zero := (Go.Value.pointer none) }
theorem tok310 : TOk Tryz.prog 310 ti310 := ⟨Tryz.underlying310, Tryz.t310, by kernel_rfl, rfl, rfl, rfl⟩
def ti311 : TI := { desc := (Go.TypeDesc.slice 221), size := 1, bytes := 24, zero := (Go.Value.slice none 0 0) }
theorem tok311 : TOk Tryz.prog 311 ti311 := ⟨Tryz.underlying311, Tryz.t311, by kernel_rfl, rfl, rfl, rfl⟩
def ti312 : TI := { desc := (Go.TypeDesc.func #[221] #[311] false), size := 1, bytes := 8, zero := Go.Value.nilFunc }
theorem tok312 : TOk Tryz.prog 312 ti312 := ⟨Tryz.underlying312, Tryz.t312, by kernel_rfl, rfl, rfl, rfl⟩
def ti313 : TI := { desc := (Go.TypeDesc.func #[221] #[23] false), size := 1, bytes := 8, zero := Go.Value.nilFunc }
theorem tok313 : TOk Tryz.prog 313 ti313 := ⟨Tryz.underlying313, Tryz.t313, by kernel_rfl, rfl, rfl, rfl⟩
def ti314 : TI := { desc := (Go.TypeDesc.tuple #[4, 122]), size := 1, bytes := 0, zero := (Go.Value.tuple #[Go.Value.bool false, Go.Value.slice none 0 0]) }
theorem tok314 : TOk Tryz.prog 314 ti314 := ⟨Tryz.underlying314, Tryz.t314, by kernel_rfl, rfl, rfl, rfl⟩
def ti315 : TI := { desc := (Go.TypeDesc.func #[122] #[4, 122] false), size := 1, bytes := 8, zero := Go.Value.nilFunc }
theorem tok315 : TOk Tryz.prog 315 ti315 := ⟨Tryz.underlying315, Tryz.t315, by kernel_rfl, rfl, rfl, rfl⟩
def ti316 : TI := { desc := (Go.TypeDesc.func #[122] #[93, 4] false), size := 1, bytes := 8, zero := Go.Value.nilFunc }
theorem tok316 : TOk Tryz.prog 316 ti316 := ⟨Tryz.underlying316, Tryz.t316, by kernel_rfl, rfl, rfl, rfl⟩
def ti317 : TI := { desc := (Go.TypeDesc.func #[5, 5] #[3] false), size := 1, bytes := 8, zero := Go.Value.nilFunc }
theorem tok317 : TOk Tryz.prog 317 ti317 := ⟨Tryz.underlying317, Tryz.t317, by kernel_rfl, rfl, rfl, rfl⟩
def ti318 : TI := { desc := (Go.TypeDesc.pointer 321), size := 1, bytes := 8, zero := (Go.Value.pointer none) }
theorem tok318 : TOk Tryz.prog 318 ti318 := ⟨Tryz.underlying318, Tryz.t318, by kernel_rfl, rfl, rfl, rfl⟩
def ti319 : TI := { desc := (Go.TypeDesc.slice 324), size := 1, bytes := 24, zero := (Go.Value.slice none 0 0) }
theorem tok319 : TOk Tryz.prog 319 ti319 := ⟨Tryz.underlying319, Tryz.t319, by kernel_rfl, rfl, rfl, rfl⟩
def ti320 : TI := { desc := (Go.TypeDesc.struct #[{ name := "l", type := 319, offset := 0, embedded := false, tag := "", pkgPath := "damier/merge", byteOffset := 0 }, { name := "compare", type := 170, offset := 1, embedded := false, tag := "", pkgPath := "damier/merge", byteOffset := 24 }]), size := 2, bytes := 32, zero := (Go.Value.agg #[Go.Value.slice none 0 0, Go.Value.nilFunc]) }
theorem tok320 : TOk Tryz.prog 320 ti320 := ⟨Tryz.underlying320, Tryz.t320, by kernel_rfl, rfl, rfl, rfl⟩
def ti321 : TI := { desc := (Go.TypeDesc.struct #[{ name := "l", type := 319, offset := 0, embedded := false, tag := "", pkgPath := "damier/merge", byteOffset := 0 }, { name := "compare", type := 170, offset := 1, embedded := false, tag := "", pkgPath := "damier/merge", byteOffset := 24 }]), size := 2, bytes := 32, zero := (Go.Value.agg #[Go.Value.slice none 0 0, Go.Value.nilFunc]) }
theorem tok321 : TOk Tryz.prog 321 ti321 := ⟨Tryz.underlying321, Tryz.t321, by kernel_rfl, rfl, rfl, rfl⟩
def ti322 : TI := { desc := (Go.TypeDesc.func #[345, 20] #[] false), size := 1, bytes := 8, zero := Go.Value.nilFunc }
theorem tok322 : TOk Tryz.prog 322 ti322 := ⟨Tryz.underlying322, Tryz.t322, by kernel_rfl, rfl, rfl, rfl⟩
def ti323 : TI := { desc := (Go.TypeDesc.struct #[{ name := "rest", type := 163, offset := 0, embedded := false, tag := "", pkgPath := "damier/merge", byteOffset := 0 }, { name := "which", type := 3, offset := 1, embedded := false, tag := "", pkgPath := "damier/merge", byteOffset := 24 }]), size := 2, bytes := 32, zero := (Go.Value.agg #[Go.Value.slice none 0 0, Go.Value.int Go.IntKind.i64 0]) }
theorem tok323 : TOk Tryz.prog 323 ti323 := ⟨Tryz.underlying323, Tryz.t323, by kernel_rfl, rfl, rfl, rfl⟩
def ti324 : TI := { desc := (Go.TypeDesc.struct #[{ name := "rest", type := 163, offset := 0, embedded := false, tag := "", pkgPath := "damier/merge", byteOffset := 0 }, { name := "which", type := 3, offset := 1, embedded := false, tag := "", pkgPath := "damier/merge", byteOffset := 24 }]), size := 2, bytes := 32, zero := (Go.Value.agg #[Go.Value.slice none 0 0, Go.Value.int Go.IntKind.i64 0]) }
theorem tok324 : TOk Tryz.prog 324 ti324 := ⟨Tryz.underlying324, Tryz.t324, by kernel_rfl, rfl, rfl, rfl⟩
def ti325 : TI := { desc := (Go.TypeDesc.pointer 324), size := 1, bytes := 8, zero := (Go.Value.pointer none) }
theorem tok325 : TOk Tryz.prog 325 ti325 := ⟨Tryz.underlying325, Tryz.t325, by kernel_rfl, rfl, rfl, rfl⟩
def ti326 : TI := { desc := (Go.TypeDesc.func #[345] #[20] false), size := 1, bytes := 8, zero := Go.Value.nilFunc }
theorem tok326 : TOk Tryz.prog 326 ti326 := ⟨Tryz.underlying326, Tryz.t326, by kernel_rfl, rfl, rfl, rfl⟩
def ti327 : TI := { desc := (Go.TypeDesc.func #[345, 3] #[] false), size := 1, bytes := 8, zero := Go.Value.nilFunc }
theorem tok327 : TOk Tryz.prog 327 ti327 := ⟨Tryz.underlying327, Tryz.t327, by kernel_rfl, rfl, rfl, rfl⟩
def ti328 : TI := { desc := (Go.TypeDesc.func #[122] #[76] false), size := 1, bytes := 8, zero := Go.Value.nilFunc }
theorem tok328 : TOk Tryz.prog 328 ti328 := ⟨Tryz.underlying328, Tryz.t328, by kernel_rfl, rfl, rfl, rfl⟩
def ti329 : TI := { desc := (Go.TypeDesc.func #[163, 3, 3, 163] #[163] true), size := 1, bytes := 8, zero := Go.Value.nilFunc }
theorem tok329 : TOk Tryz.prog 329 ti329 := ⟨Tryz.underlying329, Tryz.t329, by kernel_rfl, rfl, rfl, rfl⟩
def ti330 : TI := { desc := (Go.TypeDesc.func #[221, 3, 3, 221] #[221] true), size := 1, bytes := 8, zero := Go.Value.nilFunc }
theorem tok330 : TOk Tryz.prog 330 ti330 := ⟨Tryz.underlying330, Tryz.t330, by kernel_rfl, rfl, rfl, rfl⟩
def ti331 : TI := { desc := (Go.TypeDesc.func #[261, 302, 3] #[76] false), size := 1, bytes := 8, zero := Go.Value.nilFunc }
theorem tok331 : TOk Tryz.prog 331 ti331 := ⟨Tryz.underlying331, Tryz.t331, by kernel_rfl, rfl, rfl, rfl⟩
def ti332 : TI := { desc := (Go.TypeDesc.func #[302] #[3] false), size := 1, bytes := 8, zero := Go.Value.nilFunc }
theorem tok332 : TOk Tryz.prog 332 ti332 := ⟨Tryz.underlying332, Tryz.t332, by kernel_rfl, rfl, rfl, rfl⟩
def ti333 : TI := { desc := (Go.TypeDesc.func #[76] #[76] false), size := 1, bytes := 8, zero := Go.Value.nilFunc }
theorem tok333 : TOk Tryz.prog 333 ti333 := ⟨Tryz.underlying333, Tryz.t333, by kernel_rfl, rfl, rfl, rfl⟩
def ti334 : TI := { desc := (Go.TypeDesc.tuple #[3, 138]), size := 1, bytes := 0, zero := (Go.Value.tuple #[Go.Value.int Go.IntKind.i64 0, Go.Value.slice none 0 0]) }
theorem tok334 : TOk Tryz.prog 334 ti334 := ⟨Tryz.underlying334, Tryz.t334, by kernel_rfl, rfl, rfl, rfl⟩
def ti335 : TI := { desc := (Go.TypeDesc.func #[] #[3, 138] false), size := 1, bytes := 8, zero := Go.Value.nilFunc }
theorem tok335 : TOk Tryz.prog 335 ti335 := ⟨Tryz.underlying335, Tryz.t335, by kernel_rfl, rfl, rfl, rfl⟩
def ti336 : TI := { desc := (Go.TypeDesc.func #[142] #[] false), size := 1, bytes := 8, zero := Go.Value.nilFunc }
theorem tok336 : TOk Tryz.prog 336 ti336 := ⟨Tryz.underlying336, Tryz.t336, by kernel_rfl, rfl, rfl, rfl⟩
def ti337 : TI := { desc := (Go.TypeDesc.func #[9, 3] #[4] false), size := 1, bytes := 8, zero := Go.Value.nilFunc }
theorem tok337 : TOk Tryz.prog 337 ti337 := ⟨Tryz.underlying337, Tryz.t337, by kernel_rfl, rfl, rfl, rfl⟩
def ti338 : TI := { desc := (Go.TypeDesc.func #[9, 3] #[3] false), size := 1, bytes := 8, zero := Go.Value.nilFunc }
theorem tok338 : TOk Tryz.prog 338 ti338 := ⟨Tryz.underlying338, Tryz.t338, by kernel_rfl, rfl, rfl, rfl⟩
def ti339 : TI := { desc := (Go.TypeDesc.func #[76, 3, 3] #[76] false), size := 1, bytes := 8, zero := Go.Value.nilFunc }
theorem tok339 : TOk Tryz.prog 339 ti339 := ⟨Tryz.underlying339, Tryz.t339, by kernel_rfl, rfl, rfl, rfl⟩
def ti340 : TI := { desc := (Go.TypeDesc.func #[122] #[3] false), size := 1, bytes := 8, zero := Go.Value.nilFunc }
theorem tok340 : TOk Tryz.prog 340 ti340 := ⟨Tryz.underlying340, Tryz.t340, by kernel_rfl, rfl, rfl, rfl⟩
def ti341 : TI := { desc := (Go.TypeDesc.func #[122] #[4] false), size := 1, bytes := 8, zero := Go.Value.nilFunc }
theorem tok341 : TOk Tryz.prog 341 ti341 := ⟨Tryz.underlying341, Tryz.t341, by kernel_rfl, rfl, rfl, rfl⟩
def ti342 : TI := { desc := (Go.TypeDesc.func #[5] #[3] false), size := 1, bytes := 8, zero := Go.Value.nilFunc }
theorem tok342 : TOk Tryz.prog 342 ti342 := ⟨Tryz.underlying342, Tryz.t342, by kernel_rfl, rfl, rfl, rfl⟩
def ti343 : TI := { desc := (Go.TypeDesc.func #[142] #[4] false), size := 1, bytes := 8, zero := Go.Value.nilFunc }
theorem tok343 : TOk Tryz.prog 343 ti343 := ⟨Tryz.underlying343, Tryz.t343, by kernel_rfl, rfl, rfl, rfl⟩
def ti344 : TI := { desc := (Go.TypeDesc.interface #[("Len", 46), ("Less", 363), ("Pop", 349), ("Push", 346), ("Swap", 347)]), size := 1, bytes := 16, zero := Go.Value.nilIface }
theorem tok344 : TOk Tryz.prog 344 ti344 := ⟨Tryz.underlying344, Tryz.t344, by kernel_rfl, rfl, rfl, rfl⟩
def ti345 : TI := { desc := (Go.TypeDesc.interface #[("Len", 46), ("Less", 363), ("Pop", 349), ("Push", 346), ("Swap", 347)]), size := 1, bytes := 16, zero := Go.Value.nilIface }
theorem tok345 : TOk Tryz.prog 345 ti345 := ⟨Tryz.underlying345, Tryz.t345, by kernel_rfl, rfl, rfl, rfl⟩
def ti346 : TI := { desc := (Go.TypeDesc.func #[20] #[] false), size := 1, bytes := 8, zero := Go.Value.nilFunc }
theorem tok346 : TOk Tryz.prog 346 ti346 := ⟨Tryz.underlying346, Tryz.t346, by kernel_rfl, rfl, rfl, rfl⟩
def ti347 : TI := { desc := (Go.TypeDesc.func #[3, 3] #[] false), size := 1, bytes := 8, zero := Go.Value.nilFunc }
theorem tok347 : TOk Tryz.prog 347 ti347 := ⟨Tryz.underlying347, Tryz.t347, by kernel_rfl, rfl, rfl, rfl⟩
def ti348 : TI := { desc := (Go.TypeDesc.func #[345, 3, 3] #[4] false), size := 1, bytes := 8, zero := Go.Value.nilFunc }
theorem tok348 : TOk Tryz.prog 348 ti348 := ⟨Tryz.underlying348, Tryz.t348, by kernel_rfl, rfl, rfl, rfl⟩
def ti349 : TI := { desc := (Go.TypeDesc.func #[] #[20] false), size := 1, bytes := 8, zero := Go.Value.nilFunc }
theorem tok349 : TOk Tryz.prog 349 ti349 := ⟨Tryz.underlying349, Tryz.t349, by kernel_rfl, rfl, rfl, rfl⟩
def ti350 : TI := { desc := (Go.TypeDesc.func #[193] #[163] true), size := 1, bytes := 8, zero := Go.Value.nilFunc }
theorem tok350 : TOk Tryz.prog 350 ti350 := ⟨Tryz.underlying350, Tryz.t350, by kernel_rfl, rfl, rfl, rfl⟩
def ti351 : TI := { desc := (Go.TypeDesc.func #[311] #[221] true), size := 1, bytes := 8, zero := Go.Value.nilFunc }
theorem tok351 : TOk Tryz.prog 351 ti351 := ⟨Tryz.underlying351, Tryz.t351, by kernel_rfl, rfl, rfl, rfl⟩
def ti352 : TI := { desc := (Go.TypeDesc.pointer 355), size := 1, bytes := 8, zero := (Go.Value.pointer none) }
theorem tok352 : TOk Tryz.prog 352 ti352 := ⟨Tryz.underlying352, Tryz.t352, by kernel_rfl, rfl, rfl, rfl⟩
def ti353 : TI := { desc := (Go.TypeDesc.slice 357), size := 1, bytes := 24, zero := (Go.Value.slice none 0 0) }
theorem tok353 : TOk Tryz.prog 353 ti353 := ⟨Tryz.underlying353, Tryz.t353, by kernel_rfl, rfl, rfl, rfl⟩
def ti354 : TI := { desc := (Go.TypeDesc.struct #[{ name := "l", type := 353, offset := 0, embedded := false, tag := "", pkgPath := "damier/merge", byteOffset := 0 }, { name := "compare", type := 261, offset := 1, embedded := false, tag := "", pkgPath := "damier/merge", byteOffset := 24 }]), size := 2, bytes := 32, zero := (Go.Value.agg #[Go.Value.slice none 0 0, Go.Value.nilFunc]) }
theorem tok354 : TOk Tryz.prog 354 ti354 := ⟨Tryz.underlying354, Tryz.t354, by kernel_rfl, rfl, rfl, rfl⟩
def ti355 : TI := { desc := (Go.TypeDesc.struct #[{ name := "l", type := 353, offset := 0, embedded := false, tag := "", pkgPath := "damier/merge", byteOffset := 0 }, { name := "compare", type := 261, offset := 1, embedded := false, tag := "", pkgPath := "damier/merge", byteOffset := 24 }]), size := 2, bytes := 32, zero := (Go.Value.agg #[Go.Value.slice none 0 0, Go.Value.nilFunc]) }
theorem tok355 : TOk Tryz.prog 355 ti355 := ⟨Tryz.underlying355, Tryz.t355, by kernel_rfl, rfl, rfl, rfl⟩
def ti356 : TI := { desc := (Go.TypeDesc.struct #[{ name := "rest", type := 76, offset := 0, embedded := false, tag := "", pkgPath := "damier/merge", byteOffset := 0 }, { name := "which", type := 3, offset := 1, embedded := false, tag := "", pkgPath := "damier/merge", byteOffset := 24 }]), size := 2, bytes := 32, zero := (Go.Value.agg #[Go.Value.slice none 0 0, Go.Value.int Go.IntKind.i64 0]) }
theorem tok356 : TOk Tryz.prog 356 ti356 := ⟨Tryz.underlying356, Tryz.t356, by kernel_rfl, rfl, rfl, rfl⟩
def ti357 : TI := { desc := (Go.TypeDesc.struct #[{ name := "rest", type := 76, offset := 0, embedded := false, tag := "", pkgPath := "damier/merge", byteOffset := 0 }, { name := "which", type := 3, offset := 1, embedded := false, tag := "", pkgPath := "damier/merge", byteOffset := 24 }]), size := 2, bytes := 32, zero := (Go.Value.agg #[Go.Value.slice none 0 0, Go.Value.int Go.IntKind.i64 0]) }
theorem tok357 : TOk Tryz.prog 357 ti357 := ⟨Tryz.underlying357, Tryz.t357, by kernel_rfl, rfl, rfl, rfl⟩
def ti358 : TI := { desc := (Go.TypeDesc.pointer 357), size := 1, bytes := 8, zero := (Go.Value.pointer none) }
theorem tok358 : TOk Tryz.prog 358 ti358 := ⟨Tryz.underlying358, Tryz.t358, by kernel_rfl, rfl, rfl, rfl⟩
def ti359 : TI := { desc := (Go.TypeDesc.slice 142), size := 1, bytes := 24, zero := (Go.Value.slice none 0 0) }
theorem tok359 : TOk Tryz.prog 359 ti359 := ⟨Tryz.underlying359, Tryz.t359, by kernel_rfl, rfl, rfl, rfl⟩
def ti360 : TI := { desc := (Go.TypeDesc.pointer 140), size := 1, bytes := 8, zero := (Go.Value.pointer none) }
theorem tok360 : TOk Tryz.prog 360 ti360 := ⟨Tryz.underlying360, Tryz.t360, by kernel_rfl, rfl, rfl, rfl⟩
def ti361 : TI := { desc := (Go.TypeDesc.tuple #[142, 4]), size := 1, bytes := 0, zero := (Go.Value.tuple #[Go.Value.agg #[Go.Value.int Go.IntKind.i64 0, Go.Value.int Go.IntKind.i64 0], Go.Value.bool false]) }
theorem tok361 : TOk Tryz.prog 361 ti361 := ⟨Tryz.underlying361, Tryz.t361, by kernel_rfl, rfl, rfl, rfl⟩
def ti362 : TI := { desc := (Go.TypeDesc.func #[142, 142] #[142, 4] false), size := 1, bytes := 8, zero := Go.Value.nilFunc }
theorem tok362 : TOk Tryz.prog 362 ti362 := ⟨Tryz.underlying362, Tryz.t362, by kernel_rfl, rfl, rfl, rfl⟩
def ti363 : TI := { desc := (Go.TypeDesc.func #[3, 3] #[4] false), size := 1, bytes := 8, zero := Go.Value.nilFunc }
theorem tok363 : TOk Tryz.prog 363 ti363 := ⟨Tryz.underlying363, Tryz.t363, by kernel_rfl, rfl, rfl, rfl⟩
def ti364 : TI := { desc := (Go.TypeDesc.func #[163, 3] #[163] false), size := 1, bytes := 8, zero := Go.Value.nilFunc }
theorem tok364 : TOk Tryz.prog 364 ti364 := ⟨Tryz.underlying364, Tryz.t364, by kernel_rfl, rfl, rfl, rfl⟩
def ti365 : TI := { desc := (Go.TypeDesc.func #[221, 3] #[221] false), size := 1, bytes := 8, zero := Go.Value.nilFunc }
theorem tok365 : TOk Tryz.prog 365 ti365 := ⟨Tryz.underlying365, Tryz.t365, by kernel_rfl, rfl, rfl, rfl⟩
def ti366 : TI := { desc := (Go.TypeDesc.pointer 359), size := 1, bytes := 8, zero := (Go.Value.pointer none) }
theorem tok366 : TOk Tryz.prog 366 ti366 := ⟨Tryz.underlying366, Tryz.t366, by kernel_rfl, rfl, rfl, rfl⟩
def ti367 : TI := { desc := (Go.TypeDesc.func #[] #[9] false), size := 1, bytes := 8, zero := Go.Value.nilFunc }
theorem tok367 : TOk Tryz.prog 367 ti367 := ⟨Tryz.underlying367, Tryz.t367, by kernel_rfl, rfl, rfl, rfl⟩
def ti368 : TI := { desc := (Go.TypeDesc.struct #[{ name := "_interface", type := 17, offset := 0, embedded := false, tag := "", pkgPath := "runtime", byteOffset := 0 }, { name := "concrete", type := 17, offset := 1, embedded := false, tag := "", pkgPath := "runtime", byteOffset := 8 }, { name := "asserted", type := 17, offset := 2, embedded := false, tag := "", pkgPath := "runtime", byteOffset := 16 }, { name := "missingMethod", type := 9, offset := 3, embedded := false, tag := "", pkgPath := "runtime", byteOffset := 24 }]), size := 4, bytes := 40, zero := (Go.Value.agg #[Go.Value.pointer none, Go.Value.pointer none, Go.Value.pointer none, Go.Value.string { data := #[] }]) }
theorem tok368 : TOk Tryz.prog 368 ti368 := ⟨Tryz.underlying368, Tryz.t368, by kernel_rfl, rfl, rfl, rfl⟩
def ti369 : TI := { desc := (Go.TypeDesc.struct #[{ name := "_interface", type := 17, offset := 0, embedded := false, tag := "", pkgPath := "runtime", byteOffset := 0 }, { name := "concrete", type := 17, offset := 1, embedded := false, tag := "", pkgPath := "runtime", byteOffset := 8 }, { name := "asserted", type := 17, offset := 2, embedded := false, tag := "", pkgPath := "runtime", byteOffset := 16 }, { name := "missingMethod", type := 9, offset := 3, embedded := false, tag := "", pkgPath := "runtime", byteOffset := 24 }]), size := 4, bytes := 40, zero := (Go.Value.agg #[Go.Value.pointer none, Go.Value.pointer none, Go.Value.pointer none, Go.Value.string { data := #[] }]) }
theorem tok369 : TOk Tryz.prog 369 ti369 := ⟨Tryz.underlying369, Tryz.t369, by kernel_rfl, rfl, rfl, rfl⟩
def ti370 : TI := { desc := (Go.TypeDesc.array 0 16), size := 0, bytes := 0, zero := (Go.Value.agg #[]) }
theorem tok370 : TOk Tryz.prog 370 ti370 := ⟨Tryz.underlying370, Tryz.t370, by kernel_rfl, rfl, rfl, rfl⟩
def ti371 : TI := { desc := (Go.TypeDesc.struct #[{ name := "_", type := 370, offset := 0, embedded := false, tag := "", pkgPath := "runtime", byteOffset := 0 }]), size := 0, bytes := 0, zero := (Go.Value.agg #[]) }
theorem tok371 : TOk Tryz.prog 371 ti371 := ⟨Tryz.underlying371, Tryz.t371, by kernel_rfl, rfl, rfl, rfl⟩
def ti372 : TI := { desc := (Go.TypeDesc.struct #[{ name := "_", type := 370, offset := 0, embedded := false, tag := "", pkgPath := "runtime", byteOffset := 0 }]), size := 0, bytes := 0, zero := (Go.Value.agg #[]) }
theorem tok372 : TOk Tryz.prog 372 ti372 := ⟨Tryz.underlying372, Tryz.t372, by kernel_rfl, rfl, rfl, rfl⟩
def ti373 : TI := { desc := (Go.TypeDesc.int Go.IntKind.u32), size := 1, bytes := 4, zero := (Go.Value.int Go.IntKind.u32 0) }
theorem tok373 : TOk Tryz.prog 373 ti373 := ⟨Tryz.underlying373, Tryz.t373, by kernel_rfl, rfl, rfl, rfl⟩
def ti374 : TI := { desc := (Go.TypeDesc.int Go.IntKind.u8), size := 1, bytes := 1, zero := (Go.Value.int Go.IntKind.u8 0) }
theorem tok374 : TOk Tryz.prog 374 ti374 := ⟨Tryz.underlying374, Tryz.t374, by kernel_rfl, rfl, rfl, rfl⟩
def ti375 : TI := { desc := (Go.TypeDesc.int Go.IntKind.u8), size := 1, bytes := 1, zero := (Go.Value.int Go.IntKind.u8 0) }
theorem tok375 : TOk Tryz.prog 375 ti375 := ⟨Tryz.underlying375, Tryz.t375, by kernel_rfl, rfl, rfl, rfl⟩
def ti376 : TI := { desc := (Go.TypeDesc.func #[382, 382] #[4] false), size := 1, bytes := 8, zero := Go.Value.nilFunc }
theorem tok376 : TOk Tryz.prog 376 ti376 := ⟨Tryz.underlying376, Tryz.t376, by kernel_rfl, rfl, rfl, rfl⟩
def ti377 : TI := { desc := (Go.TypeDesc.pointer 5), size := 1, bytes := 8, zero := (Go.Value.pointer none) }
theorem tok377 : TOk Tryz.prog 377 ti377 := ⟨Tryz.underlying377, Tryz.t377, by kernel_rfl, rfl, rfl, rfl⟩
def ti378 : TI := { desc := (Go.TypeDesc.int Go.IntKind.i32), size := 1, bytes := 4, zero := (Go.Value.int Go.IntKind.i32 0) }
theorem tok378 : TOk Tryz.prog 378 ti378 := ⟨Tryz.underlying378, Tryz.t378, by kernel_rfl, rfl, rfl, rfl⟩
def ti379 : TI := { desc := (Go.TypeDesc.int Go.IntKind.i32), size := 1, bytes := 4, zero := (Go.Value.int Go.IntKind.i32 0) }
theorem tok379 : TOk Tryz.prog 379 ti379 := ⟨Tryz.underlying379, Tryz.t379, by kernel_rfl, rfl, rfl, rfl⟩
def ti380 : TI := { desc := (Go.TypeDesc.struct #[{ name := "Size_", type := 12, offset := 0, embedded := false, tag := "", pkgPath := "", byteOffset := 0 }, { name := "PtrBytes", type := 12, offset := 1, embedded := false, tag := "", pkgPath := "", byteOffset := 8 }, { name := "Hash", type := 373, offset := 2, embedded := false, tag := "", pkgPath := "", byteOffset := 16 }, { name := "TFlag", type := 374, offset := 3, embedded := false, tag := "", pkgPath := "", byteOffset := 20 }, { name := "Align_", type := 5, offset := 4, embedded := false, tag := "", pkgPath := "", byteOffset := 21 }, { name := "FieldAlign_", type := 5, offset := 5, embedded := false, tag := "", pkgPath := "", byteOffset := 22 }, { name := "Kind_", type := 375, offset := 6, embedded := false, tag := "", pkgPath := "", byteOffset := 23 }, { name := "Equal", type := 376, offset := 7, embedded := false, tag := "", pkgPath := "", byteOffset := 24 }, { name := "GCData", type := 377, offset := 8, embedded := false, tag := "", pkgPath := "", byteOffset := 32 }, { name := "Str", type := 378, offset := 9, embedded := false, tag := "", pkgPath := "", byteOffset := 40 }, { name := "PtrToThis", type := 379, offset := 10, embedded := false, tag := "", pkgPath := "", byteOffset := 44 }]), size := 11, bytes := 48, zero := (Go.Value.agg #[Go.Value.int Go.IntKind.u64 0, Go.Value.int Go.IntKind.u64 0, Go.Value.int Go.IntKind.u32 0, Go.Value.int Go.IntKind.u8 0, Go.Value.int Go.IntKind.u8 0, Go.Value.int Go.IntKind.u8 0, Go.Value.int Go.IntKind.u8 0, Go.Value.nilFunc, Go.Value.pointer none, Go.Value.int Go.IntKind.i32 0, Go.Value.int Go.IntKind.i32 0]) }
theorem tok380 : TOk Tryz.prog 380 ti380 := ⟨Tryz.underlying380, Tryz.t380, by kernel_rfl, rfl, rfl, rfl⟩
def ti381 : TI := { desc := (Go.TypeDesc.struct #[{ name := "Size_", type := 12, offset := 0, embedded := false, tag := "", pkgPath := "", byteOffset := 0 }, { name := "PtrBytes", type := 12, offset := 1, embedded := false, tag := "", pkgPath := "", byteOffset := 8 }, { name := "Hash", type := 373, offset := 2, embedded := false, tag := "", pkgPath := "", byteOffset := 16 }, { name := "TFlag", type := 374, offset := 3, embedded := false, tag := "", pkgPath := "", byteOffset := 20 }, { name := "Align_", type := 5, offset := 4, embedded := false, tag := "", pkgPath := "", byteOffset := 21 }, { name := "FieldAlign_", type := 5, offset := 5, embedded := false, tag := "", pkgPath := "", byteOffset := 22 }, { name := "Kind_", type := 375, offset := 6, embedded := false, tag := "", pkgPath := "", byteOffset := 23 }, { name := "Equal", type := 376, offset := 7, embedded := false, tag := "", pkgPath := "", byteOffset := 24 }, { name := "GCData", type := 377, offset := 8, embedded := false, tag := "", pkgPath := "", byteOffset := 32 }, { name := "Str", type := 378, offset := 9, embedded := false, tag := "", pkgPath := "", byteOffset := 40 }, { name := "PtrToThis", type := 379, offset := 10, embedded := false, tag := "", pkgPath := "", byteOffset := 44 }]), size := 11, bytes := 48, zero := (Go.Value.agg #[Go.Value.int Go.IntKind.u64 0, Go.Value.int Go.IntKind.u64 0, Go.Value.int Go.IntKind.u32 0, Go.Value.int Go.IntKind.u8 0, Go.Value.int Go.IntKind.u8 0, Go.Value.int Go.IntKind.u8 0, Go.Value.int Go.IntKind.u8 0, Go.Value.nilFunc, Go.Value.pointer none, Go.Value.int Go.IntKind.i32 0, Go.Value.int Go.IntKind.i32 0]) }
theorem tok381 : TOk Tryz.prog 381 ti381 := ⟨Tryz.underlying381, Tryz.t381, by kernel_rfl, rfl, rfl, rfl⟩
def ti382 : TI := { desc := Go.TypeDesc.unsafePointer, size := 1, bytes := 8, zero := (Go.Value.pointer none) }
theorem tok382 : TOk Tryz.prog 382 ti382 := ⟨Tryz.underlying382, Tryz.t382, by kernel_rfl, rfl, rfl, rfl⟩
def tab : List (TypeId × TI) := [(0, ti0), (1, ti1), (2, ti2), (3, ti3), (4, ti4), (5, ti5), (6, ti6), (7, ti7), (8, ti8), (9, ti9), (10, ti10), (11, ti11), (12, ti12), (13, ti13), (14, ti14), (15, ti15), (16, ti16), (17, ti17), (18, ti18), (19, ti19), (20, ti20), (21, ti21), (22, ti22), (23, ti23), (24, ti24), (25, ti25), (26, ti26), (27, ti27), (28, ti28), (29, ti29), (30, ti30), (31, ti31), (32, ti32), (33, ti33), (34, ti34), (35, ti35), (36, ti36), (37, ti37), (38, ti38), (39, ti39), (40, ti40), (41, ti41), (42, ti42), (43, ti43), (44, ti44), (45, ti45), (46, ti46), (47, ti47), (48, ti48), (49, ti49), (50, ti50), (51, ti51), (52, ti52), (53, ti53), (54, ti54), (55, ti55), (56, ti56), (57, ti57), (58, ti58), (59, ti59), (60, ti60), (61, ti61), (62, ti62), (63, ti63), (64, ti64), (65, ti65), (66, ti66), (67, ti67), (68, ti68), (69, ti69), (70, ti70), (71, ti71), (72, ti72), (73, ti73), (74, ti74), (75, ti75), (76, ti76), (77, ti77), (78, ti78), (79, ti79), (80, ti80), (81, ti81), (82, ti82), (83, ti83), (84, ti84), (85, ti85), (86, ti86), (87, ti87), (88, ti88), (89, ti89), (90, ti90), (91, ti91), (92, ti92), (93, ti93), (94, ti94), (95, ti95), (96, ti96), (97, ti97), (98, ti98), (99, ti99), (100, ti100), (101, ti101), (102, ti102), (103, ti103), (104, ti104), (105, ti105), (106, ti106), (107, ti107), (108, ti108), (109, ti109), (110, ti110), (111, ti111), (112, ti112), (113, ti113), (114, ti114), (115, ti115), (116, ti116), (117, ti117), (118, ti118), (119, ti119), (120, ti120), (121, ti121), (122, ti122), (123, ti123), (124, ti124), (125, ti125), (126, ti126), (127, ti127), (128, ti128), (129, ti129), (130, ti130), (131, ti131), (132, ti132), (133, ti133), (134, ti134), (135, ti135), (136, ti136), (137, ti137), (138, ti138), (139, ti139), (140, ti140), (141, ti141), (142, ti142), (143, ti143), (144, ti144), (145, ti145), (146, ti146), (147, ti147), (148, ti148), (149, ti149), (150, ti150), (151, ti151), (152, ti152), (153, ti153), (154, ti154), (155, ti155), (156, ti156), (157, ti157), (158, ti158), (159, ti159), (160, ti160), (161, ti161), (162, ti162), (163, ti163), (164, ti164), (165, ti165), (166, ti166), (167, ti167), (168, ti168), (169, ti169), (170, ti170), (171, ti171), (172, ti172), (173, ti173), (174, ti174), (175, ti175), (176, ti176), (177, ti177), (178, ti178), (179, ti179), (180, ti180), (181, ti181), (182, ti182), (183, ti183), (184, ti184), (185, ti185), (186, ti186), (187, ti187), (188, ti188), (189, ti189), (190, ti190), (191, ti191), (192, ti192), (193, ti193), (194, ti194), (195, ti195), (196, ti196), (197, ti197), (198, ti198), (199, ti199), (200, ti200), (201, ti201), (202, ti202), (203, ti203), (204, ti204), (205, ti205), (206, ti206), (207, ti207), (208, ti208), (209, ti209), (210, ti210), (211, ti211), (212, ti212), (213, ti213), (214, ti214), (215, ti215), (216, ti216), (217, ti217), (218, ti218), (219, ti219), (220, ti220), (221, ti221), (222, ti222), (223, ti223), (224, ti224), (225, ti225), (226, ti226), (227, ti227), (228, ti228), (229, ti229), (230, ti230), (231, ti231), (232, ti232), (233, ti233), (234, ti234), (235, ti235), (236, ti236), (237, ti237), (238, ti238), (239, ti239), (240, ti240), (241, ti241), (242, ti242), (243, ti243), (244, ti244), (245, ti245), (246, ti246), (247, ti247), (248, ti248), (249, ti249), (250, ti250), (251, ti251), (252, ti252), (253, ti253), (254, ti254), (255, ti255), (256, ti256), (257, ti257), (258, ti258), (259, ti259), (260, ti260), (261, ti261), (262, ti262), (263, ti263), (264, ti264), (265, ti265), (266, ti266), (267, ti267), (268, ti268), (269, ti269), (270, ti270), (271, ti271), (272, ti272), (273, ti273), (274, ti274), (275, ti275), (276, ti276), (277, ti277), (278, ti278), (279, ti279), (280, ti280), (281, ti281), (282, ti282), (283, ti283), (284, ti284), (285, ti285), (286, ti286), (287, ti287), (288, ti288), (289, ti289), (290, ti290), (291, ti291), (292, ti292), (293, ti293), (294, ti294), (295, ti295), (296, ti296), (297, ti297), (298, ti298), (299, ti299), (300, ti300), (301, ti301), (302, ti302), (303, ti303), (304, ti304), (305, ti305), (306, ti306), (307, ti307), (308, ti308), (309, ti309), (310, ti310), (311, ti311), (312, ti312), (313, ti313), (314, ti314), (315, ti315), (316, ti316), (317, ti317), (318, ti318), (319, ti319), (320, ti320), (321, ti321), (322, ti322), (323, ti323), (324, ti324), (325, ti325), (326, ti326), (327, ti327), (328, ti328), (329, ti329), (330, ti330), (331, ti331), (332, ti332), (333, ti333), (334, ti334), (335, ti335), (336, ti336), (337, ti337), (338, ti338), (339, ti339), (340, ti340), (341, ti341), (342, ti342), (343, ti343), (344, ti344), (345, ti345), (346, ti346), (347, ti347), (348, ti348), (349, ti349), (350, ti350), (351, ti351), (352, ti352), (353, ti353), (354, ti354), (355, ti355), (356, ti356), (357, ti357), (358, ti358), (359, ti359), (360, ti360), (361, ti361), (362, ti362), (363, ti363), (364, ti364), (365, ti365), (366, ti366), (367, ti367), (368, ti368), (369, ti369), (370, ti370), (371, ti371), (372, ti372), (373, ti373), (374, ti374), (375, ti375), (376, ti376), (377, ti377), (378, ti378), (379, ti379), (380, ti380), (381, ti381), (382, ti382)]
set_option maxRecDepth 100000 in
theorem tabOk : AllT Tryz.prog tab := .cons tok0 (.cons tok1 (.cons tok2 (.cons tok3 (.cons tok4 (.cons tok5 (.cons tok6 (.cons tok7 (.cons tok8 (.cons tok9 (.cons tok10 (.cons tok11 (.cons tok12 (.cons tok13 (.cons tok14 (.cons tok15 (.cons tok16 (.cons tok17 (.cons tok18 (.cons tok19 (.cons tok20 (.cons tok21 (.cons tok22 (.cons tok23 (.cons tok24 (.cons tok25 (.cons tok26 (.cons tok27 (.cons tok28 (.cons tok29 (.cons tok30 (.cons tok31 (.cons tok32 (.cons tok33 (.cons tok34 (.cons tok35 (.cons tok36 (.cons tok37 (.cons tok38 (.cons tok39 (.cons tok40 (.cons tok41 (.cons tok42 (.cons tok43 (.cons tok44 (.cons tok45 (.cons tok46 (.cons tok47 (.cons tok48 (.cons tok49 (.cons tok50 (.cons tok51 (.cons tok52 (.cons tok53 (.cons tok54 (.cons tok55 (.cons tok56 (.cons tok57 (.cons tok58 (.cons tok59 (.cons tok60 (.cons tok61 (.cons tok62 (.cons tok63 (.cons tok64 (.cons tok65 (.cons tok66 (.cons tok67 (.cons tok68 (.cons tok69 (.cons tok70 (.cons tok71 (.cons tok72 (.cons tok73 (.cons tok74 (.cons tok75 (.cons tok76 (.cons tok77 (.cons tok78 (.cons tok79 (.cons tok80 (.cons tok81 (.cons tok82 (.cons tok83 (.cons tok84 (.cons tok85 (.cons tok86 (.cons tok87 (.cons tok88 (.cons tok89 (.cons tok90 (.cons tok91 (.cons tok92 (.cons tok93 (.cons tok94 (.cons tok95 (.cons tok96 (.cons tok97 (.cons tok98 (.cons tok99 (.cons tok100 (.cons tok101 (.cons tok102 (.cons tok103 (.cons tok104 (.cons tok105 (.cons tok106 (.cons tok107 (.cons tok108 (.cons tok109 (.cons tok110 (.cons tok111 (.cons tok112 (.cons tok113 (.cons tok114 (.cons tok115 (.cons tok116 (.cons tok117 (.cons tok118 (.cons tok119 (.cons tok120 (.cons tok121 (.cons tok122 (.cons tok123 (.cons tok124 (.cons tok125 (.cons tok126 (.cons tok127 (.cons tok128 (.cons tok129 (.cons tok130 (.cons tok131 (.cons tok132 (.cons tok133 (.cons tok134 (.cons tok135 (.cons tok136 (.cons tok137 (.cons tok138 (.cons tok139 (.cons tok140 (.cons tok141 (.cons tok142 (.cons tok143 (.cons tok144 (.cons tok145 (.cons tok146 (.cons tok147 (.cons tok148 (.cons tok149 (.cons tok150 (.cons tok151 (.cons tok152 (.cons tok153 (.cons tok154 (.cons tok155 (.cons tok156 (.cons tok157 (.cons tok158 (.cons tok159 (.cons tok160 (.cons tok161 (.cons tok162 (.cons tok163 (.cons tok164 (.cons tok165 (.cons tok166 (.cons tok167 (.cons tok168 (.cons tok169 (.cons tok170 (.cons tok171 (.cons tok172 (.cons tok173 (.cons tok174 (.cons tok175 (.cons tok176 (.cons tok177 (.cons tok178 (.cons tok179 (.cons tok180 (.cons tok181 (.cons tok182 (.cons tok183 (.cons tok184 (.cons tok185 (.cons tok186 (.cons tok187 (.cons tok188 (.cons tok189 (.cons tok190 (.cons tok191 (.cons tok192 (.cons tok193 (.cons tok194 (.cons tok195 (.cons tok196 (.cons tok197 (.cons tok198 (.cons tok199 (.cons tok200 (.cons tok201 (.cons tok202 (.cons tok203 (.cons tok204 (.cons tok205 (.cons tok206 (.cons tok207 (.cons tok208 (.cons tok209 (.cons tok210 (.cons tok211 (.cons tok212 (.cons tok213 (.cons tok214 (.cons tok215 (.cons tok216 (.cons tok217 (.cons tok218 (.cons tok219 (.cons tok220 (.cons tok221 (.cons tok222 (.cons tok223 (.cons tok224 (.cons tok225 (.cons tok226 (.cons tok227 (.cons tok228 (.cons tok229 (.cons tok230 (.cons tok231 (.cons tok232 (.cons tok233 (.cons tok234 (.cons tok235 (.cons tok236 (.cons tok237 (.cons tok238 (.cons tok239 (.cons tok240 (.cons tok241 (.cons tok242 (.cons tok243 (.cons tok244 (.cons tok245 (.cons tok246 (.cons tok247 (.cons tok248 (.cons tok249 (.cons tok250 (.cons tok251 (.cons tok252 (.cons tok253 (.cons tok254 (.cons tok255 (.cons tok256 (.cons tok257 (.cons tok258 (.cons tok259 (.cons tok260 (.cons tok261 (.cons tok262 (.cons tok263 (.cons tok264 (.cons tok265 (.cons tok266 (.cons tok267 (.cons tok268 (.cons tok269 (.cons tok270 (.cons tok271 (.cons tok272 (.cons tok273 (.cons tok274 (.cons tok275 (.cons tok276 (.cons tok277 (.cons tok278 (.cons tok279 (.cons tok280 (.cons tok281 (.cons tok282 (.cons tok283 (.cons tok284 (.cons tok285 (.cons tok286 (.cons tok287 (.cons tok288 (.cons tok289 (.cons tok290 (.cons tok291 (.cons tok292 (.cons tok293 (.cons tok294 (.cons tok295 (.cons tok296 (.cons tok297 (.cons tok298 (.cons tok299 (.cons tok300 (.cons tok301 (.cons tok302 (.cons tok303 (.cons tok304 (.cons tok305 (.cons tok306 (.cons tok307 (.cons tok308 (.cons tok309 (.cons tok310 (.cons tok311 (.cons tok312 (.cons tok313 (.cons tok314 (.cons tok315 (.cons tok316 (.cons tok317 (.cons tok318 (.cons tok319 (.cons tok320 (.cons tok321 (.cons tok322 (.cons tok323 (.cons tok324 (.cons tok325 (.cons tok326 (.cons tok327 (.cons tok328 (.cons tok329 (.cons tok330 (.cons tok331 (.cons tok332 (.cons tok333 (.cons tok334 (.cons tok335 (.cons tok336 (.cons tok337 (.cons tok338 (.cons tok339 (.cons tok340 (.cons tok341 (.cons tok342 (.cons tok343 (.cons tok344 (.cons tok345 (.cons tok346 (.cons tok347 (.cons tok348 (.cons tok349 (.cons tok350 (.cons tok351 (.cons tok352 (.cons tok353 (.cons tok354 (.cons tok355 (.cons tok356 (.cons tok357 (.cons tok358 (.cons tok359 (.cons tok360 (.cons tok361 (.cons tok362 (.cons tok363 (.cons tok364 (.cons tok365 (.cons tok366 (.cons tok367 (.cons tok368 (.cons tok369 (.cons tok370 (.cons tok371 (.cons tok372 (.cons tok373 (.cons tok374 (.cons tok375 (.cons tok376 (.cons tok377 (.cons tok378 (.cons tok379 (.cons tok380 (.cons tok381 (.cons tok382 (.nil)))))))))))))))))))))))))))))))))))))))))))))))))))))))))))))))))))))))))))))))))))))))))))))))))))))))))))))))))))))))))))))))))))))))))))))))))))))))))))))))))))))))))))))))))))))))))))))))))))))))))))))))))))))))))))))))))))))))))))))))))))))))))))))))))))))))))))))))))))))))))))))))))))))))))))))))))))))))))))))))))))))))))))))))))))))))))))))))))))))))))))))))))))))))))))))))
noncomputable def X : Prg := { P := Tryz.prog, tab := tab, tok := tabOk.lkT }
end Go.Proofs.YtpmhiiemklhbhaaGreat.S
