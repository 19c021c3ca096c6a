/- The types of the program, as a table. -/
import Derived.Test.YtlginjmkmfodmaaDoorSF
import Derived.Test.YtlginjmkmfodmaaDoorProg
import Derived.KernelRfl
namespace Go.Proofs.YtlginjmkmfodmaaDoor.S
open Go Go.Sm
def ti0 : TI := { desc := (Go.TypeDesc.tuple #[]), size := 1, bytes := 0, zero := (Go.Value.tuple #[]) }
theorem tok0 : TOk Tryd.prog 0 ti0 := ⟨Tryd.underlying0, Tryd.t0, by kernel_rfl, rfl, rfl, rfl⟩
def ti1 : TI := { desc := (Go.TypeDesc.func #[] #[] false), size := 1, bytes := 8, zero := Go.Value.nilFunc }
theorem tok1 : TOk Tryd.prog 1 ti1 := ⟨Tryd.underlying1, Tryd.t1, by kernel_rfl, rfl, rfl, rfl⟩
def ti2 : TI := { desc := (Go.TypeDesc.int Go.IntKind.i64), size := 1, bytes := 8, zero := (Go.Value.int Go.IntKind.i64 0) }
theorem tok2 : TOk Tryd.prog 2 ti2 := ⟨Tryd.underlying2, Tryd.t2, by kernel_rfl, rfl, rfl, rfl⟩
def ti3 : TI := { desc := (Go.TypeDesc.int Go.IntKind.i64), size := 1, bytes := 8, zero := (Go.Value.int Go.IntKind.i64 0) }
theorem tok3 : TOk Tryd.prog 3 ti3 := ⟨Tryd.underlying3, Tryd.t3, by kernel_rfl, rfl, rfl, rfl⟩
def ti4 : TI := { desc := Go.TypeDesc.bool, size := 1, bytes := 1, zero := (Go.Value.bool false) }
theorem tok4 : TOk Tryd.prog 4 ti4 := ⟨Tryd.underlying4, Tryd.t4, by kernel_rfl, rfl, rfl, rfl⟩
def ti5 : TI := { desc := (Go.TypeDesc.int Go.IntKind.u8), size := 1, bytes := 1, zero := (Go.Value.int Go.IntKind.u8 0) }
theorem tok5 : TOk Tryd.prog 5 ti5 := ⟨Tryd.underlying5, Tryd.t5, by kernel_rfl, rfl, rfl, rfl⟩
def ti6 : TI := { desc := (Go.TypeDesc.int Go.IntKind.u8), size := 1, bytes := 1, zero := (Go.Value.int Go.IntKind.u8 0) }
theorem tok6 : TOk Tryd.prog 6 ti6 := ⟨Tryd.underlying6, Tryd.t6, by kernel_rfl, rfl, rfl, rfl⟩
def ti7 : TI := { desc := (Go.TypeDesc.struct #[{ name := "x", type := 2, offset := 0, embedded := false, tag := "", pkgPath := "runtime", byteOffset := 0 }, { name := "y", type := 3, offset := 1, embedded := false, tag := "", pkgPath := "runtime", byteOffset := 8 }, { name := "signed", type := 4, offset := 2, embedded := false, tag := "", pkgPath := "runtime", byteOffset := 16 }, { name := "code", type := 6, offset := 3, embedded := false, tag := "", pkgPath := "runtime", byteOffset := 17 }]), size := 4, bytes := 24, zero := (Go.Value.agg #[Go.Value.int Go.IntKind.i64 0, Go.Value.int Go.IntKind.i64 0, Go.Value.bool false, Go.Value.int Go.IntKind.u8 0]) }
theorem tok7 : TOk Tryd.prog 7 ti7 := ⟨Tryd.underlying7, Tryd.t7, by kernel_rfl, rfl, rfl, rfl⟩
def ti8 : TI := { desc := (Go.TypeDesc.struct #[{ name := "x", type := 2, offset := 0, embedded := false, tag := "", pkgPath := "runtime", byteOffset := 0 }, { name := "y", type := 3, offset := 1, embedded := false, tag := "", pkgPath := "runtime", byteOffset := 8 }, { name := "signed", type := 4, offset := 2, embedded := false, tag := "", pkgPath := "runtime", byteOffset := 16 }, { name := "code", type := 6, offset := 3, embedded := false, tag := "", pkgPath := "runtime", byteOffset := 17 }]), size := 4, bytes := 24, zero := (Go.Value.agg #[Go.Value.int Go.IntKind.i64 0, Go.Value.int Go.IntKind.i64 0, Go.Value.bool false, Go.Value.int Go.IntKind.u8 0]) }
theorem tok8 : TOk Tryd.prog 8 ti8 := ⟨Tryd.underlying8, Tryd.t8, by kernel_rfl, rfl, rfl, rfl⟩
def ti9 : TI := { desc := Go.TypeDesc.string, size := 1, bytes := 16, zero := (Go.Value.string { data := #[] }) }
theorem tok9 : TOk Tryd.prog 9 ti9 := ⟨Tryd.underlying9, Tryd.t9, by kernel_rfl, rfl, rfl, rfl⟩
def ti10 : TI := { desc := Go.TypeDesc.string, size := 1, bytes := 16, zero := (Go.Value.string { data := #[] }) }
theorem tok10 : TOk Tryd.prog 10 ti10 := ⟨Tryd.underlying10, Tryd.t10, by kernel_rfl, rfl, rfl, rfl⟩
def ti11 : TI := { desc := Go.TypeDesc.string, size := 1, bytes := 16, zero := (Go.Value.string { data := #[] }) }
theorem tok11 : TOk Tryd.prog 11 ti11 := ⟨Tryd.underlying11, Tryd.t11, by kernel_rfl, rfl, rfl, rfl⟩
def ti12 : TI := { desc := (Go.TypeDesc.int Go.IntKind.u64), size := 1, bytes := 8, zero := (Go.Value.int Go.IntKind.u64 0) }
theorem tok12 : TOk Tryd.prog 12 ti12 := ⟨Tryd.underlying12, Tryd.t12, by kernel_rfl, rfl, rfl, rfl⟩
def ti13 : TI := { desc := (Go.TypeDesc.struct #[{ name := "msg", type := 9, offset := 0, embedded := false, tag := "", pkgPath := "runtime", byteOffset := 0 }, { name := "addr", type := 12, offset := 1, embedded := false, tag := "", pkgPath := "runtime", byteOffset := 16 }]), size := 2, bytes := 24, zero := (Go.Value.agg #[Go.Value.string { data := #[] }, Go.Value.int Go.IntKind.u64 0]) }
theorem tok13 : TOk Tryd.prog 13 ti13 := ⟨Tryd.underlying13, Tryd.t13, by kernel_rfl, rfl, rfl, rfl⟩
def ti14 : TI := { desc := (Go.TypeDesc.struct #[{ name := "msg", type := 9, offset := 0, embedded := false, tag := "", pkgPath := "runtime", byteOffset := 0 }, { name := "addr", type := 12, offset := 1, embedded := false, tag := "", pkgPath := "runtime", byteOffset := 16 }]), size := 2, bytes := 24, zero := (Go.Value.agg #[Go.Value.string { data := #[] }, Go.Value.int Go.IntKind.u64 0]) }
theorem tok14 : TOk Tryd.prog 14 ti14 := ⟨Tryd.underlying14, Tryd.t14, by kernel_rfl, rfl, rfl, rfl⟩
def ti15 : TI := { desc := (Go.TypeDesc.pointer 72), size := 1, bytes := 8, zero := (Go.Value.pointer none) }
theorem tok15 : TOk Tryd.prog 15 ti15 := ⟨Tryd.underlying15, Tryd.t15, by kernel_rfl, rfl, rfl, rfl⟩
def ti16 : TI := { desc := (Go.TypeDesc.pointer 75), size := 1, bytes := 8, zero := (Go.Value.pointer none) }
theorem tok16 : TOk Tryd.prog 16 ti16 := ⟨Tryd.underlying16, Tryd.t16, by kernel_rfl, rfl, rfl, rfl⟩
def ti17 : TI := { desc := (Go.TypeDesc.pointer 84), size := 1, bytes := 8, zero := (Go.Value.pointer none) }
theorem tok17 : TOk Tryd.prog 17 ti17 := ⟨Tryd.underlying17, Tryd.t17, by kernel_rfl, rfl, rfl, rfl⟩
def ti18 : TI := { desc := (Go.TypeDesc.struct #[{ name := "typ", type := 17, offset := 0, embedded := false, tag := "", pkgPath := "internal/runtime/maps", byteOffset := 0 }]), size := 1, bytes := 8, zero := (Go.Value.agg #[Go.Value.pointer none]) }
theorem tok18 : TOk Tryd.prog 18 ti18 := ⟨Tryd.underlying18, Tryd.t18, by kernel_rfl, rfl, rfl, rfl⟩
def ti19 : TI := { desc := (Go.TypeDesc.struct #[{ name := "typ", type := 17, offset := 0, embedded := false, tag := "", pkgPath := "internal/runtime/maps", byteOffset := 0 }]), size := 1, bytes := 8, zero := (Go.Value.agg #[Go.Value.pointer none]) }
theorem tok19 : TOk Tryd.prog 19 ti19 := ⟨Tryd.underlying19, Tryd.t19, by kernel_rfl, rfl, rfl, rfl⟩
def ti20 : TI := { desc := (Go.TypeDesc.interface #[]), size := 1, bytes := 16, zero := Go.Value.nilIface }
theorem tok20 : TOk Tryd.prog 20 ti20 := ⟨Tryd.underlying20, Tryd.t20, by kernel_rfl, rfl, rfl, rfl⟩
def ti21 : TI := { desc := (Go.TypeDesc.int Go.IntKind.i32), size := 1, bytes := 4, zero := (Go.Value.int Go.IntKind.i32 0) }
theorem tok21 : TOk Tryd.prog 21 ti21 := ⟨Tryd.underlying21, Tryd.t21, by kernel_rfl, rfl, rfl, rfl⟩
def ti22 : TI := { desc := (Go.TypeDesc.func #[9, 3] #[9] false), size := 1, bytes := 8, zero := Go.Value.nilFunc }
theorem tok22 : TOk Tryd.prog 22 ti22 := ⟨Tryd.underlying22, Tryd.t22, by kernel_rfl, rfl, rfl, rfl⟩
def ti23 : TI := { desc := (Go.TypeDesc.slice 3), size := 1, bytes := 24, zero := (Go.Value.slice none 0 0) }
theorem tok23 : TOk Tryd.prog 23 ti23 := ⟨Tryd.underlying23, Tryd.t23, by kernel_rfl, rfl, rfl, rfl⟩
def ti24 : TI := { desc := (Go.TypeDesc.int Go.IntKind.i64), size := 1, bytes := 8, zero := (Go.Value.int Go.IntKind.i64 0) }
theorem tok24 : TOk Tryd.prog 24 ti24 := ⟨Tryd.underlying24, Tryd.t24, by kernel_rfl, rfl, rfl, rfl⟩
def ti25 : TI := { desc := (Go.TypeDesc.tuple #[23, 24]), size := 1, bytes := 0, zero := (Go.Value.tuple #[Go.Value.slice none 0 0, Go.Value.int Go.IntKind.i64 0]) }
theorem tok25 : TOk Tryd.prog 25 ti25 := ⟨Tryd.underlying25, Tryd.t25, by kernel_rfl, rfl, rfl, rfl⟩
def ti26 : TI := { desc := (Go.TypeDesc.func #[9] #[23, 24] false), size := 1, bytes := 8, zero := Go.Value.nilFunc }
theorem tok26 : TOk Tryd.prog 26 ti26 := ⟨Tryd.underlying26, Tryd.t26, by kernel_rfl, rfl, rfl, rfl⟩
def ti27 : TI := { desc := (Go.TypeDesc.func #[23, 23] #[4] false), size := 1, bytes := 8, zero := Go.Value.nilFunc }
theorem tok27 : TOk Tryd.prog 27 ti27 := ⟨Tryd.underlying27, Tryd.t27, by kernel_rfl, rfl, rfl, rfl⟩
def ti28 : TI := { desc := (Go.TypeDesc.func #[23] #[9] false), size := 1, bytes := 8, zero := Go.Value.nilFunc }
theorem tok28 : TOk Tryd.prog 28 ti28 := ⟨Tryd.underlying28, Tryd.t28, by kernel_rfl, rfl, rfl, rfl⟩
def ti29 : TI := { desc := (Go.TypeDesc.func #[] #[4] false), size := 1, bytes := 8, zero := Go.Value.nilFunc }
theorem tok29 : TOk Tryd.prog 29 ti29 := ⟨Tryd.underlying29, Tryd.t29, by kernel_rfl, rfl, rfl, rfl⟩
def ti30 : TI := { desc := (Go.TypeDesc.func #[9] #[4] false), size := 1, bytes := 8, zero := Go.Value.nilFunc }
theorem tok30 : TOk Tryd.prog 30 ti30 := ⟨Tryd.underlying30, Tryd.t30, by kernel_rfl, rfl, rfl, rfl⟩
def ti31 : TI := { desc := (Go.TypeDesc.func #[3] #[4] false), size := 1, bytes := 8, zero := Go.Value.nilFunc }
theorem tok31 : TOk Tryd.prog 31 ti31 := ⟨Tryd.underlying31, Tryd.t31, by kernel_rfl, rfl, rfl, rfl⟩
def ti32 : TI := { desc := (Go.TypeDesc.func #[23] #[4] false), size := 1, bytes := 8, zero := Go.Value.nilFunc }
theorem tok32 : TOk Tryd.prog 32 ti32 := ⟨Tryd.underlying32, Tryd.t32, by kernel_rfl, rfl, rfl, rfl⟩
def ti33 : TI := { desc := (Go.TypeDesc.func #[3] #[9] false), size := 1, bytes := 8, zero := Go.Value.nilFunc }
theorem tok33 : TOk Tryd.prog 33 ti33 := ⟨Tryd.underlying33, Tryd.t33, by kernel_rfl, rfl, rfl, rfl⟩
def ti34 : TI := { desc := (Go.TypeDesc.func #[5] #[3] false), size := 1, bytes := 8, zero := Go.Value.nilFunc }
theorem tok34 : TOk Tryd.prog 34 ti34 := ⟨Tryd.underlying34, Tryd.t34, by kernel_rfl, rfl, rfl, rfl⟩
def ti35 : TI := { desc := (Go.TypeDesc.func #[3, 5] #[4] false), size := 1, bytes := 8, zero := Go.Value.nilFunc }
theorem tok35 : TOk Tryd.prog 35 ti35 := ⟨Tryd.underlying35, Tryd.t35, by kernel_rfl, rfl, rfl, rfl⟩
def ti36 : TI := { desc := (Go.TypeDesc.slice 5), size := 1, bytes := 24, zero := (Go.Value.slice none 0 0) }
theorem tok36 : TOk Tryd.prog 36 ti36 := ⟨Tryd.underlying36, Tryd.t36, by kernel_rfl, rfl, rfl, rfl⟩
def ti37 : TI := { desc := (Go.TypeDesc.tuple #[3, 3]), size := 1, bytes := 0, zero := (Go.Value.tuple #[Go.Value.int Go.IntKind.i64 0, Go.Value.int Go.IntKind.i64 0]) }
theorem tok37 : TOk Tryd.prog 37 ti37 := ⟨Tryd.underlying37, Tryd.t37, by kernel_rfl, rfl, rfl, rfl⟩
def ti38 : TI := { desc := (Go.TypeDesc.func #[9] #[3, 3] false), size := 1, bytes := 8, zero := Go.Value.nilFunc }
theorem tok38 : TOk Tryd.prog 38 ti38 := ⟨Tryd.underlying38, Tryd.t38, by kernel_rfl, rfl, rfl, rfl⟩
def ti39 : TI := { desc := (Go.TypeDesc.func #[36, 3] #[3] false), size := 1, bytes := 8, zero := Go.Value.nilFunc }
theorem tok39 : TOk Tryd.prog 39 ti39 := ⟨Tryd.underlying39, Tryd.t39, by kernel_rfl, rfl, rfl, rfl⟩
def ti40 : TI := { desc := (Go.TypeDesc.func #[9, 3] #[3, 3] false), size := 1, bytes := 8, zero := Go.Value.nilFunc }
theorem tok40 : TOk Tryd.prog 40 ti40 := ⟨Tryd.underlying40, Tryd.t40, by kernel_rfl, rfl, rfl, rfl⟩
def ti41 : TI := { desc := (Go.TypeDesc.pointer 43), size := 1, bytes := 8, zero := (Go.Value.pointer none) }
theorem tok41 : TOk Tryd.prog 41 ti41 := ⟨Tryd.underlying41, Tryd.t41, by kernel_rfl, rfl, rfl, rfl⟩
def ti42 : TI := { desc := (Go.TypeDesc.struct #[{ name := "addr", type := 41, offset := 0, embedded := false, tag := "", pkgPath := "strings", byteOffset := 0 }, { name := "buf", type := 36, offset := 1, embedded := false, tag := "", pkgPath := "strings", byteOffset := 8 }]), size := 2, bytes := 32, zero := (Go.Value.agg #[Go.Value.pointer none, Go.Value.slice none 0 0]) }
theorem tok42 : TOk Tryd.prog 42 ti42 := ⟨Tryd.underlying42, Tryd.t42, by kernel_rfl, rfl, rfl, rfl⟩
def ti43 : TI := { desc := (Go.TypeDesc.struct #[{ name := "addr", type := 41, offset := 0, embedded := false, tag := "", pkgPath := "strings", byteOffset := 0 }, { name := "buf", type := 36, offset := 1, embedded := false, tag := "", pkgPath := "strings", byteOffset := 8 }]), size := 2, bytes := 32, zero := (Go.Value.agg #[Go.Value.pointer none, Go.Value.slice none 0 0]) }
theorem tok43 : TOk Tryd.prog 43 ti43 := ⟨Tryd.underlying43, Tryd.t43, by kernel_rfl, rfl, rfl, rfl⟩
def ti44 : TI := { desc := (Go.TypeDesc.interface #[("Error", 48)]), size := 1, bytes := 16, zero := Go.Value.nilIface }
theorem tok44 : TOk Tryd.prog 44 ti44 := ⟨Tryd.underlying44, Tryd.t44, by kernel_rfl, rfl, rfl, rfl⟩
def ti45 : TI := { desc := (Go.TypeDesc.interface #[("Error", 48)]), size := 1, bytes := 16, zero := Go.Value.nilIface }
theorem tok45 : TOk Tryd.prog 45 ti45 := ⟨Tryd.underlying45, Tryd.t45, by kernel_rfl, rfl, rfl, rfl⟩
def ti46 : TI := { desc := (Go.TypeDesc.tuple #[3, 45]), size := 1, bytes := 0, zero := (Go.Value.tuple #[Go.Value.int Go.IntKind.i64 0, Go.Value.nilIface]) }
theorem tok46 : TOk Tryd.prog 46 ti46 := ⟨Tryd.underlying46, Tryd.t46, by kernel_rfl, rfl, rfl, rfl⟩
def ti47 : TI := { desc := (Go.TypeDesc.func #[9] #[3, 45] false), size := 1, bytes := 8, zero := Go.Value.nilFunc }
theorem tok47 : TOk Tryd.prog 47 ti47 := ⟨Tryd.underlying47, Tryd.t47, by kernel_rfl, rfl, rfl, rfl⟩
def ti48 : TI := { desc := (Go.TypeDesc.func #[] #[9] false), size := 1, bytes := 8, zero := Go.Value.nilFunc }
theorem tok48 : TOk Tryd.prog 48 ti48 := ⟨Tryd.underlying48, Tryd.t48, by kernel_rfl, rfl, rfl, rfl⟩
def ti49 : TI := { desc := (Go.TypeDesc.func #[3] #[36] false), size := 1, bytes := 8, zero := Go.Value.nilFunc }
theorem tok49 : TOk Tryd.prog 49 ti49 := ⟨Tryd.underlying49, Tryd.t49, by kernel_rfl, rfl, rfl, rfl⟩
def ti50 : TI := { desc := (Go.TypeDesc.struct #[{ name := "key", type := 3, offset := 0, embedded := false, tag := "", pkgPath := "damier/keys", byteOffset := 0 }, { name := "text", type := 9, offset := 1, embedded := false, tag := "", pkgPath := "damier/keys", byteOffset := 8 }]), size := 2, bytes := 24, zero := (Go.Value.agg #[Go.Value.int Go.IntKind.i64 0, Go.Value.string { data := #[] }]) }
theorem tok50 : TOk Tryd.prog 50 ti50 := ⟨Tryd.underlying50, Tryd.t50, by kernel_rfl, rfl, rfl, rfl⟩
def ti51 : TI := { desc := (Go.TypeDesc.struct #[{ name := "key", type := 3, offset := 0, embedded := false, tag := "", pkgPath := "damier/keys", byteOffset := 0 }, { name := "text", type := 9, offset := 1, embedded := false, tag := "", pkgPath := "damier/keys", byteOffset := 8 }]), size := 2, bytes := 24, zero := (Go.Value.agg #[Go.Value.int Go.IntKind.i64 0, Go.Value.string { data := #[] }]) }
theorem tok51 : TOk Tryd.prog 51 ti51 := ⟨Tryd.underlying51, Tryd.t51, by kernel_rfl, rfl, rfl, rfl⟩
def ti52 : TI := { desc := (Go.TypeDesc.array 12 51), size := 24, bytes := 288, zero := (Go.Value.agg #[Go.Value.int Go.IntKind.i64 0, Go.Value.string { data := #[] }, Go.Value.int Go.IntKind.i64 0, Go.Value.string { data := #[] }, Go.Value.int Go.IntKind.i64 0, Go.Value.string { data := #[] }, Go.Value.int Go.IntKind.i64 0, Go.Value.string { data := #[] }, Go.Value.int Go.IntKind.i64 0, Go.Value.string { data := #[] }, Go.Value.int Go.IntKind.i64 0, Go.Value.string { data := #[] }, Go.Value.int Go.IntKind.i64 0, Go.Value.string { data := #[] }, Go.Value.int Go.IntKind.i64 0, Go.Value.string { data := #[] }, Go.Value.int Go.IntKind.i64 0, Go.Value.string { data := #[] }, Go.Value.int Go.IntKind.i64 0, Go.Value.string { data := #[] }, Go.Value.int Go.IntKind.i64 0, Go.Value.string { data := #[] }, Go.Value.int Go.IntKind.i64 0, Go.Value.string { data := #[] }]) }
theorem tok52 : TOk Tryd.prog 52 ti52 := ⟨Tryd.underlying52, Tryd.t52, by kernel_rfl, rfl, rfl, rfl⟩
def ti53 : TI := { desc := (Go.TypeDesc.slice 9), size := 1, bytes := 24, zero := (Go.Value.slice none 0 0) }
theorem tok53 : TOk Tryd.prog 53 ti53 := ⟨Tryd.underlying53, Tryd.t53, by kernel_rfl, rfl, rfl, rfl⟩
def ti54 : TI := { desc := (Go.TypeDesc.func #[9, 5] #[3] false), size := 1, bytes := 8, zero := Go.Value.nilFunc }
theorem tok54 : TOk Tryd.prog 54 ti54 := ⟨Tryd.underlying54, Tryd.t54, by kernel_rfl, rfl, rfl, rfl⟩
def ti55 : TI := { desc := (Go.TypeDesc.tuple #[9, 4]), size := 1, bytes := 0, zero := (Go.Value.tuple #[Go.Value.string { data := #[] }, Go.Value.bool false]) }
theorem tok55 : TOk Tryd.prog 55 ti55 := ⟨Tryd.underlying55, Tryd.t55, by kernel_rfl, rfl, rfl, rfl⟩
def ti56 : TI := { desc := (Go.TypeDesc.func #[9, 9] #[9, 4] false), size := 1, bytes := 8, zero := Go.Value.nilFunc }
theorem tok56 : TOk Tryd.prog 56 ti56 := ⟨Tryd.underlying56, Tryd.t56, by kernel_rfl, rfl, rfl, rfl⟩
def ti57 : TI := { desc := (Go.TypeDesc.func #[36, 3] #[4] false), size := 1, bytes := 8, zero := Go.Value.nilFunc }
theorem tok57 : TOk Tryd.prog 57 ti57 := ⟨Tryd.underlying57, Tryd.t57, by kernel_rfl, rfl, rfl, rfl⟩
def ti58 : TI := { desc := (Go.TypeDesc.func #[36] #[3, 3] false), size := 1, bytes := 8, zero := Go.Value.nilFunc }
theorem tok58 : TOk Tryd.prog 58 ti58 := ⟨Tryd.underlying58, Tryd.t58, by kernel_rfl, rfl, rfl, rfl⟩
def ti59 : TI := { desc := (Go.TypeDesc.func #[9, 3] #[4] false), size := 1, bytes := 8, zero := Go.Value.nilFunc }
theorem tok59 : TOk Tryd.prog 59 ti59 := ⟨Tryd.underlying59, Tryd.t59, by kernel_rfl, rfl, rfl, rfl⟩
def ti60 : TI := { desc := (Go.TypeDesc.pointer 5), size := 1, bytes := 8, zero := (Go.Value.pointer none) }
theorem tok60 : TOk Tryd.prog 60 ti60 := ⟨Tryd.underlying60, Tryd.t60, by kernel_rfl, rfl, rfl, rfl⟩
def ti61 : TI := { desc := (Go.TypeDesc.array 4 5), size := 4, bytes := 4, zero := (Go.Value.agg #[Go.Value.int Go.IntKind.u8 0, Go.Value.int Go.IntKind.u8 0, Go.Value.int Go.IntKind.u8 0, Go.Value.int Go.IntKind.u8 0]) }
theorem tok61 : TOk Tryd.prog 61 ti61 := ⟨Tryd.underlying61, Tryd.t61, by kernel_rfl, rfl, rfl, rfl⟩
def ti62 : TI := { desc := (Go.TypeDesc.struct #[{ name := "mark", type := 3, offset := 0, embedded := false, tag := "", pkgPath := "damier/utf", byteOffset := 0 }, { name := "room", type := 3, offset := 1, embedded := false, tag := "", pkgPath := "damier/utf", byteOffset := 8 }]), size := 2, bytes := 16, zero := (Go.Value.agg #[Go.Value.int Go.IntKind.i64 0, Go.Value.int Go.IntKind.i64 0]) }
theorem tok62 : TOk Tryd.prog 62 ti62 := ⟨Tryd.underlying62, Tryd.t62, by kernel_rfl, rfl, rfl, rfl⟩
def ti63 : TI := { desc := (Go.TypeDesc.struct #[{ name := "mark", type := 3, offset := 0, embedded := false, tag := "", pkgPath := "damier/utf", byteOffset := 0 }, { name := "room", type := 3, offset := 1, embedded := false, tag := "", pkgPath := "damier/utf", byteOffset := 8 }]), size := 2, bytes := 16, zero := (Go.Value.agg #[Go.Value.int Go.IntKind.i64 0, Go.Value.int Go.IntKind.i64 0]) }
theorem tok63 : TOk Tryd.prog 63 ti63 := ⟨Tryd.underlying63, Tryd.t63, by kernel_rfl, rfl, rfl, rfl⟩
def ti64 : TI := { desc := (Go.TypeDesc.func #[3] #[63] false), size := 1, bytes := 8, zero := Go.Value.nilFunc }
theorem tok64 : TOk Tryd.prog 64 ti64 := ⟨Tryd.underlying64, Tryd.t64, by kernel_rfl, rfl, rfl, rfl⟩
def ti65 : TI := { desc := (Go.TypeDesc.int Go.IntKind.u64), size := 1, bytes := 8, zero := (Go.Value.int Go.IntKind.u64 0) }
theorem tok65 : TOk Tryd.prog 65 ti65 := ⟨Tryd.underlying65, Tryd.t65, by kernel_rfl, rfl, rfl, rfl⟩
def ti66 : TI := { desc := (Go.TypeDesc.func #[5] #[3, 3] false), size := 1, bytes := 8, zero := Go.Value.nilFunc }
theorem tok66 : TOk Tryd.prog 66 ti66 := ⟨Tryd.underlying66, Tryd.t66, by kernel_rfl, rfl, rfl, rfl⟩
def ti67 : TI := { desc := (Go.TypeDesc.func #[3] #[3] false), size := 1, bytes := 8, zero := Go.Value.nilFunc }
theorem tok67 : TOk Tryd.prog 67 ti67 := ⟨Tryd.underlying67, Tryd.t67, by kernel_rfl, rfl, rfl, rfl⟩
def ti68 : TI := { desc := Go.TypeDesc.unsafePointer, size := 1, bytes := 8, zero := (Go.Value.pointer none) }
theorem tok68 : TOk Tryd.prog 68 ti68 := ⟨Tryd.underlying68, Tryd.t68, by kernel_rfl, rfl, rfl, rfl⟩
def ti69 : TI := { desc := (Go.TypeDesc.func #[68] #[68] false), size := 1, bytes := 8, zero := Go.Value.nilFunc }
theorem tok69 : TOk Tryd.prog 69 ti69 := ⟨Tryd.underlying69, Tryd.t69, by kernel_rfl, rfl, rfl, rfl⟩
def ti70 : TI := { desc := (Go.TypeDesc.func #[9, 9] #[4] false), size := 1, bytes := 8, zero := Go.Value.nilFunc }
theorem tok70 : TOk Tryd.prog 70 ti70 := ⟨Tryd.underlying70, Tryd.t70, by kernel_rfl, rfl, rfl, rfl⟩
def ti71 : TI := { desc := (Go.TypeDesc.struct #[{ name := "_interface", type := 17, offset := 0, embedded := false, tag := "", pkgPath := "runtime", byteOffset := 0 }, { name := "concrete", type := 17, offset := 1, embedded := false, tag := "", pkgPath := "runtime", byteOffset := 8 }, { name := "asserted", type := 17, offset := 2, embedded := false, tag := "", pkgPath := "runtime", byteOffset := 16 }, { name := "missingMethod", type := 9, offset := 3, embedded := false, tag := "", pkgPath := "runtime", byteOffset := 24 }]), size := 4, bytes := 40, zero := (Go.Value.agg #[Go.Value.pointer none, Go.Value.pointer none, Go.Value.pointer none, Go.Value.string { data := #[] }]) }
theorem tok71 : TOk Tryd.prog 71 ti71 := ⟨Tryd.underlying71, Tryd.t71, by kernel_rfl, rfl, rfl, rfl⟩
def ti72 : TI := { desc := (Go.TypeDesc.struct #[{ name := "_interface", type := 17, offset := 0, embedded := false, tag := "", pkgPath := "runtime", byteOffset := 0 }, { name := "concrete", type := 17, offset := 1, embedded := false, tag := "", pkgPath := "runtime", byteOffset := 8 }, { name := "asserted", type := 17, offset := 2, embedded := false, tag := "", pkgPath := "runtime", byteOffset := 16 }, { name := "missingMethod", type := 9, offset := 3, embedded := false, tag := "", pkgPath := "runtime", byteOffset := 24 }]), size := 4, bytes := 40, zero := (Go.Value.agg #[Go.Value.pointer none, Go.Value.pointer none, Go.Value.pointer none, Go.Value.string { data := #[] }]) }
theorem tok72 : TOk Tryd.prog 72 ti72 := ⟨Tryd.underlying72, Tryd.t72, by kernel_rfl, rfl, rfl, rfl⟩
def ti73 : TI := { desc := (Go.TypeDesc.array 0 16), size := 0, bytes := 0, zero := (Go.Value.agg #[]) }
theorem tok73 : TOk Tryd.prog 73 ti73 := ⟨Tryd.underlying73, Tryd.t73, by kernel_rfl, rfl, rfl, rfl⟩
def ti74 : TI := { desc := (Go.TypeDesc.struct #[{ name := "_", type := 73, offset := 0, embedded := false, tag := "", pkgPath := "runtime", byteOffset := 0 }]), size := 0, bytes := 0, zero := (Go.Value.agg #[]) }
theorem tok74 : TOk Tryd.prog 74 ti74 := ⟨Tryd.underlying74, Tryd.t74, by kernel_rfl, rfl, rfl, rfl⟩
def ti75 : TI := { desc := (Go.TypeDesc.struct #[{ name := "_", type := 73, offset := 0, embedded := false, tag := "", pkgPath := "runtime", byteOffset := 0 }]), size := 0, bytes := 0, zero := (Go.Value.agg #[]) }
theorem tok75 : TOk Tryd.prog 75 ti75 := ⟨Tryd.underlying75, Tryd.t75, by kernel_rfl, rfl, rfl, rfl⟩
def ti76 : TI := { desc := (Go.TypeDesc.func #[] #[3] false), size := 1, bytes := 8, zero := Go.Value.nilFunc }
theorem tok76 : TOk Tryd.prog 76 ti76 := ⟨Tryd.underlying76, Tryd.t76, by kernel_rfl, rfl, rfl, rfl⟩
def ti77 : TI := { desc := (Go.TypeDesc.int Go.IntKind.u32), size := 1, bytes := 4, zero := (Go.Value.int Go.IntKind.u32 0) }
theorem tok77 : TOk Tryd.prog 77 ti77 := ⟨Tryd.underlying77, Tryd.t77, by kernel_rfl, rfl, rfl, rfl⟩
def ti78 : TI := { desc := (Go.TypeDesc.int Go.IntKind.u8), size := 1, bytes := 1, zero := (Go.Value.int Go.IntKind.u8 0) }
theorem tok78 : TOk Tryd.prog 78 ti78 := ⟨Tryd.underlying78, Tryd.t78, by kernel_rfl, rfl, rfl, rfl⟩
def ti79 : TI := { desc := (Go.TypeDesc.int Go.IntKind.u8), size := 1, bytes := 1, zero := (Go.Value.int Go.IntKind.u8 0) }
theorem tok79 : TOk Tryd.prog 79 ti79 := ⟨Tryd.underlying79, Tryd.t79, by kernel_rfl, rfl, rfl, rfl⟩
def ti80 : TI := { desc := (Go.TypeDesc.func #[68, 68] #[4] false), size := 1, bytes := 8, zero := Go.Value.nilFunc }
theorem tok80 : TOk Tryd.prog 80 ti80 := ⟨Tryd.underlying80, Tryd.t80, by kernel_rfl, rfl, rfl, rfl⟩
def ti81 : TI := { desc := (Go.TypeDesc.int Go.IntKind.i32), size := 1, bytes := 4, zero := (Go.Value.int Go.IntKind.i32 0) }
theorem tok81 : TOk Tryd.prog 81 ti81 := ⟨Tryd.underlying81, Tryd.t81, by kernel_rfl, rfl, rfl, rfl⟩
def ti82 : TI := { desc := (Go.TypeDesc.int Go.IntKind.i32), size := 1, bytes := 4, zero := (Go.Value.int Go.IntKind.i32 0) }
theorem tok82 : TOk Tryd.prog 82 ti82 := ⟨Tryd.underlying82, Tryd.t82, by kernel_rfl, rfl, rfl, rfl⟩
def ti83 : TI := { desc := (Go.TypeDesc.struct #[{ name := "Size_", type := 12, offset := 0, embedded := false, tag := "", pkgPath := "", byteOffset := 0 }, { name := "PtrBytes", type := 12, offset := 1, embedded := false, tag := "", pkgPath := "", byteOffset := 8 }, { name := "Hash", type := 77, offset := 2, embedded := false, tag := "", pkgPath := "", byteOffset := 16 }, { name := "TFlag", type := 78, offset := 3, embedded := false, tag := "", pkgPath := "", byteOffset := 20 }, { name := "Align_", type := 5, offset := 4, embedded := false, tag := "", pkgPath := "", byteOffset := 21 }, { name := "FieldAlign_", type := 5, offset := 5, embedded := false, tag := "", pkgPath := "", byteOffset := 22 }, { name := "Kind_", type := 79, offset := 6, embedded := false, tag := "", pkgPath := "", byteOffset := 23 }, { name := "Equal", type := 80, offset := 7, embedded := false, tag := "", pkgPath := "", byteOffset := 24 }, { name := "GCData", type := 60, offset := 8, embedded := false, tag := "", pkgPath := "", byteOffset := 32 }, { name := "Str", type := 81, offset := 9, embedded := false, tag := "", pkgPath := "", byteOffset := 40 }, { name := "PtrToThis", type := 82, offset := 10, embedded := false, tag := "", pkgPath := "", byteOffset := 44 }]), size := 11, bytes := 48, zero := (Go.Value.agg #[Go.Value.int Go.IntKind.u64 0, Go.Value.int Go.IntKind.u64 0, Go.Value.int Go.IntKind.u32 0, Go.Value.int Go.IntKind.u8 0, Go.Value.int Go.IntKind.u8 0, Go.Value.int Go.IntKind.u8 0, Go.Value.int Go.IntKind.u8 0, Go.Value.nilFunc, Go.Value.pointer none, Go.Value.int Go.IntKind.i32 0, Go.Value.int Go.IntKind.i32 0]) }
theorem tok83 : TOk Tryd.prog 83 ti83 := ⟨Tryd.underlying83, Tryd.t83, by kernel_rfl, rfl, rfl, rfl⟩
def ti84 : TI := { desc := (Go.TypeDesc.struct #[{ name := "Size_", type := 12, offset := 0, embedded := false, tag := "", pkgPath := "", byteOffset := 0 }, { name := "PtrBytes", type := 12, offset := 1, embedded := false, tag := "", pkgPath := "", byteOffset := 8 }, { name := "Hash", type := 77, offset := 2, embedded := false, tag := "", pkgPath := "", byteOffset := 16 }, { name := "TFlag", type := 78, offset := 3, embedded := false, tag := "", pkgPath := "", byteOffset := 20 }, { name := "Align_", type := 5, offset := 4, embedded := false, tag := "", pkgPath := "", byteOffset := 21 }, { name := "FieldAlign_", type := 5, offset := 5, embedded := false, tag := "", pkgPath := "", byteOffset := 22 }, { name := "Kind_", type := 79, offset := 6, embedded := false, tag := "", pkgPath := "", byteOffset := 23 }, { name := "Equal", type := 80, offset := 7, embedded := false, tag := "", pkgPath := "", byteOffset := 24 }, { name := "GCData", type := 60, offset := 8, embedded := false, tag := "", pkgPath := "", byteOffset := 32 }, { name := "Str", type := 81, offset := 9, embedded := false, tag := "", pkgPath := "", byteOffset := 40 }, { name := "PtrToThis", type := 82, offset := 10, embedded := false, tag := "", pkgPath := "", byteOffset := 44 }]), size := 11, bytes := 48, zero := (Go.Value.agg #[Go.Value.int Go.IntKind.u64 0, Go.Value.int Go.IntKind.u64 0, Go.Value.int Go.IntKind.u32 0, Go.Value.int Go.IntKind.u8 0, Go.Value.int Go.IntKind.u8 0, Go.Value.int Go.IntKind.u8 0, Go.Value.int Go.IntKind.u8 0, Go.Value.nilFunc, Go.Value.pointer none, Go.Value.int Go.IntKind.i32 0, Go.Value.int Go.IntKind.i32 0]) }
theorem tok84 : TOk Tryd.prog 84 ti84 := ⟨Tryd.underlying84, Tryd.t84, by kernel_rfl, rfl, rfl, rfl⟩
def tab : List (TypeId × TI) := [(0, ti0), (1, ti1), (2, ti2), (3, ti3), (4, ti4), (5, ti5), (6, ti6), (7, ti7), (8, ti8), (9, ti9), (10, ti10), (11, ti11), (12, ti12), (13, ti13), (14, ti14), (15, ti15), (16, ti16), (17, ti17), (18, ti18), (19, ti19), (20, ti20), (21, ti21), (22, ti22), (23, ti23), (24, ti24), (25, ti25), (26, ti26), (27, ti27), (28, ti28), (29, ti29), (30, ti30), (31, ti31), (32, ti32), (33, ti33), (34, ti34), (35, ti35), (36, ti36), (37, ti37), (38, ti38), (39, ti39), (40, ti40), (41, ti41), (42, ti42), (43, ti43), (44, ti44), (45, ti45), (46, ti46), (47, ti47), (48, ti48), (49, ti49), (50, ti50), (51, ti51), (52, ti52), (53, ti53), (54, ti54), (55, ti55), (56, ti56), (57, ti57), (58, ti58), (59, ti59), (60, ti60), (61, ti61), (62, ti62), (63, ti63), (64, ti64), (65, ti65), (66, ti66), (67, ti67), (68, ti68), (69, ti69), (70, ti70), (71, ti71), (72, ti72), (73, ti73), (74, ti74), (75, ti75), (76, ti76), (77, ti77), (78, ti78), (79, ti79), (80, ti80), (81, ti81), (82, ti82), (83, ti83), (84, ti84)]
set_option maxRecDepth 100000 in
theorem tabOk : AllT Tryd.prog tab := .cons tok0 (.cons tok1 (.cons tok2 (.cons tok3 (.cons tok4 (.cons tok5 (.cons tok6 (.cons tok7 (.cons tok8 (.cons tok9 (.cons tok10 (.cons tok11 (.cons tok12 (.cons tok13 (.cons tok14 (.cons tok15 (.cons tok16 (.cons tok17 (.cons tok18 (.cons tok19 (.cons tok20 (.cons tok21 (.cons tok22 (.cons tok23 (.cons tok24 (.cons tok25 (.cons tok26 (.cons tok27 (.cons tok28 (.cons tok29 (.cons tok30 (.cons tok31 (.cons tok32 (.cons tok33 (.cons tok34 (.cons tok35 (.cons tok36 (.cons tok37 (.cons tok38 (.cons tok39 (.cons tok40 (.cons tok41 (.cons tok42 (.cons tok43 (.cons tok44 (.cons tok45 (.cons tok46 (.cons tok47 (.cons tok48 (.cons tok49 (.cons tok50 (.cons tok51 (.cons tok52 (.cons tok53 (.cons tok54 (.cons tok55 (.cons tok56 (.cons tok57 (.cons tok58 (.cons tok59 (.cons tok60 (.cons tok61 (.cons tok62 (.cons tok63 (.cons tok64 (.cons tok65 (.cons tok66 (.cons tok67 (.cons tok68 (.cons tok69 (.cons tok70 (.cons tok71 (.cons tok72 (.cons tok73 (.cons tok74 (.cons tok75 (.cons tok76 (.cons tok77 (.cons tok78 (.cons tok79 (.cons tok80 (.cons tok81 (.cons tok82 (.cons tok83 (.cons tok84 (.nil)))))))))))))))))))))))))))))))))))))))))))))))))))))))))))))))))))))))))))))))))))))
noncomputable def X : Prg := { P := Tryd.prog, tab := tab, tok := tabOk.lkT }
end Go.Proofs.YtlginjmkmfodmaaDoor.S
