import Derived.Test.YtpmhiiemklhbhaaGreatSF
import Derived.Test.YtpmhiiemklhbhaaGreatProg
import Derived.KernelRfl
namespace Go.Proofs.YtpmhiiemklhbhaaGreat.S
open Go Go.Sm
def ti0:TI:={ desc:=(Go.TypeDesc.tuple #[]),size:=1,bytes:=0,zero:=(Go.Value.tuple #[]) }
theorem tok0:TOk Tryz.prog 0 ti0:=⟨Tryz.underlying0,Tryz.t0,by kernel_rfl,rfl,rfl,rfl⟩
def ti1:TI:={ desc:=(Go.TypeDesc.func #[] #[] false),size:=1,bytes:=8,zero:=Go.Value.nilFunc }
theorem tok1:TOk Tryz.prog 1 ti1:=⟨Tryz.underlying1,Tryz.t1,by kernel_rfl,rfl,rfl,rfl⟩
def ti2:TI:={ desc:=(Go.TypeDesc.int Go.IntKind.i64),size:=1,bytes:=8,zero:=(Go.Value.int Go.IntKind.i64 0) }
theorem tok2:TOk Tryz.prog 2 ti2:=⟨Tryz.underlying2,Tryz.t2,by kernel_rfl,rfl,rfl,rfl⟩
def ti3:TI:={ desc:=(Go.TypeDesc.int Go.IntKind.i64),size:=1,bytes:=8,zero:=(Go.Value.int Go.IntKind.i64 0) }
theorem tok3:TOk Tryz.prog 3 ti3:=⟨Tryz.underlying3,Tryz.t3,by kernel_rfl,rfl,rfl,rfl⟩
def ti4:TI:={ desc:=Go.TypeDesc.bool,size:=1,bytes:=1,zero:=(Go.Value.bool false) }
theorem tok4:TOk Tryz.prog 4 ti4:=⟨Tryz.underlying4,Tryz.t4,by kernel_rfl,rfl,rfl,rfl⟩
def ti5:TI:={ desc:=(Go.TypeDesc.int Go.IntKind.u8),size:=1,bytes:=1,zero:=(Go.Value.int Go.IntKind.u8 0) }
theorem tok5:TOk Tryz.prog 5 ti5:=⟨Tryz.underlying5,Tryz.t5,by kernel_rfl,rfl,rfl,rfl⟩
def ti6:TI:={ desc:=(Go.TypeDesc.int Go.IntKind.u8),size:=1,bytes:=1,zero:=(Go.Value.int Go.IntKind.u8 0) }
theorem tok6:TOk Tryz.prog 6 ti6:=⟨Tryz.underlying6,Tryz.t6,by kernel_rfl,rfl,rfl,rfl⟩
def ti7:TI:={ desc:=(Go.TypeDesc.struct #[{ name:= "x",type:=2,offset:=0,embedded:=false,tag:= "",pkgPath:= "runtime",byteOffset:=0 },{ name:= "y",type:=3,offset:=1,embedded:=false,tag:= "",pkgPath:= "runtime",byteOffset:=8 },{ name:= "signed",type:=4,offset:=2,embedded:=false,tag:= "",pkgPath:= "runtime",byteOffset:=16 },{ name:= "code",type:=6,offset:=3,embedded:=false,tag:= "",pkgPath:= "runtime",byteOffset:=17 }]),size:=4,bytes:=24,zero:=(Go.Value.agg #[Go.Value.int Go.IntKind.i64 0,Go.Value.int Go.IntKind.i64 0,Go.Value.bool false,Go.Value.int Go.IntKind.u8 0]) }
theorem tok7:TOk Tryz.prog 7 ti7:=⟨Tryz.underlying7,Tryz.t7,by kernel_rfl,rfl,rfl,rfl⟩
def ti8:TI:={ desc:=(Go.TypeDesc.struct #[{ name:= "x",type:=2,offset:=0,embedded:=false,tag:= "",pkgPath:= "runtime",byteOffset:=0 },{ name:= "y",type:=3,offset:=1,embedded:=false,tag:= "",pkgPath:= "runtime",byteOffset:=8 },{ name:= "signed",type:=4,offset:=2,embedded:=false,tag:= "",pkgPath:= "runtime",byteOffset:=16 },{ name:= "code",type:=6,offset:=3,embedded:=false,tag:= "",pkgPath:= "runtime",byteOffset:=17 }]),size:=4,bytes:=24,zero:=(Go.Value.agg #[Go.Value.int Go.IntKind.i64 0,Go.Value.int Go.IntKind.i64 0,Go.Value.bool false,Go.Value.int Go.IntKind.u8 0]) }
theorem tok8:TOk Tryz.prog 8 ti8:=⟨Tryz.underlying8,Tryz.t8,by kernel_rfl,rfl,rfl,rfl⟩
def ti9:TI:={ desc:=Go.TypeDesc.string,size:=1,bytes:=16,zero:=(Go.Value.string { data:=#[] }) }
theorem tok9:TOk Tryz.prog 9 ti9:=⟨Tryz.underlying9,Tryz.t9,by kernel_rfl,rfl,rfl,rfl⟩
def ti10:TI:={ desc:=Go.TypeDesc.string,size:=1,bytes:=16,zero:=(Go.Value.string { data:=#[] }) }
theorem tok10:TOk Tryz.prog 10 ti10:=⟨Tryz.underlying10,Tryz.t10,by kernel_rfl,rfl,rfl,rfl⟩
def ti11:TI:={ desc:=Go.TypeDesc.string,size:=1,bytes:=16,zero:=(Go.Value.string { data:=#[] }) }
theorem tok11:TOk Tryz.prog 11 ti11:=⟨Tryz.underlying11,Tryz.t11,by kernel_rfl,rfl,rfl,rfl⟩
def ti12:TI:={ desc:=(Go.TypeDesc.int Go.IntKind.u64),size:=1,bytes:=8,zero:=(Go.Value.int Go.IntKind.u64 0) }
theorem tok12:TOk Tryz.prog 12 ti12:=⟨Tryz.underlying12,Tryz.t12,by kernel_rfl,rfl,rfl,rfl⟩
def ti13:TI:={ desc:=(Go.TypeDesc.struct #[{ name:= "msg",type:=9,offset:=0,embedded:=false,tag:= "",pkgPath:= "runtime",byteOffset:=0 },{ name:= "addr",type:=12,offset:=1,embedded:=false,tag:= "",pkgPath:= "runtime",byteOffset:=16 }]),size:=2,bytes:=24,zero:=(Go.Value.agg #[Go.Value.string { data:=#[] },Go.Value.int Go.IntKind.u64 0]) }
theorem tok13:TOk Tryz.prog 13 ti13:=⟨Tryz.underlying13,Tryz.t13,by kernel_rfl,rfl,rfl,rfl⟩
def ti14:TI:={ desc:=(Go.TypeDesc.struct #[{ name:= "msg",type:=9,offset:=0,embedded:=false,tag:= "",pkgPath:= "runtime",byteOffset:=0 },{ name:= "addr",type:=12,offset:=1,embedded:=false,tag:= "",pkgPath:= "runtime",byteOffset:=16 }]),size:=2,bytes:=24,zero:=(Go.Value.agg #[Go.Value.string { data:=#[] },Go.Value.int Go.IntKind.u64 0]) }
theorem tok14:TOk Tryz.prog 14 ti14:=⟨Tryz.underlying14,Tryz.t14,by kernel_rfl,rfl,rfl,rfl⟩
def ti15:TI:={ desc:=(Go.TypeDesc.pointer 369),size:=1,bytes:=8,zero:=(Go.Value.pointer none) }
theorem tok15:TOk Tryz.prog 15 ti15:=⟨Tryz.underlying15,Tryz.t15,by kernel_rfl,rfl,rfl,rfl⟩
def ti16:TI:={ desc:=(Go.TypeDesc.pointer 372),size:=1,bytes:=8,zero:=(Go.Value.pointer none) }
theorem tok16:TOk Tryz.prog 16 ti16:=⟨Tryz.underlying16,Tryz.t16,by kernel_rfl,rfl,rfl,rfl⟩
def ti17:TI:={ desc:=(Go.TypeDesc.pointer 381),size:=1,bytes:=8,zero:=(Go.Value.pointer none) }
theorem tok17:TOk Tryz.prog 17 ti17:=⟨Tryz.underlying17,Tryz.t17,by kernel_rfl,rfl,rfl,rfl⟩
def ti18:TI:={ desc:=(Go.TypeDesc.struct #[{ name:= "typ",type:=17,offset:=0,embedded:=false,tag:= "",pkgPath:= "internal/runtime/maps",byteOffset:=0 }]),size:=1,bytes:=8,zero:=(Go.Value.agg #[Go.Value.pointer none]) }
theorem tok18:TOk Tryz.prog 18 ti18:=⟨Tryz.underlying18,Tryz.t18,by kernel_rfl,rfl,rfl,rfl⟩
def ti19:TI:={ desc:=(Go.TypeDesc.struct #[{ name:= "typ",type:=17,offset:=0,embedded:=false,tag:= "",pkgPath:= "internal/runtime/maps",byteOffset:=0 }]),size:=1,bytes:=8,zero:=(Go.Value.agg #[Go.Value.pointer none]) }
theorem tok19:TOk Tryz.prog 19 ti19:=⟨Tryz.underlying19,Tryz.t19,by kernel_rfl,rfl,rfl,rfl⟩
def ti20:TI:={ desc:=(Go.TypeDesc.interface #[]),size:=1,bytes:=16,zero:=Go.Value.nilIface }
theorem tok20:TOk Tryz.prog 20 ti20:=⟨Tryz.underlying20,Tryz.t20,by kernel_rfl,rfl,rfl,rfl⟩
def ti21:TI:={ desc:=(Go.TypeDesc.int Go.IntKind.i32),size:=1,bytes:=4,zero:=(Go.Value.int Go.IntKind.i32 0) }
theorem tok21:TOk Tryz.prog 21 ti21:=⟨Tryz.underlying21,Tryz.t21,by kernel_rfl,rfl,rfl,rfl⟩
def ti22:TI:={ desc:=(Go.TypeDesc.slice 37),size:=1,bytes:=24,zero:=(Go.Value.slice none 0 0) }
theorem tok22:TOk Tryz.prog 22 ti22:=⟨Tryz.underlying22,Tryz.t22,by kernel_rfl,rfl,rfl,rfl⟩
def ti23:TI:={ desc:=(Go.TypeDesc.pointer 223),size:=1,bytes:=8,zero:=(Go.Value.pointer none) }
theorem tok23:TOk Tryz.prog 23 ti23:=⟨Tryz.underlying23,Tryz.t23,by kernel_rfl,rfl,rfl,rfl⟩
def ti24:TI:={ desc:=(Go.TypeDesc.struct #[{ name:= "root",type:=23,offset:=0,embedded:=false,tag:= "",pkgPath:= "damier/tree",byteOffset:=0 }]),size:=1,bytes:=8,zero:=(Go.Value.agg #[Go.Value.pointer none]) }
theorem tok24:TOk Tryz.prog 24 ti24:=⟨Tryz.underlying24,Tryz.t24,by kernel_rfl,rfl,rfl,rfl⟩
def ti25:TI:={ desc:=(Go.TypeDesc.struct #[{ name:= "root",type:=23,offset:=0,embedded:=false,tag:= "",pkgPath:= "damier/tree",byteOffset:=0 }]),size:=1,bytes:=8,zero:=(Go.Value.agg #[Go.Value.pointer none]) }
theorem tok25:TOk Tryz.prog 25 ti25:=⟨Tryz.underlying25,Tryz.t25,by kernel_rfl,rfl,rfl,rfl⟩
def ti26:TI:={ desc:=(Go.TypeDesc.struct #[{ name:= "Rows",type:=25,offset:=0,embedded:=false,tag:= "",pkgPath:= "",byteOffset:=0 },{ name:= "Tail",type:=4,offset:=1,embedded:=false,tag:= "",pkgPath:= "",byteOffset:=8 },{ name:= "End",type:=3,offset:=2,embedded:=false,tag:= "",pkgPath:= "",byteOffset:=16 }]),size:=3,bytes:=24,zero:=(Go.Value.agg #[Go.Value.pointer none,Go.Value.bool false,Go.Value.int Go.IntKind.i64 0]) }
theorem tok26:TOk Tryz.prog 26 ti26:=⟨Tryz.underlying26,Tryz.t26,by kernel_rfl,rfl,rfl,rfl⟩
def ti27:TI:={ desc:=(Go.TypeDesc.struct #[{ name:= "Rows",type:=25,offset:=0,embedded:=false,tag:= "",pkgPath:= "",byteOffset:=0 },{ name:= "Tail",type:=4,offset:=1,embedded:=false,tag:= "",pkgPath:= "",byteOffset:=8 },{ name:= "End",type:=3,offset:=2,embedded:=false,tag:= "",pkgPath:= "",byteOffset:=16 }]),size:=3,bytes:=24,zero:=(Go.Value.agg #[Go.Value.pointer none,Go.Value.bool false,Go.Value.int Go.IntKind.i64 0]) }
theorem tok27:TOk Tryz.prog 27 ti27:=⟨Tryz.underlying27,Tryz.t27,by kernel_rfl,rfl,rfl,rfl⟩
def ti28:TI:={ desc:=(Go.TypeDesc.pointer 264),size:=1,bytes:=8,zero:=(Go.Value.pointer none) }
theorem tok28:TOk Tryz.prog 28 ti28:=⟨Tryz.underlying28,Tryz.t28,by kernel_rfl,rfl,rfl,rfl⟩
def ti29:TI:={ desc:=(Go.TypeDesc.slice 60),size:=1,bytes:=24,zero:=(Go.Value.slice none 0 0) }
theorem tok29:TOk Tryz.prog 29 ti29:=⟨Tryz.underlying29,Tryz.t29,by kernel_rfl,rfl,rfl,rfl⟩
def ti30:TI:={ desc:=(Go.TypeDesc.struct #[{ name:= "Rows",type:=29,offset:=0,embedded:=false,tag:= "",pkgPath:= "",byteOffset:=0 },{ name:= "Tail",type:=4,offset:=1,embedded:=false,tag:= "",pkgPath:= "",byteOffset:=24 },{ name:= "End",type:=3,offset:=2,embedded:=false,tag:= "",pkgPath:= "",byteOffset:=32 }]),size:=3,bytes:=40,zero:=(Go.Value.agg #[Go.Value.slice none 0 0,Go.Value.bool false,Go.Value.int Go.IntKind.i64 0]) }
theorem tok30:TOk Tryz.prog 30 ti30:=⟨Tryz.underlying30,Tryz.t30,by kernel_rfl,rfl,rfl,rfl⟩
def ti31:TI:={ desc:=(Go.TypeDesc.struct #[{ name:= "Rows",type:=29,offset:=0,embedded:=false,tag:= "",pkgPath:= "",byteOffset:=0 },{ name:= "Tail",type:=4,offset:=1,embedded:=false,tag:= "",pkgPath:= "",byteOffset:=24 },{ name:= "End",type:=3,offset:=2,embedded:=false,tag:= "",pkgPath:= "",byteOffset:=32 }]),size:=3,bytes:=40,zero:=(Go.Value.agg #[Go.Value.slice none 0 0,Go.Value.bool false,Go.Value.int Go.IntKind.i64 0]) }
theorem tok31:TOk Tryz.prog 31 ti31:=⟨Tryz.underlying31,Tryz.t31,by kernel_rfl,rfl,rfl,rfl⟩
def ti32:TI:={ desc:=(Go.TypeDesc.tuple #[27,28,31,4]),size:=1,bytes:=0,zero:=(Go.Value.tuple #[Go.Value.agg #[Go.Value.pointer none,Go.Value.bool false,Go.Value.int Go.IntKind.i64 0],Go.Value.pointer none,Go.Value.agg #[Go.Value.slice none 0 0,Go.Value.bool false,Go.Value.int Go.IntKind.i64 0],Go.Value.bool false]) }
theorem tok32:TOk Tryz.prog 32 ti32:=⟨Tryz.underlying32,Tryz.t32,by kernel_rfl,rfl,rfl,rfl⟩
def ti33:TI:={ desc:=(Go.TypeDesc.func #[9] #[27,28,31,4] false),size:=1,bytes:=8,zero:=Go.Value.nilFunc }
theorem tok33:TOk Tryz.prog 33 ti33:=⟨Tryz.underlying33,Tryz.t33,by kernel_rfl,rfl,rfl,rfl⟩
def ti34:TI:={ desc:=(Go.TypeDesc.func #[9,3] #[9] false),size:=1,bytes:=8,zero:=Go.Value.nilFunc }
theorem tok34:TOk Tryz.prog 34 ti34:=⟨Tryz.underlying34,Tryz.t34,by kernel_rfl,rfl,rfl,rfl⟩
def ti35:TI:={ desc:=(Go.TypeDesc.func #[] #[4] false),size:=1,bytes:=8,zero:=Go.Value.nilFunc }
theorem tok35:TOk Tryz.prog 35 ti35:=⟨Tryz.underlying35,Tryz.t35,by kernel_rfl,rfl,rfl,rfl⟩
def ti36:TI:={ desc:=(Go.TypeDesc.struct #[{ name:= "Kind",type:=3,offset:=0,embedded:=false,tag:= "",pkgPath:= "",byteOffset:=0 },{ name:= "C",type:=3,offset:=1,embedded:=false,tag:= "",pkgPath:= "",byteOffset:=8 },{ name:= "D",type:=3,offset:=2,embedded:=false,tag:= "",pkgPath:= "",byteOffset:=16 }]),size:=3,bytes:=24,zero:=(Go.Value.agg #[Go.Value.int Go.IntKind.i64 0,Go.Value.int Go.IntKind.i64 0,Go.Value.int Go.IntKind.i64 0]) }
theorem tok36:TOk Tryz.prog 36 ti36:=⟨Tryz.underlying36,Tryz.t36,by kernel_rfl,rfl,rfl,rfl⟩
def ti37:TI:={ desc:=(Go.TypeDesc.struct #[{ name:= "Kind",type:=3,offset:=0,embedded:=false,tag:= "",pkgPath:= "",byteOffset:=0 },{ name:= "C",type:=3,offset:=1,embedded:=false,tag:= "",pkgPath:= "",byteOffset:=8 },{ name:= "D",type:=3,offset:=2,embedded:=false,tag:= "",pkgPath:= "",byteOffset:=16 }]),size:=3,bytes:=24,zero:=(Go.Value.agg #[Go.Value.int Go.IntKind.i64 0,Go.Value.int Go.IntKind.i64 0,Go.Value.int Go.IntKind.i64 0]) }
theorem tok37:TOk Tryz.prog 37 ti37:=⟨Tryz.underlying37,Tryz.t37,by kernel_rfl,rfl,rfl,rfl⟩
def ti38:TI:={ desc:=(Go.TypeDesc.tuple #[27,31,4]),size:=1,bytes:=0,zero:=(Go.Value.tuple #[Go.Value.agg #[Go.Value.pointer none,Go.Value.bool false,Go.Value.int Go.IntKind.i64 0],Go.Value.agg #[Go.Value.slice none 0 0,Go.Value.bool false,Go.Value.int Go.IntKind.i64 0],Go.Value.bool false]) }
theorem tok38:TOk Tryz.prog 38 ti38:=⟨Tryz.underlying38,Tryz.t38,by kernel_rfl,rfl,rfl,rfl⟩
def ti39:TI:={ desc:=(Go.TypeDesc.func #[27,31,37] #[27,31,4] false),size:=1,bytes:=8,zero:=Go.Value.nilFunc }
theorem tok39:TOk Tryz.prog 39 ti39:=⟨Tryz.underlying39,Tryz.t39,by kernel_rfl,rfl,rfl,rfl⟩
def ti40:TI:={ desc:=(Go.TypeDesc.func #[31,31] #[4] false),size:=1,bytes:=8,zero:=Go.Value.nilFunc }
theorem tok40:TOk Tryz.prog 40 ti40:=⟨Tryz.underlying40,Tryz.t40,by kernel_rfl,rfl,rfl,rfl⟩
def ti41:TI:={ desc:=(Go.TypeDesc.func #[28,27] #[31] false),size:=1,bytes:=8,zero:=Go.Value.nilFunc }
theorem tok41:TOk Tryz.prog 41 ti41:=⟨Tryz.underlying41,Tryz.t41,by kernel_rfl,rfl,rfl,rfl⟩
def ti42:TI:={ desc:=(Go.TypeDesc.func #[27] #[4] false),size:=1,bytes:=8,zero:=Go.Value.nilFunc }
theorem tok42:TOk Tryz.prog 42 ti42:=⟨Tryz.underlying42,Tryz.t42,by kernel_rfl,rfl,rfl,rfl⟩
def ti43:TI:={ desc:=(Go.TypeDesc.func #[31] #[4] false),size:=1,bytes:=8,zero:=Go.Value.nilFunc }
theorem tok43:TOk Tryz.prog 43 ti43:=⟨Tryz.underlying43,Tryz.t43,by kernel_rfl,rfl,rfl,rfl⟩
def ti44:TI:={ desc:=(Go.TypeDesc.func #[9,22] #[4] false),size:=1,bytes:=8,zero:=Go.Value.nilFunc }
theorem tok44:TOk Tryz.prog 44 ti44:=⟨Tryz.underlying44,Tryz.t44,by kernel_rfl,rfl,rfl,rfl⟩
def ti45:TI:={ desc:=(Go.TypeDesc.int Go.IntKind.u64),size:=1,bytes:=8,zero:=(Go.Value.int Go.IntKind.u64 0) }
theorem tok45:TOk Tryz.prog 45 ti45:=⟨Tryz.underlying45,Tryz.t45,by kernel_rfl,rfl,rfl,rfl⟩
def ti47:TI:={ desc:=(Go.TypeDesc.slice 144),size:=1,bytes:=24,zero:=(Go.Value.slice none 0 0) }
theorem tok47:TOk Tryz.prog 47 ti47:=⟨Tryz.underlying47,Tryz.t47,by kernel_rfl,rfl,rfl,rfl⟩
def ti48:TI:={ desc:=(Go.TypeDesc.struct #[{ name:= "Cells",type:=47,offset:=0,embedded:=false,tag:= "",pkgPath:= "",byteOffset:=0 },{ name:= "End",type:=3,offset:=1,embedded:=false,tag:= "",pkgPath:= "",byteOffset:=24 },{ name:= "Hidden",type:=4,offset:=2,embedded:=false,tag:= "",pkgPath:= "",byteOffset:=32 }]),size:=3,bytes:=40,zero:=(Go.Value.agg #[Go.Value.slice none 0 0,Go.Value.int Go.IntKind.i64 0,Go.Value.bool false]) }
theorem tok48:TOk Tryz.prog 48 ti48:=⟨Tryz.underlying48,Tryz.t48,by kernel_rfl,rfl,rfl,rfl⟩
def ti49:TI:={ desc:=(Go.TypeDesc.struct #[{ name:= "Cells",type:=47,offset:=0,embedded:=false,tag:= "",pkgPath:= "",byteOffset:=0 },{ name:= "End",type:=3,offset:=1,embedded:=false,tag:= "",pkgPath:= "",byteOffset:=24 },{ name:= "Hidden",type:=4,offset:=2,embedded:=false,tag:= "",pkgPath:= "",byteOffset:=32 }]),size:=3,bytes:=40,zero:=(Go.Value.agg #[Go.Value.slice none 0 0,Go.Value.int Go.IntKind.i64 0,Go.Value.bool false]) }
theorem tok49:TOk Tryz.prog 49 ti49:=⟨Tryz.underlying49,Tryz.t49,by kernel_rfl,rfl,rfl,rfl⟩
def ti50:TI:={ desc:=(Go.TypeDesc.tuple #[49,4]),size:=1,bytes:=0,zero:=(Go.Value.tuple #[Go.Value.agg #[Go.Value.slice none 0 0,Go.Value.int Go.IntKind.i64 0,Go.Value.bool false],Go.Value.bool false]) }
theorem tok50:TOk Tryz.prog 50 ti50:=⟨Tryz.underlying50,Tryz.t50,by kernel_rfl,rfl,rfl,rfl⟩
def ti51:TI:={ desc:=(Go.TypeDesc.func #[3] #[49,4] false),size:=1,bytes:=8,zero:=Go.Value.nilFunc }
theorem tok51:TOk Tryz.prog 51 ti51:=⟨Tryz.underlying51,Tryz.t51,by kernel_rfl,rfl,rfl,rfl⟩
def ti52:TI:={ desc:=(Go.TypeDesc.func #[22] #[4] false),size:=1,bytes:=8,zero:=Go.Value.nilFunc }
theorem tok52:TOk Tryz.prog 52 ti52:=⟨Tryz.underlying52,Tryz.t52,by kernel_rfl,rfl,rfl,rfl⟩
def ti53:TI:={ desc:=(Go.TypeDesc.int Go.IntKind.i64),size:=1,bytes:=8,zero:=(Go.Value.int Go.IntKind.i64 0) }
theorem tok53:TOk Tryz.prog 53 ti53:=⟨Tryz.underlying53,Tryz.t53,by kernel_rfl,rfl,rfl,rfl⟩
def ti54:TI:={ desc:=(Go.TypeDesc.tuple #[27,53]),size:=1,bytes:=0,zero:=(Go.Value.tuple #[Go.Value.agg #[Go.Value.pointer none,Go.Value.bool false,Go.Value.int Go.IntKind.i64 0],Go.Value.int Go.IntKind.i64 0]) }
theorem tok54:TOk Tryz.prog 54 ti54:=⟨Tryz.underlying54,Tryz.t54,by kernel_rfl,rfl,rfl,rfl⟩
def ti55:TI:={ desc:=(Go.TypeDesc.func #[27,3] #[27,53] false),size:=1,bytes:=8,zero:=Go.Value.nilFunc }
theorem tok55:TOk Tryz.prog 55 ti55:=⟨Tryz.underlying55,Tryz.t55,by kernel_rfl,rfl,rfl,rfl⟩
def ti56:TI:={ desc:=(Go.TypeDesc.func #[28,27,27] #[4] false),size:=1,bytes:=8,zero:=Go.Value.nilFunc }
theorem tok56:TOk Tryz.prog 56 ti56:=⟨Tryz.underlying56,Tryz.t56,by kernel_rfl,rfl,rfl,rfl⟩
def ti57:TI:={ desc:=(Go.TypeDesc.func #[27,3,3] #[27,53] false),size:=1,bytes:=8,zero:=Go.Value.nilFunc }
theorem tok57:TOk Tryz.prog 57 ti57:=⟨Tryz.underlying57,Tryz.t57,by kernel_rfl,rfl,rfl,rfl⟩
def ti58:TI:={ desc:=(Go.TypeDesc.slice 151),size:=1,bytes:=24,zero:=(Go.Value.slice none 0 0) }
theorem tok58:TOk Tryz.prog 58 ti58:=⟨Tryz.underlying58,Tryz.t58,by kernel_rfl,rfl,rfl,rfl⟩
def ti59:TI:={ desc:=(Go.TypeDesc.struct #[{ name:= "Cells",type:=58,offset:=0,embedded:=false,tag:= "",pkgPath:= "",byteOffset:=0 },{ name:= "End",type:=3,offset:=1,embedded:=false,tag:= "",pkgPath:= "",byteOffset:=24 },{ name:= "Hidden",type:=4,offset:=2,embedded:=false,tag:= "",pkgPath:= "",byteOffset:=32 }]),size:=3,bytes:=40,zero:=(Go.Value.agg #[Go.Value.slice none 0 0,Go.Value.int Go.IntKind.i64 0,Go.Value.bool false]) }
theorem tok59:TOk Tryz.prog 59 ti59:=⟨Tryz.underlying59,Tryz.t59,by kernel_rfl,rfl,rfl,rfl⟩
def ti60:TI:={ desc:=(Go.TypeDesc.struct #[{ name:= "Cells",type:=58,offset:=0,embedded:=false,tag:= "",pkgPath:= "",byteOffset:=0 },{ name:= "End",type:=3,offset:=1,embedded:=false,tag:= "",pkgPath:= "",byteOffset:=24 },{ name:= "Hidden",type:=4,offset:=2,embedded:=false,tag:= "",pkgPath:= "",byteOffset:=32 }]),size:=3,bytes:=40,zero:=(Go.Value.agg #[Go.Value.slice none 0 0,Go.Value.int Go.IntKind.i64 0,Go.Value.bool false]) }
theorem tok60:TOk Tryz.prog 60 ti60:=⟨Tryz.underlying60,Tryz.t60,by kernel_rfl,rfl,rfl,rfl⟩
def ti62:TI:={ desc:=(Go.TypeDesc.func #[9,3,3] #[4] false),size:=1,bytes:=8,zero:=Go.Value.nilFunc }
theorem tok62:TOk Tryz.prog 62 ti62:=⟨Tryz.underlying62,Tryz.t62,by kernel_rfl,rfl,rfl,rfl⟩
def ti63:TI:={ desc:=(Go.TypeDesc.struct #[{ name:= "Col",type:=3,offset:=0,embedded:=false,tag:= "",pkgPath:= "",byteOffset:=0 },{ name:= "Op",type:=3,offset:=1,embedded:=false,tag:= "",pkgPath:= "",byteOffset:=8 },{ name:= "Arg",type:=9,offset:=2,embedded:=false,tag:= "",pkgPath:= "",byteOffset:=16 },{ name:= "Not",type:=4,offset:=3,embedded:=false,tag:= "",pkgPath:= "",byteOffset:=32 }]),size:=4,bytes:=40,zero:=(Go.Value.agg #[Go.Value.int Go.IntKind.i64 0,Go.Value.int Go.IntKind.i64 0,Go.Value.string { data:=#[] },Go.Value.bool false]) }
theorem tok63:TOk Tryz.prog 63 ti63:=⟨Tryz.underlying63,Tryz.t63,by kernel_rfl,rfl,rfl,rfl⟩
def ti64:TI:={ desc:=(Go.TypeDesc.struct #[{ name:= "Col",type:=3,offset:=0,embedded:=false,tag:= "",pkgPath:= "",byteOffset:=0 },{ name:= "Op",type:=3,offset:=1,embedded:=false,tag:= "",pkgPath:= "",byteOffset:=8 },{ name:= "Arg",type:=9,offset:=2,embedded:=false,tag:= "",pkgPath:= "",byteOffset:=16 },{ name:= "Not",type:=4,offset:=3,embedded:=false,tag:= "",pkgPath:= "",byteOffset:=32 }]),size:=4,bytes:=40,zero:=(Go.Value.agg #[Go.Value.int Go.IntKind.i64 0,Go.Value.int Go.IntKind.i64 0,Go.Value.string { data:=#[] },Go.Value.bool false]) }
theorem tok64:TOk Tryz.prog 64 ti64:=⟨Tryz.underlying64,Tryz.t64,by kernel_rfl,rfl,rfl,rfl⟩
def ti65:TI:={ desc:=(Go.TypeDesc.struct #[{ name:= "Col",type:=3,offset:=0,embedded:=false,tag:= "",pkgPath:= "",byteOffset:=0 },{ name:= "Op",type:=3,offset:=1,embedded:=false,tag:= "",pkgPath:= "",byteOffset:=8 },{ name:= "Arg",type:=9,offset:=2,embedded:=false,tag:= "",pkgPath:= "",byteOffset:=16 },{ name:= "Not",type:=4,offset:=3,embedded:=false,tag:= "",pkgPath:= "",byteOffset:=32 }]),size:=4,bytes:=40,zero:=(Go.Value.agg #[Go.Value.int Go.IntKind.i64 0,Go.Value.int Go.IntKind.i64 0,Go.Value.string { data:=#[] },Go.Value.bool false]) }
theorem tok65:TOk Tryz.prog 65 ti65:=⟨Tryz.underlying65,Tryz.t65,by kernel_rfl,rfl,rfl,rfl⟩
def ti66:TI:={ desc:=(Go.TypeDesc.tuple #[65,53]),size:=1,bytes:=0,zero:=(Go.Value.tuple #[Go.Value.agg #[Go.Value.int Go.IntKind.i64 0,Go.Value.int Go.IntKind.i64 0,Go.Value.string { data:=#[] },Go.Value.bool false],Go.Value.int Go.IntKind.i64 0]) }
theorem tok66:TOk Tryz.prog 66 ti66:=⟨Tryz.underlying66,Tryz.t66,by kernel_rfl,rfl,rfl,rfl⟩
def ti68:TI:={ desc:=(Go.TypeDesc.tuple #[64,53]),size:=1,bytes:=0,zero:=(Go.Value.tuple #[Go.Value.agg #[Go.Value.int Go.IntKind.i64 0,Go.Value.int Go.IntKind.i64 0,Go.Value.string { data:=#[] },Go.Value.bool false],Go.Value.int Go.IntKind.i64 0]) }
theorem tok68:TOk Tryz.prog 68 ti68:=⟨Tryz.underlying68,Tryz.t68,by kernel_rfl,rfl,rfl,rfl⟩
def ti71:TI:={ desc:=(Go.TypeDesc.func #[64] #[65] false),size:=1,bytes:=8,zero:=Go.Value.nilFunc }
theorem tok71:TOk Tryz.prog 71 ti71:=⟨Tryz.underlying71,Tryz.t71,by kernel_rfl,rfl,rfl,rfl⟩
def ti72:TI:={ desc:=(Go.TypeDesc.func #[64] #[4] false),size:=1,bytes:=8,zero:=Go.Value.nilFunc }
theorem tok72:TOk Tryz.prog 72 ti72:=⟨Tryz.underlying72,Tryz.t72,by kernel_rfl,rfl,rfl,rfl⟩
def ti73:TI:={ desc:=(Go.TypeDesc.func #[65] #[9] false),size:=1,bytes:=8,zero:=Go.Value.nilFunc }
theorem tok73:TOk Tryz.prog 73 ti73:=⟨Tryz.underlying73,Tryz.t73,by kernel_rfl,rfl,rfl,rfl⟩
def ti74:TI:={ desc:=(Go.TypeDesc.func #[64] #[9] false),size:=1,bytes:=8,zero:=Go.Value.nilFunc }
theorem tok74:TOk Tryz.prog 74 ti74:=⟨Tryz.underlying74,Tryz.t74,by kernel_rfl,rfl,rfl,rfl⟩
def ti75:TI:={ desc:=(Go.TypeDesc.func #[64,9] #[4] false),size:=1,bytes:=8,zero:=Go.Value.nilFunc }
theorem tok75:TOk Tryz.prog 75 ti75:=⟨Tryz.underlying75,Tryz.t75,by kernel_rfl,rfl,rfl,rfl⟩
def ti76:TI:={ desc:=(Go.TypeDesc.slice 3),size:=1,bytes:=24,zero:=(Go.Value.slice none 0 0) }
theorem tok76:TOk Tryz.prog 76 ti76:=⟨Tryz.underlying76,Tryz.t76,by kernel_rfl,rfl,rfl,rfl⟩
def ti78:TI:={ desc:=(Go.TypeDesc.func #[27,76,76] #[27,53] false),size:=1,bytes:=8,zero:=Go.Value.nilFunc }
theorem tok78:TOk Tryz.prog 78 ti78:=⟨Tryz.underlying78,Tryz.t78,by kernel_rfl,rfl,rfl,rfl⟩
def ti79:TI:={ desc:=(Go.TypeDesc.tuple #[31,53]),size:=1,bytes:=0,zero:=(Go.Value.tuple #[Go.Value.agg #[Go.Value.slice none 0 0,Go.Value.bool false,Go.Value.int Go.IntKind.i64 0],Go.Value.int Go.IntKind.i64 0]) }
theorem tok79:TOk Tryz.prog 79 ti79:=⟨Tryz.underlying79,Tryz.t79,by kernel_rfl,rfl,rfl,rfl⟩
def ti81:TI:={ desc:=(Go.TypeDesc.func #[27,28,3] #[3] false),size:=1,bytes:=8,zero:=Go.Value.nilFunc }
theorem tok81:TOk Tryz.prog 81 ti81:=⟨Tryz.underlying81,Tryz.t81,by kernel_rfl,rfl,rfl,rfl⟩
def ti82:TI:={ desc:=(Go.TypeDesc.func #[31,3] #[3] false),size:=1,bytes:=8,zero:=Go.Value.nilFunc }
theorem tok82:TOk Tryz.prog 82 ti82:=⟨Tryz.underlying82,Tryz.t82,by kernel_rfl,rfl,rfl,rfl⟩
def ti83:TI:={ desc:=(Go.TypeDesc.func #[9,77,3] #[4] false),size:=1,bytes:=8,zero:=Go.Value.nilFunc }
theorem tok83:TOk Tryz.prog 83 ti83:=⟨Tryz.underlying83,Tryz.t83,by kernel_rfl,rfl,rfl,rfl⟩
def ti84:TI:={ desc:=(Go.TypeDesc.func #[49,28,65] #[4] false),size:=1,bytes:=8,zero:=Go.Value.nilFunc }
theorem tok84:TOk Tryz.prog 84 ti84:=⟨Tryz.underlying84,Tryz.t84,by kernel_rfl,rfl,rfl,rfl⟩
def ti85:TI:={ desc:=(Go.TypeDesc.func #[60,64] #[4] false),size:=1,bytes:=8,zero:=Go.Value.nilFunc }
theorem tok85:TOk Tryz.prog 85 ti85:=⟨Tryz.underlying85,Tryz.t85,by kernel_rfl,rfl,rfl,rfl⟩
def ti86:TI:={ desc:=(Go.TypeDesc.func #[9,64] #[4] false),size:=1,bytes:=8,zero:=Go.Value.nilFunc }
theorem tok86:TOk Tryz.prog 86 ti86:=⟨Tryz.underlying86,Tryz.t86,by kernel_rfl,rfl,rfl,rfl⟩
def ti87:TI:={ desc:=(Go.TypeDesc.slice 64),size:=1,bytes:=24,zero:=(Go.Value.slice none 0 0) }
theorem tok87:TOk Tryz.prog 87 ti87:=⟨Tryz.underlying87,Tryz.t87,by kernel_rfl,rfl,rfl,rfl⟩
def ti89:TI:={ desc:=(Go.TypeDesc.tuple #[88,87]),size:=1,bytes:=0,zero:=(Go.Value.tuple #[Go.Value.slice none 0 0,Go.Value.slice none 0 0]) }
theorem tok89:TOk Tryz.prog 89 ti89:=⟨Tryz.underlying89,Tryz.t89,by kernel_rfl,rfl,rfl,rfl⟩
def ti90:TI:={ desc:=(Go.TypeDesc.func #[87] #[88,87] false),size:=1,bytes:=8,zero:=Go.Value.nilFunc }
theorem tok90:TOk Tryz.prog 90 ti90:=⟨Tryz.underlying90,Tryz.t90,by kernel_rfl,rfl,rfl,rfl⟩
def ti93:TI:={ desc:=(Go.TypeDesc.int Go.IntKind.u64),size:=1,bytes:=8,zero:=(Go.Value.int Go.IntKind.u64 0) }
theorem tok93:TOk Tryz.prog 93 ti93:=⟨Tryz.underlying93,Tryz.t93,by kernel_rfl,rfl,rfl,rfl⟩
def ti95:TI:={ desc:=(Go.TypeDesc.func #[27,28,104] #[27,53] true),size:=1,bytes:=8,zero:=Go.Value.nilFunc }
theorem tok95:TOk Tryz.prog 95 ti95:=⟨Tryz.underlying95,Tryz.t95,by kernel_rfl,rfl,rfl,rfl⟩
def ti96:TI:={ desc:=(Go.TypeDesc.struct #[{ name:= "Col",type:=3,offset:=0,embedded:=false,tag:= "",pkgPath:= "",byteOffset:=0 },{ name:= "Down",type:=4,offset:=1,embedded:=false,tag:= "",pkgPath:= "",byteOffset:=8 }]),size:=2,bytes:=16,zero:=(Go.Value.agg #[Go.Value.int Go.IntKind.i64 0,Go.Value.bool false]) }
theorem tok96:TOk Tryz.prog 96 ti96:=⟨Tryz.underlying96,Tryz.t96,by kernel_rfl,rfl,rfl,rfl⟩
def ti97:TI:={ desc:=(Go.TypeDesc.struct #[{ name:= "Col",type:=3,offset:=0,embedded:=false,tag:= "",pkgPath:= "",byteOffset:=0 },{ name:= "Down",type:=4,offset:=1,embedded:=false,tag:= "",pkgPath:= "",byteOffset:=8 }]),size:=2,bytes:=16,zero:=(Go.Value.agg #[Go.Value.int Go.IntKind.i64 0,Go.Value.bool false]) }
theorem tok97:TOk Tryz.prog 97 ti97:=⟨Tryz.underlying97,Tryz.t97,by kernel_rfl,rfl,rfl,rfl⟩
def ti98:TI:={ desc:=(Go.TypeDesc.func #[] #[76] false),size:=1,bytes:=8,zero:=Go.Value.nilFunc }
theorem tok98:TOk Tryz.prog 98 ti98:=⟨Tryz.underlying98,Tryz.t98,by kernel_rfl,rfl,rfl,rfl⟩
def ti99:TI:={ desc:=(Go.TypeDesc.func #[9,93,5] #[4] false),size:=1,bytes:=8,zero:=Go.Value.nilFunc }
theorem tok99:TOk Tryz.prog 99 ti99:=⟨Tryz.underlying99,Tryz.t99,by kernel_rfl,rfl,rfl,rfl⟩
def ti100:TI:={ desc:=(Go.TypeDesc.func #[31,87,4] #[31,53] false),size:=1,bytes:=8,zero:=Go.Value.nilFunc }
theorem tok100:TOk Tryz.prog 100 ti100:=⟨Tryz.underlying100,Tryz.t100,by kernel_rfl,rfl,rfl,rfl⟩
def ti103:TI:={ desc:=(Go.TypeDesc.slice 189),size:=1,bytes:=24,zero:=(Go.Value.slice none 0 0) }
theorem tok103:TOk Tryz.prog 103 ti103:=⟨Tryz.underlying103,Tryz.t103,by kernel_rfl,rfl,rfl,rfl⟩
def ti104:TI:={ desc:=(Go.TypeDesc.slice 97),size:=1,bytes:=24,zero:=(Go.Value.slice none 0 0) }
theorem tok104:TOk Tryz.prog 104 ti104:=⟨Tryz.underlying104,Tryz.t104,by kernel_rfl,rfl,rfl,rfl⟩
def ti105:TI:={ desc:=(Go.TypeDesc.tuple #[104,103]),size:=1,bytes:=0,zero:=(Go.Value.tuple #[Go.Value.slice none 0 0,Go.Value.slice none 0 0]) }
theorem tok105:TOk Tryz.prog 105 ti105:=⟨Tryz.underlying105,Tryz.t105,by kernel_rfl,rfl,rfl,rfl⟩
def ti107:TI:={ desc:=(Go.TypeDesc.func #[31,103] #[31,53] false),size:=1,bytes:=8,zero:=Go.Value.nilFunc }
theorem tok107:TOk Tryz.prog 107 ti107:=⟨Tryz.underlying107,Tryz.t107,by kernel_rfl,rfl,rfl,rfl⟩
def ti108:TI:={ desc:=(Go.TypeDesc.func #[104] #[4] true),size:=1,bytes:=8,zero:=Go.Value.nilFunc }
theorem tok108:TOk Tryz.prog 108 ti108:=⟨Tryz.underlying108,Tryz.t108,by kernel_rfl,rfl,rfl,rfl⟩
def ti109:TI:={ desc:=(Go.TypeDesc.func #[103] #[4] false),size:=1,bytes:=8,zero:=Go.Value.nilFunc }
theorem tok109:TOk Tryz.prog 109 ti109:=⟨Tryz.underlying109,Tryz.t109,by kernel_rfl,rfl,rfl,rfl⟩
def ti113:TI:={ desc:=(Go.TypeDesc.func #[27,28,104] #[4] true),size:=1,bytes:=8,zero:=Go.Value.nilFunc }
theorem tok113:TOk Tryz.prog 113 ti113:=⟨Tryz.underlying113,Tryz.t113,by kernel_rfl,rfl,rfl,rfl⟩
def ti114:TI:={ desc:=(Go.TypeDesc.func #[31,103] #[4] false),size:=1,bytes:=8,zero:=Go.Value.nilFunc }
theorem tok114:TOk Tryz.prog 114 ti114:=⟨Tryz.underlying114,Tryz.t114,by kernel_rfl,rfl,rfl,rfl⟩
def ti116:TI:={ desc:=(Go.TypeDesc.func #[31] #[76] false),size:=1,bytes:=8,zero:=Go.Value.nilFunc }
theorem tok116:TOk Tryz.prog 116 ti116:=⟨Tryz.underlying116,Tryz.t116,by kernel_rfl,rfl,rfl,rfl⟩
def ti118:TI:={ desc:=(Go.TypeDesc.func #[60,60] #[4] false),size:=1,bytes:=8,zero:=Go.Value.nilFunc }
theorem tok118:TOk Tryz.prog 118 ti118:=⟨Tryz.underlying118,Tryz.t118,by kernel_rfl,rfl,rfl,rfl⟩
def ti119:TI:={ desc:=(Go.TypeDesc.func #[60,60,103] #[3] false),size:=1,bytes:=8,zero:=Go.Value.nilFunc }
theorem tok119:TOk Tryz.prog 119 ti119:=⟨Tryz.underlying119,Tryz.t119,by kernel_rfl,rfl,rfl,rfl⟩
def ti120:TI:={ desc:=(Go.TypeDesc.tuple #[27,28,53]),size:=1,bytes:=0,zero:=(Go.Value.tuple #[Go.Value.agg #[Go.Value.pointer none,Go.Value.bool false,Go.Value.int Go.IntKind.i64 0],Go.Value.pointer none,Go.Value.int Go.IntKind.i64 0]) }
theorem tok120:TOk Tryz.prog 120 ti120:=⟨Tryz.underlying120,Tryz.t120,by kernel_rfl,rfl,rfl,rfl⟩
def ti121:TI:={ desc:=(Go.TypeDesc.func #[122] #[27,28,53] false),size:=1,bytes:=8,zero:=Go.Value.nilFunc }
theorem tok121:TOk Tryz.prog 121 ti121:=⟨Tryz.underlying121,Tryz.t121,by kernel_rfl,rfl,rfl,rfl⟩
def ti122:TI:={ desc:=(Go.TypeDesc.slice 5),size:=1,bytes:=24,zero:=(Go.Value.slice none 0 0) }
theorem tok122:TOk Tryz.prog 122 ti122:=⟨Tryz.underlying122,Tryz.t122,by kernel_rfl,rfl,rfl,rfl⟩
def ti123:TI:={ desc:=(Go.TypeDesc.func #[9] #[31,53] false),size:=1,bytes:=8,zero:=Go.Value.nilFunc }
theorem tok123:TOk Tryz.prog 123 ti123:=⟨Tryz.underlying123,Tryz.t123,by kernel_rfl,rfl,rfl,rfl⟩
def ti126:TI:={ desc:=(Go.TypeDesc.func #[31,3,3] #[31,53] false),size:=1,bytes:=8,zero:=Go.Value.nilFunc }
theorem tok126:TOk Tryz.prog 126 ti126:=⟨Tryz.underlying126,Tryz.t126,by kernel_rfl,rfl,rfl,rfl⟩
def ti128:TI:={ desc:=(Go.TypeDesc.func #[28,49] #[60] false),size:=1,bytes:=8,zero:=Go.Value.nilFunc }
theorem tok128:TOk Tryz.prog 128 ti128:=⟨Tryz.underlying128,Tryz.t128,by kernel_rfl,rfl,rfl,rfl⟩
def ti130:TI:={ desc:=(Go.TypeDesc.func #[49] #[4] false),size:=1,bytes:=8,zero:=Go.Value.nilFunc }
theorem tok130:TOk Tryz.prog 130 ti130:=⟨Tryz.underlying130,Tryz.t130,by kernel_rfl,rfl,rfl,rfl⟩
def ti132:TI:={ desc:=(Go.TypeDesc.func #[225] #[] false),size:=1,bytes:=8,zero:=Go.Value.nilFunc }
theorem tok132:TOk Tryz.prog 132 ti132:=⟨Tryz.underlying132,Tryz.t132,by kernel_rfl,rfl,rfl,rfl⟩
def ti133:TI:={ desc:=(Go.TypeDesc.func #[225] #[] false),size:=1,bytes:=8,zero:=Go.Value.nilFunc }
theorem tok133:TOk Tryz.prog 133 ti133:=⟨Tryz.underlying133,Tryz.t133,by kernel_rfl,rfl,rfl,rfl⟩
def ti135:TI:={ desc:=(Go.TypeDesc.func #[27,145] #[27,53] false),size:=1,bytes:=8,zero:=Go.Value.nilFunc }
theorem tok135:TOk Tryz.prog 135 ti135:=⟨Tryz.underlying135,Tryz.t135,by kernel_rfl,rfl,rfl,rfl⟩
def ti136:TI:={ desc:=(Go.TypeDesc.tuple #[49,53]),size:=1,bytes:=0,zero:=(Go.Value.tuple #[Go.Value.agg #[Go.Value.slice none 0 0,Go.Value.int Go.IntKind.i64 0,Go.Value.bool false],Go.Value.int Go.IntKind.i64 0]) }
theorem tok136:TOk Tryz.prog 136 ti136:=⟨Tryz.underlying136,Tryz.t136,by kernel_rfl,rfl,rfl,rfl⟩
def ti138:TI:={ desc:=(Go.TypeDesc.slice 142),size:=1,bytes:=24,zero:=(Go.Value.slice none 0 0) }
theorem tok138:TOk Tryz.prog 138 ti138:=⟨Tryz.underlying138,Tryz.t138,by kernel_rfl,rfl,rfl,rfl⟩
def ti140:TI:={ desc:=(Go.TypeDesc.struct #[{ name:= "l",type:=138,offset:=0,embedded:=false,tag:= "",pkgPath:= "damier/piece",byteOffset:=0 },{ name:= "n",type:=3,offset:=1,embedded:=false,tag:= "",pkgPath:= "damier/piece",byteOffset:=24 }]),size:=2,bytes:=32,zero:=(Go.Value.agg #[Go.Value.slice none 0 0,Go.Value.int Go.IntKind.i64 0]) }
theorem tok140:TOk Tryz.prog 140 ti140:=⟨Tryz.underlying140,Tryz.t140,by kernel_rfl,rfl,rfl,rfl⟩
def ti142:TI:={ desc:=(Go.TypeDesc.struct #[{ name:= "At",type:=3,offset:=0,embedded:=false,tag:= "",pkgPath:= "",byteOffset:=0 },{ name:= "N",type:=3,offset:=1,embedded:=false,tag:= "",pkgPath:= "",byteOffset:=8 }]),size:=2,bytes:=16,zero:=(Go.Value.agg #[Go.Value.int Go.IntKind.i64 0,Go.Value.int Go.IntKind.i64 0]) }
theorem tok142:TOk Tryz.prog 142 ti142:=⟨Tryz.underlying142,Tryz.t142,by kernel_rfl,rfl,rfl,rfl⟩
def ti144:TI:={ desc:=(Go.TypeDesc.struct #[{ name:= "Text",type:=140,offset:=0,embedded:=false,tag:= "",pkgPath:= "",byteOffset:=0 },{ name:= "Raw",type:=142,offset:=2,embedded:=false,tag:= "",pkgPath:= "",byteOffset:=32 },{ name:= "Kept",type:=4,offset:=4,embedded:=false,tag:= "",pkgPath:= "",byteOffset:=48 }]),size:=5,bytes:=56,zero:=(Go.Value.agg #[Go.Value.slice none 0 0,Go.Value.int Go.IntKind.i64 0,Go.Value.int Go.IntKind.i64 0,Go.Value.int Go.IntKind.i64 0,Go.Value.bool false]) }
theorem tok144:TOk Tryz.prog 144 ti144:=⟨Tryz.underlying144,Tryz.t144,by kernel_rfl,rfl,rfl,rfl⟩
def ti145:TI:={ desc:=(Go.TypeDesc.func #[49] #[49,53] false),size:=1,bytes:=8,zero:=Go.Value.nilFunc }
theorem tok145:TOk Tryz.prog 145 ti145:=⟨Tryz.underlying145,Tryz.t145,by kernel_rfl,rfl,rfl,rfl⟩
def ti146:TI:={ desc:=(Go.TypeDesc.func #[3] #[49,53] false),size:=1,bytes:=8,zero:=Go.Value.nilFunc }
theorem tok146:TOk Tryz.prog 146 ti146:=⟨Tryz.underlying146,Tryz.t146,by kernel_rfl,rfl,rfl,rfl⟩
def ti148:TI:={ desc:=(Go.TypeDesc.func #[3] #[49] false),size:=1,bytes:=8,zero:=Go.Value.nilFunc }
theorem tok148:TOk Tryz.prog 148 ti148:=⟨Tryz.underlying148,Tryz.t148,by kernel_rfl,rfl,rfl,rfl⟩
def ti151:TI:={ desc:=(Go.TypeDesc.struct #[{ name:= "S",type:=9,offset:=0,embedded:=false,tag:= "",pkgPath:= "",byteOffset:=0 },{ name:= "Raw",type:=9,offset:=1,embedded:=false,tag:= "",pkgPath:= "",byteOffset:=16 },{ name:= "Kept",type:=4,offset:=2,embedded:=false,tag:= "",pkgPath:= "",byteOffset:=32 }]),size:=3,bytes:=40,zero:=(Go.Value.agg #[Go.Value.string { data:=#[] },Go.Value.string { data:=#[] },Go.Value.bool false]) }
theorem tok151:TOk Tryz.prog 151 ti151:=⟨Tryz.underlying151,Tryz.t151,by kernel_rfl,rfl,rfl,rfl⟩
def ti154:TI:={ desc:=(Go.TypeDesc.tuple #[3,3]),size:=1,bytes:=0,zero:=(Go.Value.tuple #[Go.Value.int Go.IntKind.i64 0,Go.Value.int Go.IntKind.i64 0]) }
theorem tok154:TOk Tryz.prog 154 ti154:=⟨Tryz.underlying154,Tryz.t154,by kernel_rfl,rfl,rfl,rfl⟩
def ti159:TI:={ desc:=(Go.TypeDesc.slice 4),size:=1,bytes:=24,zero:=(Go.Value.slice none 0 0) }
theorem tok159:TOk Tryz.prog 159 ti159:=⟨Tryz.underlying159,Tryz.t159,by kernel_rfl,rfl,rfl,rfl⟩
def ti160:TI:={ desc:=(Go.TypeDesc.tuple #[159,4]),size:=1,bytes:=0,zero:=(Go.Value.tuple #[Go.Value.slice none 0 0,Go.Value.bool false]) }
theorem tok160:TOk Tryz.prog 160 ti160:=⟨Tryz.underlying160,Tryz.t160,by kernel_rfl,rfl,rfl,rfl⟩
def ti162:TI:={ desc:=(Go.TypeDesc.func #[159,159] #[4] false),size:=1,bytes:=8,zero:=Go.Value.nilFunc }
theorem tok162:TOk Tryz.prog 162 ti162:=⟨Tryz.underlying162,Tryz.t162,by kernel_rfl,rfl,rfl,rfl⟩
def ti163:TI:={ desc:=(Go.TypeDesc.slice 49),size:=1,bytes:=24,zero:=(Go.Value.slice none 0 0) }
theorem tok163:TOk Tryz.prog 163 ti163:=⟨Tryz.underlying163,Tryz.t163,by kernel_rfl,rfl,rfl,rfl⟩
def ti165:TI:={ desc:=(Go.TypeDesc.func #[163] #[25] true),size:=1,bytes:=8,zero:=Go.Value.nilFunc }
theorem tok165:TOk Tryz.prog 165 ti165:=⟨Tryz.underlying165,Tryz.t165,by kernel_rfl,rfl,rfl,rfl⟩
def ti166:TI:={ desc:=(Go.TypeDesc.func #[76,3] #[3] false),size:=1,bytes:=8,zero:=Go.Value.nilFunc }
theorem tok166:TOk Tryz.prog 166 ti166:=⟨Tryz.underlying166,Tryz.t166,by kernel_rfl,rfl,rfl,rfl⟩
def ti168:TI:={ desc:=(Go.TypeDesc.tuple #[163,76]),size:=1,bytes:=0,zero:=(Go.Value.tuple #[Go.Value.slice none 0 0,Go.Value.slice none 0 0]) }
theorem tok168:TOk Tryz.prog 168 ti168:=⟨Tryz.underlying168,Tryz.t168,by kernel_rfl,rfl,rfl,rfl⟩
def ti170:TI:={ desc:=(Go.TypeDesc.func #[49,49] #[3] false),size:=1,bytes:=8,zero:=Go.Value.nilFunc }
theorem tok170:TOk Tryz.prog 170 ti170:=⟨Tryz.underlying170,Tryz.t170,by kernel_rfl,rfl,rfl,rfl⟩
def ti174:TI:={ desc:=(Go.TypeDesc.func #[49,49] #[4] false),size:=1,bytes:=8,zero:=Go.Value.nilFunc }
theorem tok174:TOk Tryz.prog 174 ti174:=⟨Tryz.underlying174,Tryz.t174,by kernel_rfl,rfl,rfl,rfl⟩
def ti176:TI:={ desc:=(Go.TypeDesc.func #[60,3] #[9] false),size:=1,bytes:=8,zero:=Go.Value.nilFunc }
theorem tok176:TOk Tryz.prog 176 ti176:=⟨Tryz.underlying176,Tryz.t176,by kernel_rfl,rfl,rfl,rfl⟩
def ti177:TI:={ desc:=(Go.TypeDesc.tuple #[144,4]),size:=1,bytes:=0,zero:=(Go.Value.tuple #[Go.Value.agg #[Go.Value.slice none 0 0,Go.Value.int Go.IntKind.i64 0,Go.Value.int Go.IntKind.i64 0,Go.Value.int Go.IntKind.i64 0,Go.Value.bool false],Go.Value.bool false]) }
theorem tok177:TOk Tryz.prog 177 ti177:=⟨Tryz.underlying177,Tryz.t177,by kernel_rfl,rfl,rfl,rfl⟩
def ti179:TI:={ desc:=(Go.TypeDesc.func #[122,122] #[4] false),size:=1,bytes:=8,zero:=Go.Value.nilFunc }
theorem tok179:TOk Tryz.prog 179 ti179:=⟨Tryz.underlying179,Tryz.t179,by kernel_rfl,rfl,rfl,rfl⟩
def ti189:TI:={ desc:=(Go.TypeDesc.struct #[{ name:= "Col",type:=3,offset:=0,embedded:=false,tag:= "",pkgPath:= "",byteOffset:=0 },{ name:= "Down",type:=4,offset:=1,embedded:=false,tag:= "",pkgPath:= "",byteOffset:=8 }]),size:=2,bytes:=16,zero:=(Go.Value.agg #[Go.Value.int Go.IntKind.i64 0,Go.Value.bool false]) }
theorem tok189:TOk Tryz.prog 189 ti189:=⟨Tryz.underlying189,Tryz.t189,by kernel_rfl,rfl,rfl,rfl⟩
def ti190:TI:={ desc:=(Go.TypeDesc.func #[97] #[4] false),size:=1,bytes:=8,zero:=Go.Value.nilFunc }
theorem tok190:TOk Tryz.prog 190 ti190:=⟨Tryz.underlying190,Tryz.t190,by kernel_rfl,rfl,rfl,rfl⟩
def ti193:TI:={ desc:=(Go.TypeDesc.slice 163),size:=1,bytes:=24,zero:=(Go.Value.slice none 0 0) }
theorem tok193:TOk Tryz.prog 193 ti193:=⟨Tryz.underlying193,Tryz.t193,by kernel_rfl,rfl,rfl,rfl⟩
def ti195:TI:={ desc:=(Go.TypeDesc.tuple #[28,53]),size:=1,bytes:=0,zero:=(Go.Value.tuple #[Go.Value.pointer none,Go.Value.int Go.IntKind.i64 0]) }
theorem tok195:TOk Tryz.prog 195 ti195:=⟨Tryz.underlying195,Tryz.t195,by kernel_rfl,rfl,rfl,rfl⟩
def ti198:TI:={ desc:=(Go.TypeDesc.slice 202),size:=1,bytes:=24,zero:=(Go.Value.slice none 0 0) }
theorem tok198:TOk Tryz.prog 198 ti198:=⟨Tryz.underlying198,Tryz.t198,by kernel_rfl,rfl,rfl,rfl⟩
def ti200:TI:={ desc:=(Go.TypeDesc.slice 270),size:=1,bytes:=24,zero:=(Go.Value.slice none 0 0) }
theorem tok200:TOk Tryz.prog 200 ti200:=⟨Tryz.underlying200,Tryz.t200,by kernel_rfl,rfl,rfl,rfl⟩
def ti202:TI:={ desc:=(Go.TypeDesc.struct #[{ name:= "Fields",type:=200,offset:=0,embedded:=false,tag:= "",pkgPath:= "",byteOffset:=0 },{ name:= "End",type:=3,offset:=1,embedded:=false,tag:= "",pkgPath:= "",byteOffset:=24 }]),size:=2,bytes:=32,zero:=(Go.Value.agg #[Go.Value.slice none 0 0,Go.Value.int Go.IntKind.i64 0]) }
theorem tok202:TOk Tryz.prog 202 ti202:=⟨Tryz.underlying202,Tryz.t202,by kernel_rfl,rfl,rfl,rfl⟩
def ti204:TI:={ desc:=(Go.TypeDesc.tuple #[4,3]),size:=1,bytes:=0,zero:=(Go.Value.tuple #[Go.Value.bool false,Go.Value.int Go.IntKind.i64 0]) }
theorem tok204:TOk Tryz.prog 204 ti204:=⟨Tryz.underlying204,Tryz.t204,by kernel_rfl,rfl,rfl,rfl⟩
def ti206:TI:={ desc:=(Go.TypeDesc.slice 210),size:=1,bytes:=24,zero:=(Go.Value.slice none 0 0) }
theorem tok206:TOk Tryz.prog 206 ti206:=⟨Tryz.underlying206,Tryz.t206,by kernel_rfl,rfl,rfl,rfl⟩
def ti208:TI:={ desc:=(Go.TypeDesc.slice 276),size:=1,bytes:=24,zero:=(Go.Value.slice none 0 0) }
theorem tok208:TOk Tryz.prog 208 ti208:=⟨Tryz.underlying208,Tryz.t208,by kernel_rfl,rfl,rfl,rfl⟩
def ti210:TI:={ desc:=(Go.TypeDesc.struct #[{ name:= "Fields",type:=208,offset:=0,embedded:=false,tag:= "",pkgPath:= "",byteOffset:=0 },{ name:= "End",type:=3,offset:=1,embedded:=false,tag:= "",pkgPath:= "",byteOffset:=24 }]),size:=2,bytes:=32,zero:=(Go.Value.agg #[Go.Value.slice none 0 0,Go.Value.int Go.IntKind.i64 0]) }
theorem tok210:TOk Tryz.prog 210 ti210:=⟨Tryz.underlying210,Tryz.t210,by kernel_rfl,rfl,rfl,rfl⟩
def ti211:TI:={ desc:=(Go.TypeDesc.tuple #[60,53]),size:=1,bytes:=0,zero:=(Go.Value.tuple #[Go.Value.agg #[Go.Value.slice none 0 0,Go.Value.int Go.IntKind.i64 0,Go.Value.bool false],Go.Value.int Go.IntKind.i64 0]) }
theorem tok211:TOk Tryz.prog 211 ti211:=⟨Tryz.underlying211,Tryz.t211,by kernel_rfl,rfl,rfl,rfl⟩
def ti219:TI:={ desc:=(Go.TypeDesc.func #[60,3] #[60] false),size:=1,bytes:=8,zero:=Go.Value.nilFunc }
theorem tok219:TOk Tryz.prog 219 ti219:=⟨Tryz.underlying219,Tryz.t219,by kernel_rfl,rfl,rfl,rfl⟩
def ti221:TI:={ desc:=(Go.TypeDesc.slice 23),size:=1,bytes:=24,zero:=(Go.Value.slice none 0 0) }
theorem tok221:TOk Tryz.prog 221 ti221:=⟨Tryz.underlying221,Tryz.t221,by kernel_rfl,rfl,rfl,rfl⟩
def ti223:TI:={ desc:=(Go.TypeDesc.struct #[{ name:= "Kids",type:=221,offset:=0,embedded:=false,tag:= "",pkgPath:= "",byteOffset:=0 },{ name:= "Items",type:=163,offset:=1,embedded:=false,tag:= "",pkgPath:= "",byteOffset:=24 },{ name:= "N",type:=3,offset:=2,embedded:=false,tag:= "",pkgPath:= "",byteOffset:=48 }]),size:=3,bytes:=56,zero:=(Go.Value.agg #[Go.Value.slice none 0 0,Go.Value.slice none 0 0,Go.Value.int Go.IntKind.i64 0]) }
theorem tok223:TOk Tryz.prog 223 ti223:=⟨Tryz.underlying223,Tryz.t223,by kernel_rfl,rfl,rfl,rfl⟩
def ti225:TI:={ desc:=(Go.TypeDesc.func #[3,49] #[4] false),size:=1,bytes:=8,zero:=Go.Value.nilFunc }
theorem tok225:TOk Tryz.prog 225 ti225:=⟨Tryz.underlying225,Tryz.t225,by kernel_rfl,rfl,rfl,rfl⟩
def ti226:TI:={ desc:=(Go.TypeDesc.slice 234),size:=1,bytes:=24,zero:=(Go.Value.slice none 0 0) }
theorem tok226:TOk Tryz.prog 226 ti226:=⟨Tryz.underlying226,Tryz.t226,by kernel_rfl,rfl,rfl,rfl⟩
def ti228:TI:={ desc:=(Go.TypeDesc.struct #[{ name:= "l",type:=226,offset:=0,embedded:=false,tag:= "",pkgPath:= "damier/walk",byteOffset:=0 }]),size:=1,bytes:=24,zero:=(Go.Value.agg #[Go.Value.slice none 0 0]) }
theorem tok228:TOk Tryz.prog 228 ti228:=⟨Tryz.underlying228,Tryz.t228,by kernel_rfl,rfl,rfl,rfl⟩
def ti231:TI:={ desc:=(Go.TypeDesc.pointer 234),size:=1,bytes:=8,zero:=(Go.Value.pointer none) }
theorem tok231:TOk Tryz.prog 231 ti231:=⟨Tryz.underlying231,Tryz.t231,by kernel_rfl,rfl,rfl,rfl⟩
def ti234:TI:={ desc:=(Go.TypeDesc.struct #[{ name:= "n",type:=23,offset:=0,embedded:=false,tag:= "",pkgPath:= "damier/walk",byteOffset:=0 },{ name:= "first",type:=3,offset:=1,embedded:=false,tag:= "",pkgPath:= "damier/walk",byteOffset:=8 },{ name:= "next",type:=3,offset:=2,embedded:=false,tag:= "",pkgPath:= "damier/walk",byteOffset:=16 }]),size:=3,bytes:=24,zero:=(Go.Value.agg #[Go.Value.pointer none,Go.Value.int Go.IntKind.i64 0,Go.Value.int Go.IntKind.i64 0]) }
theorem tok234:TOk Tryz.prog 234 ti234:=⟨Tryz.underlying234,Tryz.t234,by kernel_rfl,rfl,rfl,rfl⟩
def ti244:TI:={ desc:=(Go.TypeDesc.tuple #[93,4]),size:=1,bytes:=0,zero:=(Go.Value.tuple #[Go.Value.int Go.IntKind.u64 0,Go.Value.bool false]) }
theorem tok244:TOk Tryz.prog 244 ti244:=⟨Tryz.underlying244,Tryz.t244,by kernel_rfl,rfl,rfl,rfl⟩
def ti252:TI:={ desc:=(Go.TypeDesc.tuple #[3,4]),size:=1,bytes:=0,zero:=(Go.Value.tuple #[Go.Value.int Go.IntKind.i64 0,Go.Value.bool false]) }
theorem tok252:TOk Tryz.prog 252 ti252:=⟨Tryz.underlying252,Tryz.t252,by kernel_rfl,rfl,rfl,rfl⟩
def ti257:TI:={ desc:=(Go.TypeDesc.tuple #[25,4]),size:=1,bytes:=0,zero:=(Go.Value.tuple #[Go.Value.agg #[Go.Value.pointer none],Go.Value.bool false]) }
theorem tok257:TOk Tryz.prog 257 ti257:=⟨Tryz.underlying257,Tryz.t257,by kernel_rfl,rfl,rfl,rfl⟩
def ti261:TI:={ desc:=(Go.TypeDesc.func #[3,3] #[3] false),size:=1,bytes:=8,zero:=Go.Value.nilFunc }
theorem tok261:TOk Tryz.prog 261 ti261:=⟨Tryz.underlying261,Tryz.t261,by kernel_rfl,rfl,rfl,rfl⟩
def ti264:TI:={ desc:=(Go.TypeDesc.struct #[{ name:= "b",type:=122,offset:=0,embedded:=false,tag:= "",pkgPath:= "damier/arena",byteOffset:=0 }]),size:=1,bytes:=24,zero:=(Go.Value.agg #[Go.Value.slice none 0 0]) }
theorem tok264:TOk Tryz.prog 264 ti264:=⟨Tryz.underlying264,Tryz.t264,by kernel_rfl,rfl,rfl,rfl⟩
def ti265:TI:={ desc:=(Go.TypeDesc.pointer 267),size:=1,bytes:=8,zero:=(Go.Value.pointer none) }
theorem tok265:TOk Tryz.prog 265 ti265:=⟨Tryz.underlying265,Tryz.t265,by kernel_rfl,rfl,rfl,rfl⟩
def ti267:TI:={ desc:=(Go.TypeDesc.struct #[{ name:= "b",type:=122,offset:=0,embedded:=false,tag:= "",pkgPath:= "damier/scan",byteOffset:=0 },{ name:= "at",type:=3,offset:=1,embedded:=false,tag:= "",pkgPath:= "damier/scan",byteOffset:=24 }]),size:=2,bytes:=32,zero:=(Go.Value.agg #[Go.Value.slice none 0 0,Go.Value.int Go.IntKind.i64 0]) }
theorem tok267:TOk Tryz.prog 267 ti267:=⟨Tryz.underlying267,Tryz.t267,by kernel_rfl,rfl,rfl,rfl⟩
def ti270:TI:={ desc:=(Go.TypeDesc.struct #[{ name:= "Raw",type:=142,offset:=0,embedded:=false,tag:= "",pkgPath:= "",byteOffset:=0 },{ name:= "Kind",type:=3,offset:=2,embedded:=false,tag:= "",pkgPath:= "",byteOffset:=16 },{ name:= "Parts",type:=138,offset:=3,embedded:=false,tag:= "",pkgPath:= "",byteOffset:=24 }]),size:=4,bytes:=48,zero:=(Go.Value.agg #[Go.Value.int Go.IntKind.i64 0,Go.Value.int Go.IntKind.i64 0,Go.Value.int Go.IntKind.i64 0,Go.Value.slice none 0 0]) }
theorem tok270:TOk Tryz.prog 270 ti270:=⟨Tryz.underlying270,Tryz.t270,by kernel_rfl,rfl,rfl,rfl⟩
def ti272:TI:={ desc:=(Go.TypeDesc.tuple #[210,3]),size:=1,bytes:=0,zero:=(Go.Value.tuple #[Go.Value.agg #[Go.Value.slice none 0 0,Go.Value.int Go.IntKind.i64 0],Go.Value.int Go.IntKind.i64 0]) }
theorem tok272:TOk Tryz.prog 272 ti272:=⟨Tryz.underlying272,Tryz.t272,by kernel_rfl,rfl,rfl,rfl⟩
def ti274:TI:={ desc:=(Go.TypeDesc.struct #[{ name:= "At",type:=3,offset:=0,embedded:=false,tag:= "",pkgPath:= "",byteOffset:=0 },{ name:= "N",type:=3,offset:=1,embedded:=false,tag:= "",pkgPath:= "",byteOffset:=8 }]),size:=2,bytes:=16,zero:=(Go.Value.agg #[Go.Value.int Go.IntKind.i64 0,Go.Value.int Go.IntKind.i64 0]) }
theorem tok274:TOk Tryz.prog 274 ti274:=⟨Tryz.underlying274,Tryz.t274,by kernel_rfl,rfl,rfl,rfl⟩
def ti276:TI:={ desc:=(Go.TypeDesc.struct #[{ name:= "Raw",type:=274,offset:=0,embedded:=false,tag:= "",pkgPath:= "",byteOffset:=0 },{ name:= "Kind",type:=3,offset:=2,embedded:=false,tag:= "",pkgPath:= "",byteOffset:=16 },{ name:= "Bytes",type:=76,offset:=3,embedded:=false,tag:= "",pkgPath:= "",byteOffset:=24 }]),size:=4,bytes:=48,zero:=(Go.Value.agg #[Go.Value.int Go.IntKind.i64 0,Go.Value.int Go.IntKind.i64 0,Go.Value.int Go.IntKind.i64 0,Go.Value.slice none 0 0]) }
theorem tok276:TOk Tryz.prog 276 ti276:=⟨Tryz.underlying276,Tryz.t276,by kernel_rfl,rfl,rfl,rfl⟩
def ti280:TI:={ desc:=(Go.TypeDesc.pointer 228),size:=1,bytes:=8,zero:=(Go.Value.pointer none) }
theorem tok280:TOk Tryz.prog 280 ti280:=⟨Tryz.underlying280,Tryz.t280,by kernel_rfl,rfl,rfl,rfl⟩
def ti302:TI:={ desc:=(Go.TypeDesc.slice 76),size:=1,bytes:=24,zero:=(Go.Value.slice none 0 0) }
theorem tok302:TOk Tryz.prog 302 ti302:=⟨Tryz.underlying302,Tryz.t302,by kernel_rfl,rfl,rfl,rfl⟩
def ti311:TI:={ desc:=(Go.TypeDesc.slice 221),size:=1,bytes:=24,zero:=(Go.Value.slice none 0 0) }
theorem tok311:TOk Tryz.prog 311 ti311:=⟨Tryz.underlying311,Tryz.t311,by kernel_rfl,rfl,rfl,rfl⟩
def ti314:TI:={ desc:=(Go.TypeDesc.tuple #[4,122]),size:=1,bytes:=0,zero:=(Go.Value.tuple #[Go.Value.bool false,Go.Value.slice none 0 0]) }
theorem tok314:TOk Tryz.prog 314 ti314:=⟨Tryz.underlying314,Tryz.t314,by kernel_rfl,rfl,rfl,rfl⟩
def ti318:TI:={ desc:=(Go.TypeDesc.pointer 321),size:=1,bytes:=8,zero:=(Go.Value.pointer none) }
theorem tok318:TOk Tryz.prog 318 ti318:=⟨Tryz.underlying318,Tryz.t318,by kernel_rfl,rfl,rfl,rfl⟩
def ti319:TI:={ desc:=(Go.TypeDesc.slice 324),size:=1,bytes:=24,zero:=(Go.Value.slice none 0 0) }
theorem tok319:TOk Tryz.prog 319 ti319:=⟨Tryz.underlying319,Tryz.t319,by kernel_rfl,rfl,rfl,rfl⟩
def ti321:TI:={ desc:=(Go.TypeDesc.struct #[{ name:= "l",type:=319,offset:=0,embedded:=false,tag:= "",pkgPath:= "damier/merge",byteOffset:=0 },{ name:= "compare",type:=170,offset:=1,embedded:=false,tag:= "",pkgPath:= "damier/merge",byteOffset:=24 }]),size:=2,bytes:=32,zero:=(Go.Value.agg #[Go.Value.slice none 0 0,Go.Value.nilFunc]) }
theorem tok321:TOk Tryz.prog 321 ti321:=⟨Tryz.underlying321,Tryz.t321,by kernel_rfl,rfl,rfl,rfl⟩
def ti324:TI:={ desc:=(Go.TypeDesc.struct #[{ name:= "rest",type:=163,offset:=0,embedded:=false,tag:= "",pkgPath:= "damier/merge",byteOffset:=0 },{ name:= "which",type:=3,offset:=1,embedded:=false,tag:= "",pkgPath:= "damier/merge",byteOffset:=24 }]),size:=2,bytes:=32,zero:=(Go.Value.agg #[Go.Value.slice none 0 0,Go.Value.int Go.IntKind.i64 0]) }
theorem tok324:TOk Tryz.prog 324 ti324:=⟨Tryz.underlying324,Tryz.t324,by kernel_rfl,rfl,rfl,rfl⟩
def ti325:TI:={ desc:=(Go.TypeDesc.pointer 324),size:=1,bytes:=8,zero:=(Go.Value.pointer none) }
theorem tok325:TOk Tryz.prog 325 ti325:=⟨Tryz.underlying325,Tryz.t325,by kernel_rfl,rfl,rfl,rfl⟩
def ti334:TI:={ desc:=(Go.TypeDesc.tuple #[3,138]),size:=1,bytes:=0,zero:=(Go.Value.tuple #[Go.Value.int Go.IntKind.i64 0,Go.Value.slice none 0 0]) }
theorem tok334:TOk Tryz.prog 334 ti334:=⟨Tryz.underlying334,Tryz.t334,by kernel_rfl,rfl,rfl,rfl⟩
def ti345:TI:={ desc:=(Go.TypeDesc.interface #[("Len",46),("Less",363),("Pop",349),("Push",346),("Swap",347)]),size:=1,bytes:=16,zero:=Go.Value.nilIface }
theorem tok345:TOk Tryz.prog 345 ti345:=⟨Tryz.underlying345,Tryz.t345,by kernel_rfl,rfl,rfl,rfl⟩
def ti352:TI:={ desc:=(Go.TypeDesc.pointer 355),size:=1,bytes:=8,zero:=(Go.Value.pointer none) }
theorem tok352:TOk Tryz.prog 352 ti352:=⟨Tryz.underlying352,Tryz.t352,by kernel_rfl,rfl,rfl,rfl⟩
def ti353:TI:={ desc:=(Go.TypeDesc.slice 357),size:=1,bytes:=24,zero:=(Go.Value.slice none 0 0) }
theorem tok353:TOk Tryz.prog 353 ti353:=⟨Tryz.underlying353,Tryz.t353,by kernel_rfl,rfl,rfl,rfl⟩
def ti355:TI:={ desc:=(Go.TypeDesc.struct #[{ name:= "l",type:=353,offset:=0,embedded:=false,tag:= "",pkgPath:= "damier/merge",byteOffset:=0 },{ name:= "compare",type:=261,offset:=1,embedded:=false,tag:= "",pkgPath:= "damier/merge",byteOffset:=24 }]),size:=2,bytes:=32,zero:=(Go.Value.agg #[Go.Value.slice none 0 0,Go.Value.nilFunc]) }
theorem tok355:TOk Tryz.prog 355 ti355:=⟨Tryz.underlying355,Tryz.t355,by kernel_rfl,rfl,rfl,rfl⟩
def ti357:TI:={ desc:=(Go.TypeDesc.struct #[{ name:= "rest",type:=76,offset:=0,embedded:=false,tag:= "",pkgPath:= "damier/merge",byteOffset:=0 },{ name:= "which",type:=3,offset:=1,embedded:=false,tag:= "",pkgPath:= "damier/merge",byteOffset:=24 }]),size:=2,bytes:=32,zero:=(Go.Value.agg #[Go.Value.slice none 0 0,Go.Value.int Go.IntKind.i64 0]) }
theorem tok357:TOk Tryz.prog 357 ti357:=⟨Tryz.underlying357,Tryz.t357,by kernel_rfl,rfl,rfl,rfl⟩
def ti358:TI:={ desc:=(Go.TypeDesc.pointer 357),size:=1,bytes:=8,zero:=(Go.Value.pointer none) }
theorem tok358:TOk Tryz.prog 358 ti358:=⟨Tryz.underlying358,Tryz.t358,by kernel_rfl,rfl,rfl,rfl⟩
def ti359:TI:={ desc:=(Go.TypeDesc.slice 142),size:=1,bytes:=24,zero:=(Go.Value.slice none 0 0) }
theorem tok359:TOk Tryz.prog 359 ti359:=⟨Tryz.underlying359,Tryz.t359,by kernel_rfl,rfl,rfl,rfl⟩
def ti360:TI:={ desc:=(Go.TypeDesc.pointer 140),size:=1,bytes:=8,zero:=(Go.Value.pointer none) }
theorem tok360:TOk Tryz.prog 360 ti360:=⟨Tryz.underlying360,Tryz.t360,by kernel_rfl,rfl,rfl,rfl⟩
def ti361:TI:={ desc:=(Go.TypeDesc.tuple #[142,4]),size:=1,bytes:=0,zero:=(Go.Value.tuple #[Go.Value.agg #[Go.Value.int Go.IntKind.i64 0,Go.Value.int Go.IntKind.i64 0],Go.Value.bool false]) }
theorem tok361:TOk Tryz.prog 361 ti361:=⟨Tryz.underlying361,Tryz.t361,by kernel_rfl,rfl,rfl,rfl⟩
def ti363:TI:={ desc:=(Go.TypeDesc.func #[3,3] #[4] false),size:=1,bytes:=8,zero:=Go.Value.nilFunc }
theorem tok363:TOk Tryz.prog 363 ti363:=⟨Tryz.underlying363,Tryz.t363,by kernel_rfl,rfl,rfl,rfl⟩
def ti366:TI:={ desc:=(Go.TypeDesc.pointer 359),size:=1,bytes:=8,zero:=(Go.Value.pointer none) }
theorem tok366:TOk Tryz.prog 366 ti366:=⟨Tryz.underlying366,Tryz.t366,by kernel_rfl,rfl,rfl,rfl⟩
def tab:List (TypeId × TI):=[(0,ti0),(1,ti1),(2,ti2),(3,ti3),(4,ti4),(5,ti5),(6,ti6),(7,ti7),(8,ti8),(9,ti9),(10,ti10),(11,ti11),(12,ti12),(13,ti13),(14,ti14),(15,ti15),(16,ti16),(17,ti17),(18,ti18),(19,ti19),(20,ti20),(21,ti21),(22,ti22),(23,ti23),(24,ti24),(25,ti25),(26,ti26),(27,ti27),(28,ti28),(29,ti29),(30,ti30),(31,ti31),(32,ti32),(33,ti33),(34,ti34),(35,ti35),(36,ti36),(37,ti37),(38,ti38),(39,ti39),(40,ti40),(41,ti41),(42,ti42),(43,ti43),(44,ti44),(45,ti45),(47,ti47),(48,ti48),(49,ti49),(50,ti50),(51,ti51),(52,ti52),(53,ti53),(54,ti54),(55,ti55),(56,ti56),(57,ti57),(58,ti58),(59,ti59),(60,ti60),(62,ti62),(63,ti63),(64,ti64),(65,ti65),(66,ti66),(68,ti68),(71,ti71),(72,ti72),(73,ti73),(74,ti74),(75,ti75),(76,ti76),(78,ti78),(79,ti79),(81,ti81),(82,ti82),(83,ti83),(84,ti84),(85,ti85),(86,ti86),(87,ti87),(89,ti89),(90,ti90),(93,ti93),(95,ti95),(96,ti96),(97,ti97),(98,ti98),(99,ti99),(100,ti100),(103,ti103),(104,ti104),(105,ti105),(107,ti107),(108,ti108),(109,ti109),(113,ti113),(114,ti114),(116,ti116),(118,ti118),(119,ti119),(120,ti120),(121,ti121),(122,ti122),(123,ti123),(126,ti126),(128,ti128),(130,ti130),(132,ti132),(133,ti133),(135,ti135),(136,ti136),(138,ti138),(140,ti140),(142,ti142),(144,ti144),(145,ti145),(146,ti146),(148,ti148),(151,ti151),(154,ti154),(159,ti159),(160,ti160),(162,ti162),(163,ti163),(165,ti165),(166,ti166),(168,ti168),(170,ti170),(174,ti174),(176,ti176),(177,ti177),(179,ti179),(189,ti189),(190,ti190),(193,ti193),(195,ti195),(198,ti198),(200,ti200),(202,ti202),(204,ti204),(206,ti206),(208,ti208),(210,ti210),(211,ti211),(219,ti219),(221,ti221),(223,ti223),(225,ti225),(226,ti226),(228,ti228),(231,ti231),(234,ti234),(244,ti244),(252,ti252),(257,ti257),(261,ti261),(264,ti264),(265,ti265),(267,ti267),(270,ti270),(272,ti272),(274,ti274),(276,ti276),(280,ti280),(302,ti302),(311,ti311),(314,ti314),(318,ti318),(319,ti319),(321,ti321),(324,ti324),(325,ti325),(334,ti334),(345,ti345),(352,ti352),(353,ti353),(355,ti355),(357,ti357),(358,ti358),(359,ti359),(360,ti360),(361,ti361),(363,ti363),(366,ti366)]
set_option maxRecDepth 100000 in
theorem tabOk:AllT Tryz.prog tab:=.cons tok0 (.cons tok1 (.cons tok2 (.cons tok3 (.cons tok4 (.cons tok5 (.cons tok6 (.cons tok7 (.cons tok8 (.cons tok9 (.cons tok10 (.cons tok11 (.cons tok12 (.cons tok13 (.cons tok14 (.cons tok15 (.cons tok16 (.cons tok17 (.cons tok18 (.cons tok19 (.cons tok20 (.cons tok21 (.cons tok22 (.cons tok23 (.cons tok24 (.cons tok25 (.cons tok26 (.cons tok27 (.cons tok28 (.cons tok29 (.cons tok30 (.cons tok31 (.cons tok32 (.cons tok33 (.cons tok34 (.cons tok35 (.cons tok36 (.cons tok37 (.cons tok38 (.cons tok39 (.cons tok40 (.cons tok41 (.cons tok42 (.cons tok43 (.cons tok44 (.cons tok45 (.cons tok47 (.cons tok48 (.cons tok49 (.cons tok50 (.cons tok51 (.cons tok52 (.cons tok53 (.cons tok54 (.cons tok55 (.cons tok56 (.cons tok57 (.cons tok58 (.cons tok59 (.cons tok60 (.cons tok62 (.cons tok63 (.cons tok64 (.cons tok65 (.cons tok66 (.cons tok68 (.cons tok71 (.cons tok72 (.cons tok73 (.cons tok74 (.cons tok75 (.cons tok76 (.cons tok78 (.cons tok79 (.cons tok81 (.cons tok82 (.cons tok83 (.cons tok84 (.cons tok85 (.cons tok86 (.cons tok87 (.cons tok89 (.cons tok90 (.cons tok93 (.cons tok95 (.cons tok96 (.cons tok97 (.cons tok98 (.cons tok99 (.cons tok100 (.cons tok103 (.cons tok104 (.cons tok105 (.cons tok107 (.cons tok108 (.cons tok109 (.cons tok113 (.cons tok114 (.cons tok116 (.cons tok118 (.cons tok119 (.cons tok120 (.cons tok121 (.cons tok122 (.cons tok123 (.cons tok126 (.cons tok128 (.cons tok130 (.cons tok132 (.cons tok133 (.cons tok135 (.cons tok136 (.cons tok138 (.cons tok140 (.cons tok142 (.cons tok144 (.cons tok145 (.cons tok146 (.cons tok148 (.cons tok151 (.cons tok154 (.cons tok159 (.cons tok160 (.cons tok162 (.cons tok163 (.cons tok165 (.cons tok166 (.cons tok168 (.cons tok170 (.cons tok174 (.cons tok176 (.cons tok177 (.cons tok179 (.cons tok189 (.cons tok190 (.cons tok193 (.cons tok195 (.cons tok198 (.cons tok200 (.cons tok202 (.cons tok204 (.cons tok206 (.cons tok208 (.cons tok210 (.cons tok211 (.cons tok219 (.cons tok221 (.cons tok223 (.cons tok225 (.cons tok226 (.cons tok228 (.cons tok231 (.cons tok234 (.cons tok244 (.cons tok252 (.cons tok257 (.cons tok261 (.cons tok264 (.cons tok265 (.cons tok267 (.cons tok270 (.cons tok272 (.cons tok274 (.cons tok276 (.cons tok280 (.cons tok302 (.cons tok311 (.cons tok314 (.cons tok318 (.cons tok319 (.cons tok321 (.cons tok324 (.cons tok325 (.cons tok334 (.cons tok345 (.cons tok352 (.cons tok353 (.cons tok355 (.cons tok357 (.cons tok358 (.cons tok359 (.cons tok360 (.cons tok361 (.cons tok363 (.cons tok366 (.nil)))))))))))))))))))))))))))))))))))))))))))))))))))))))))))))))))))))))))))))))))))))))))))))))))))))))))))))))))))))))))))))))))))))))))))))))))))))))))))))))))))))))))))))))))))))))))
noncomputable def X:Prg:={ P:=Tryz.prog,tab:=tab,tok:=tabOk.lkT }
end Go.Proofs.YtpmhiiemklhbhaaGreat.S
