import Derived.Test.YtpmhiiemklhbhaaGreatSE
set_option linter.unusedVariables false
namespace Go.Sm
open Go.RowKit
def dvd (p q:Int):Option Int:=if q=0 then none else some (w64 (p.tdiv q))
theorem dvd_of {p q:Int} (h:q≠0):dvd p q=some (w64 (p.tdiv q)):=if_neg h
def rmd (p q:Int):Option Int:=if q=0 then none else some (p.tmod q)
def setIf {α:Type} (a:α):List α→Int→List α
| [],_=>[]
| c::r,j=>(if j=0 then a else c)::setIf a r (j-1)
section
variable {X:Prg} {sl:List (Nat × Dat)} {ow:List Own} {d:Dat} {α:Type}
theorem OpR.dvdM {t yt:TypeId} {x y:Operand} {p q z:Int} (h:dvd p q=some z) (hx:ev sl x=some (.val (.int .i64 p))) (hy:ev sl y=some (.val (.int .i64 q))) (hq:Nat.beq 0 0=true) :
 OpR X (.binOp .quo t x y yt) sl ow (fun _=>.val (.int .i64 z)) (fun _=>ow):=.of_run fun a w ok kn dst ty pos after g=>by
 have ex:=(kn x _ hx).val_inv.1;have ey:=(kn y _ hy).val_inv.1;unfold dvd at h;split at h
 ·cases h
 ·rename_i hne;obtain rfl:=Option.some.inj h;have hg':=u0 (P:=X.P) .quo t x y (.int .i64 p) (.int .i64 q) w rfl;exact⟨.int .i64 (w64 (p.tdiv q)),by simp[execOp,ex,ey,hg',binOp,Op.intDiv,hne,w64],.val rfl⟩
def shv (k:IntKind) (p q:Int):Option Int:=match q with
| .ofNat m=>some (p.fdiv (2 ^ (min m k.bits)))
| _=>none
theorem shv_of {k:IntKind} {p:Int} {m:Nat}:shv k p (m:Int)=some (p.fdiv (2 ^ (min m k.bits))):=rfl
theorem OpR.shvM {t yt:TypeId} {x y:Operand} {k k':IntKind} {p q z:Int} (h:shv k p q=some z) (hx:ev sl x=some (.val (.int k p))) (hy:ev sl y=some (.val (.int k' q))) :
 OpR X (.binOp .shr t x y yt) sl ow (fun _=>.val (.int k z)) (fun _=>ow):=.of_run fun a w ok kn dst ty pos after g=>by
 have ex:=(kn x _ hx).val_inv.1;have ey:=(kn y _ hy).val_inv.1;unfold shv at h;split at h
 ·rename_i m;obtain rfl:=Option.some.inj h;have hm:¬ ((m:Int)<0):=by omega
  have hg':=u0 (P:=X.P) .shr t x y (.int k p) (.int k' (m:Int)) w rfl;exact⟨_,by simp[execOp,ex,ey,hg',binOp,Op.shift,hm],.val rfl⟩
 ·cases h
def fakeF (e:TypeId) (sz:Nat):Nat→Nat→List Field
| 0,_=>[]
| n+1,i=>{ name:= "",type:=e,offset:=i*sz,embedded:=false,tag:= "",pkgPath:= "",byteOffset:=0 }::fakeF e sz n (i+1)
end
end Go.Sm
