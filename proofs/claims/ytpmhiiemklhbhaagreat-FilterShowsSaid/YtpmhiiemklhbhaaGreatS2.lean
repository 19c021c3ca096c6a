import Derived.Test.YtpmhiiemklhbhaaGreatS1
import Derived.Laws.Bits
namespace Go.Sm
def TI.isAgg (i:TI):Bool:=match i.desc with | .struct _ | .array _ _=>true|_=>false
def takeK {β:Type}:Nat→List Dat→(List Dat→Option β)→Option β
| 0,_,k=>k []
| n+1,d::r,k=>takeK n r fun l=>k (d::l)
| _+1,[],_=>none
def dropK {β:Type}:Nat→List Dat→(List Dat→Option β)→Option β
| 0,l,k=>k l
| n+1,_::r,k=>dropK n r k
| _+1,[],_=>none
theorem takeK_eq {β:Type}:∀ (n:Nat) (l:List Dat) (k:List Dat→Option β) (b:β),takeK n l k=some b→n≤l.length∧k (l.take n)=some b
 | 0,l,k,b,h=>⟨Nat.zero_le _,by simpa [takeK] using h⟩
 | n+1,d::r,k,b,h=>by
  have:=takeK_eq n r _ b h;exact⟨by simpa using this.1,by simpa using this.2⟩
 | n+1,[],k,b,h=>by simp[takeK] at h
theorem dropK_eq {β:Type}:∀ (n:Nat) (l:List Dat) (k:List Dat→Option β) (b:β),dropK n l k=some b→n≤l.length∧k (l.drop n)=some b
 | 0,l,k,b,h=>⟨Nat.zero_le _,by simpa [dropK] using h⟩
 | n+1,d::r,k,b,h=>by
  have:=dropK_eq n r _ b h;exact⟨by simpa using this.1,by simpa using this.2⟩
 | n+1,[],k,b,h=>by simp[dropK] at h
def partD (i:TI) (cs:List Dat):Option Dat:=
 match i.isAgg with
 | true=>takeK i.size cs fun l=>some (.agg l)
 | false=>match cs with|d::_=>some d|[]=>none
def intD (op:BinOp) (k:IntKind) (x y:Int):Option Dat:=
 match op with
| .add=>some (.val (.int k (k.wrap (x+y))))
| .sub=>some (.val (.int k (k.wrap (x-y))))
| .mul=>some (.val (.int k (k.wrap (x*y))))
| .and=>some (.val (.int k (k.wrap ((BitVec.ofInt k.bits x &&& BitVec.ofInt k.bits y).toNat:Int))))
| .or=>some (.val (.int k (k.wrap ((BitVec.ofInt k.bits x ||| BitVec.ofInt k.bits y).toNat:Int))))
| .xor=>some (.val (.int k (k.wrap ((BitVec.ofInt k.bits x ^^^ BitVec.ofInt k.bits y).toNat:Int))))
| .eql=>some (.val (.bool (x==y)))
| .neq=>some (.val (.bool (x != y)))
| .lss=>some (.val (.bool (decide (x<y))))
| .leq=>some (.val (.bool (decide (x≤y))))
| .gtr=>some (.val (.bool (decide (x>y))))
| .geq=>some (.val (.bool (decide (x≥y))))
| _=>none
def binD (op:BinOp):Dat→Dat→Option Dat
 | .val (.int k x),.val (.int k' y)=>match op with
  | .shl=>match y with
   | .ofNat m=>some (.val (.int k (k.wrap (x*2 ^ (min m k.bits)))))
   | _=>none
  | .shr=>match y with
   | .ofNat m=>some (.val (.int k (x.fdiv (2 ^ (min m k.bits)))))
   | _=>none
  | .quo=>match y with
   | .ofNat (m+1)=>if k=k' then some (.val (.int k (k.wrap (x.tdiv (.ofNat (m+1)))))) else none
   | _=>none
  | .rem=>match y with
   | .ofNat (m+1)=>if k=k' then some (.val (.int k (x.tmod (.ofNat (m+1))))) else none
   | _=>none
  | _=>if k=k' then intD op k x y else none
 | .val (.string x),.val (.string y)=>match op with
  | .eql=>some (.val (.bool (x.toList==y.toList)))
  | .neq=>some (.val (.bool (!(x.toList==y.toList))))
  | .lss=>some (.val (.bool (Op.bytesLess x.toList y.toList)))
  | .gtr=>some (.val (.bool (!(Op.bytesLess x.toList y.toList||x.toList==y.toList))))
  | .leq=>some (.val (.bool (Op.bytesLess x.toList y.toList||x.toList==y.toList)))
  | .geq=>some (.val (.bool (!(Op.bytesLess x.toList y.toList))))
  | _=>none
 | _,_=>none
def builtD (tt:TypeId→Option TI) (b:Builtin) (args:List Operand) (ats:List TypeId) (S:List (Nat × Dat)):Option Dat:=
 match b,args,ats with
 | .len,[x],[t]=>match tt t,ev S x with
  | some { desc:=.string,.. },some (.val (.string s))=>some (.val (.int .i64 s.size))
  | some { desc:=.slice _,.. },some (.sl _ l)=>some (.val (.int .i64 l.length))
  | some { desc:=.slice _,.. },some (.slx _ l)=>some (.val (.int .i64 l.length))
  | some { desc:=.slice _,.. },some (.val (.slice none 0 0))=>some (.val (.int .i64 0))
  | _,_=>none
 | .max,[x,y],_=>match ev S x,ev S y with
  | some (.val (.int k a)),some (.val (.int k' b))=>if k=k' then some (.val (.int k (if b>a then b else a))) else none
  | _,_=>none
 | .min,[x,y],_=>match ev S x,ev S y with
  | some (.val (.int k a)),some (.val (.int k' b))=>if k=k' then some (.val (.int k (if b<a then b else a))) else none
  | _,_=>none
 | _,_,_=>none
def evs (S:List (Nat × Dat)):List Operand→Option (List Dat)
 | []=>some []
 | x::xs=>match ev S x,evs S xs with
  | some d,some ds=>some (d::ds)
  | _,_=>none
def pureOp (tt:TypeId→Option TI) (op:Op) (S:List (Nat × Dat)):Option Dat:=
 match op with
 | .move x | .assign x=>match ev S x with|some d=>some d|none=>none
 | .binOp op _ x y _=>match ev S x,ev S y with
  | some x,some y=>binD op x y
  | _,_=>none
 | .unOp op _ x=>match op,ev S x with
  | .not,some (.val (.bool b))=>some (.val (.bool !b))
  | .neg,some (.val (.int k n))=>some (.val (.int k (k.wrap (0-n))))
  | _,_=>none
 | .convert src dst x=>match tt src,tt dst,ev S x with
  | some _,some { desc:=.int k,.. },some (.val (.int _ n))=>some (.val (.int k (k.wrap n)))
  | _,_,_=>none
 | .nilCheck x=>match ev S x with
  | some (.nod cs)=>some (.nod cs)
  | some (.val (.pointer (some ⟨b,off,none⟩)))=>some (.val (.pointer (some ⟨b,off,none⟩)))
  | some (.fn (.func f) a b)=>some (.fn (.func f) a b)
  | some (.ifc t d)=>some (.ifc t d)
  | _=>none
 | .fieldAddr s x f=>match tt s with
  | some { desc:=.struct fields,.. }=>match fields[f]? with
   | some fl=>match tt fl.type with
    | some i=>match Nat.beq i.size 0 with
     | true=>none
     | false=>match ev S x with
      | some (.nod cs)=>dropK fl.offset cs fun r=>some (.nod r)
      | some (.val (.pointer (some ⟨b,off,none⟩)))=>some (.val (.pointer (some ⟨b,off+fl.offset,none⟩)))
      | _=>none
    | none=>none
   | none=>none
  | _=>none
 | .field s x f=>match tt s with
  | some { desc:=.struct fields,.. }=>match fields[f]? with
   | some fl=>match tt fl.type with
    | some i=>match ev S x with
     | some (.agg cs)=>dropK fl.offset cs fun r=>partD i r
     | _=>none
    | none=>none
   | none=>none
  | _=>none
 | .load t x=>match tt t with
  | some i=>match ev S x with
   | some (.nod cs)=>partD i cs
   | _=>none
  | none=>none
 | .extract x i=>match ev S x with
  | some (.tup ds)=>dropK i ds fun r=>match r with|d::_=>some d|[]=>none
  | _=>none
 | .makeFunc f first caps=>match evs S first.toList,evs S caps.toList with
  | some ds,some es=>some (.fn f ds es)
  | _,_=>none
 | .call c=>match c.callee with
  | .builtin b=>builtD tt b c.args.toList c.argTypes.toList S
  | _=>none
 | _=>none
section
variable {P:Program}
theorem run_underlying' {t:TypeId} {i:TI} (h:TOk P t i) (w:World):(underlying t).run P w = .ok i.desc w:=by simp[underlying,program,Sem.run,h.desc]
theorem run_sizeOf' {t:TypeId} {i:TI} (h:TOk P t i) (w:World):(sizeOf t).run P w = .ok i.size w:=by
 obtain⟨x,h1,h2,_⟩:=h.info;simp[sizeOf,typeInfo,program,Sem.run,h1,h2]
theorem run_isAgg' {t:TypeId} {i:TI} (h:TOk P t i) (w:World):(isAgg t).run P w = .ok i.isAgg w:=by
 simp only[isAgg,TI.isAgg];simp[underlying,program,Sem.run,h.desc];split <;> simp_all
theorem run_zeroValue' {t:TypeId} {i:TI} (h:TOk P t i) (w:World):(zeroValue t).run P w = .ok i.zero w:=by
 obtain⟨x,h1,_,_,h2⟩:=h.info;simp[zeroValue,typeInfo,program,Sem.run,h1,h2]
theorem loadCells_run {w:World} (P:Program):∀ (n:Nat) (a:Addr) (i:Nat) (acc:Array Value) (vs:List Value),vs.length=n→(∀ j v,vs[j]? = some v→w.cell? (a.add (i+j))=some v) →
 (loadCellsFrom a i n acc).run P w = .ok (acc++vs.toArray) w
 | 0,a,i,acc,vs,hl,h=>by
  have:vs=[]:=List.length_eq_zero_iff.1 hl;subst this; simp[loadCellsFrom]
 | n+1,a,i,acc,v::vs,hl,h=>by
  have h0:=h 0 v rfl;have ih:=loadCells_run P n a (i+1) (acc.push v) vs (by simpa using hl) (fun j u hj=>by
   have:=h (j+1) u (by simpa using hj);rwa[show i+1+j=i+(j+1) by omega])
  simp only[Nat.add_zero] at h0;simp[loadCellsFrom,load,Sem.run,h0,ih]
 | n+1,a,i,acc,[],hl,h=>by simp at hl
theorem loadCells_all {w:World} (P:Program) {n:Nat} {a:Addr} {vs:List Value} (hl:vs.length=n) (h:∀ j v,vs[j]? = some v→w.cell? (a.add j)=some v) :
 (loadCells a n).run P w = .ok vs.toArray w:=by
 have:=loadCells_run P n a 0 #[] vs hl (fun j v hj=>by simpa using h j v hj);simpa [loadCells] using this
end
end Go.Sm
