import Derived.Test.YtpmhiiemklhbhaaGreatSK
set_option linter.unusedVariables false
namespace Go.Sm
def dI (k:IntKind):Dat→Option Int
| .val (.int k' x)=>if k'=k then some x else none
| _=>none
theorem dI_eq {k:IntKind} {d:Dat} {x:Int} (h:dI k d=some x):d = .val (.int k x):=by
 unfold dI at h;split at h
 ·split at h
  ·rename_i e; cases h; subst e; rfl
  ·cases h
 ·cases h
theorem dI_e {k:IntKind} (x:Int):dI k (eI k x)=some x:=by simp[dI,eI]
def dU:Dat→Option UInt8
| .val (.int .u8 x)=>if ((UInt8.ofNat x.toNat).toNat:Int)=x then some (UInt8.ofNat x.toNat) else none
| _=>none
def dB:Dat→Option Bool
| .val (.bool b)=>some b
| _=>none
theorem dB_eq {d:Dat} {x:Bool} (h:dB d=some x):d = .val (.bool x):=by
 unfold dB at h;split at h
 ·cases h; rfl
 ·cases h
def dS:Dat→Option (List UInt8)
| .val (.string b)=>some b.data.toList
| _=>none
def dNP:Dat→Option NP
| .nod cs=>some ⟨cs⟩
| _=>none
theorem dNP_eq {d:Dat} {x:NP} (h:dNP d=some x):d=eNP x:=by
 unfold dNP at h;split at h
 ·cases h; rfl
 ·cases h
theorem dNP_e (x:NP):dNP (eNP x)=some x:=rfl
def dOP:Dat→Option (Option NP)
| .nod cs=>some (some ⟨cs⟩)
| .val (.pointer none)=>some none
| _=>none
def dAll {α:Type} (f:Dat→Option α):List Dat→Option (List α)
| []=>some []
| d::l=>bnd (f d) fun a=>bnd (dAll f l) fun r=>some (a::r)
def dL {α:Type} (sz:Nat) (f:Dat→Option α):Dat→Option (List α)
| .sl z l=>if z=sz then dAll f l else none
| _=>none
theorem dL_eq {α:Type} {sz:Nat} {f:Dat→Option α} {e:α→Dat} (hf:∀ {d x},f d=some x→d=e x) {d:Dat} {x:List α} (h:dL sz f d=some x):d = .sl sz (List.map e x):=by
 have key:∀ (l:List Dat) (x:List α),dAll f l=some x→l=List.map e x:=fun l=>by
  induction l with
  | nil=>intro x h; cases h; rfl
  | cons a l ih=>
   intro x h;obtain⟨b,hb,h⟩:=vt h;obtain⟨r,hr,h⟩:=vt h;cases h;rw[hf hb,ih r hr]; rfl
 unfold dL at h;split at h
 ·split at h
  ·rename_i e; subst e; rw[key _ _ h]
  ·cases h
 ·cases h
theorem dL_e {α:Type} {sz:Nat} {f:Dat→Option α} {e:α→Dat} (hf:∀ x,f (e x)=some x) (x:List α):dL sz f (.sl sz (List.map e x))=some x:=by
 have key:∀ x:List α,dAll f (List.map e x)=some x:=fun x=>by
  induction x with
  | nil=>rfl
  | cons a l ih=>simp only[List.map_cons,dAll,hf,ih,bnd]
 simp only[dL,if_true,key]
theorem dI_r {k:IntKind} (x:Int):dI k (.val (.int k x))=some x:=dI_e x
theorem dB_r (x:Bool):dB (.val (.bool x))=some x:=rfl
theorem bnd_r {α β:Type} (a:α) (f:α→Option β):bnd (some a) f=f a:=rfl
theorem strLt (a b:List UInt8):Op.bytesLess (bs a).toList (bs b).toList=Op.bytesLess a b:=by rw[r4,r4]
end Go.Sm
