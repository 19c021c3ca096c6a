import Derived.Test.YtpmhiiemklhbhaaGreatSE
set_option linter.unusedVariables false
namespace Go.Sm
open Go.RowKit
def dvd (p q:Int):Option Int:=if q=0 then none else some (w64 (p.tdiv q))
theorem dvd_of {p q:Int} (h:q≠0):dvd p q=some (w64 (p.tdiv q)):=if_neg h
def rmd (p q:Int):Option Int:=if q=0 then none else some (p.tmod q)
def setIf {α:Type} (a:α):List α→Int→List α
| [],_=>[]
| c::r,j=>(if j=0 then a else c)::setIf a r (j-1)
theorem setIf_eq {α:Type} (a:α):∀ (l:List α) (j:Int),0≤j→setIf a l j=l.set j.toNat a
 | [],j,h=>by simp[setIf]
 | c::r,j,h=>by
  simp only[setIf];by_cases h0:j=0
  ·subst h0;rw[if_pos rfl];have:∀ (r:List α) (k:Int),k<0→setIf a r k=r:=by
    intro r
    induction r with
    | nil=>intro k _; rfl
    | cons c r ih=>intro k hk; simp only[setIf]; rw[if_neg (by omega),ih _ (by omega)]
   rw[this _ _ (by omega)]; rfl
  ·rw[if_neg h0,setIf_eq a r (j-1) (by omega),show j.toNat=(j-1).toNat+1 by omega]; rfl
section
variable {X:Prg} {sl:List (Nat × Dat)} {ow:List Own} {d:Dat} {α:Type}
theorem OpR.dvdM {t yt:TypeId} {x y:Operand} {p q z:Int} (h:dvd p q=some z) (hx:ev sl x=some (.val (.int .i64 p))) (hy:ev sl y=some (.val (.int .i64 q))) (hq:Nat.beq 0 0=true) :
 OpR X (.binOp .quo t x y yt) sl ow (fun _=>.val (.int .i64 z)) (fun _=>ow):=.of_run fun a w ok kn dst ty pos after g=>by
 have ex:=(kn x _ hx).val_inv.1;have ey:=(kn y _ hy).val_inv.1;unfold dvd at h;split at h
 ·cases h
 ·rename_i hne;obtain rfl:=Option.some.inj h;have hg':=eqGuard_free (P:=X.P) .quo t x y (.int .i64 p) (.int .i64 q) w rfl;exact⟨.int .i64 (w64 (p.tdiv q)),by simp[execOp,ex,ey,hg',binOp,Op.intDiv,hne,w64],.val rfl⟩
def shv (k:IntKind) (p q:Int):Option Int:=match q with
| .ofNat m=>some (p.fdiv (2 ^ (min m k.bits)))
| _=>none
def fakeF (e:TypeId) (sz:Nat):Nat→Nat→List Field
| 0,_=>[]
| n+1,i=>{ name:= "",type:=e,offset:=i*sz,embedded:=false,tag:= "",pkgPath:= "",byteOffset:=0 }::fakeF e sz n (i+1)
theorem OpR.indexVarM {xt:TypeId} {x ix:Operand} {i:TI} {len:Nat} {e:TypeId} {ie:TI} {b off sz:Nat} {ki:IntKind} {j:Int} {l:List α} {c:α} (h:idx l j=some c)
 (hi:lkT X.tab xt=some i) (hd:i.desc = .array len e) (hie:lkT X.tab e=some ie) (hsz:ie.size=sz) (hx:ev sl x=some (.val (.pointer (some ⟨b,off,none⟩)))) (hj:ev sl ix=some (.val (.int ki j))) (hl:Nat.beq l.length len=true) :
 OpR X (.indexAddr xt x ix) sl ow (fun _=>.val (.pointer (some ⟨b,off+j.toNat*sz,none⟩))) (fun _=>ow):=by
 subst hsz;obtain⟨h0,h1⟩:=idx_some h;have hlt:=(List.getElem?_eq_some_iff.1 h1).1;rw[Nat.eq_of_beq_eq_true hl] at hlt;have hj':ev sl ix=some (.val (.int ki ((j.toNat:Nat):Int))):=by rw[Int.toNat_of_nonneg h0]; exact hj
 exact OpR.indexVar hi hd hie hx hj' ⟨by omega,hlt⟩
theorem OpR.arrLoadM {e1:TypeId} {x:Operand} {i:TI} {b off sz:Nat} {cs rest:List Dat} {be:TypeId} (f:α→Dat) {l:List α} {c:α} {j:Int} (k:Nat) (h:idx l j=some c) (hx:ev sl x=some (.val (.pointer (some ⟨b,off+j.toNat*sz,none⟩)))) (hi:lkT X.tab e1=some i) (hb:ow[k]? = some (.var b cs be))
 (hs:∀ a,(f a).cells.length=sz) (hcs:cs.drop off=(l.map f).flatMap Dat.cells++rest) (hd:partD i (f c).cells=some d):OpR X (.load e1 x) sl ow (fun _=>d) (fun _=>ow):=.of_val fun G a w ok hr kn dst ty pos after g=>by
 obtain⟨h0,h1⟩:=idx_some h;have e1':=(kn x _ hx).val_inv.1;obtain⟨vs,e4,e5,e6⟩:=(hr.own k _ hb).var_inv;have hs':∀ q∈l.map f,q.cells.length=sz:=fun q hq=>by
  obtain⟨a',_,rfl⟩:=List.mem_map.1 hq; exact hs a'
 obtain⟨r,hr'⟩:=flat_at hs' (show (l.map f)[j.toNat]? = some (f c) by rw[List.getElem?_map,h1]; rfl);have hlt:j.toNat*sz≤((l.map f).flatMap Dat.cells).length:=by
  rw[flat_len hs'];have:=(List.getElem?_eq_some_iff.1 h1).1;rw[List.length_map];exact Nat.mul_le_mul_right _ (by omega)
 have hdr:cs.drop (off+j.toNat*sz)=(f c).cells++(r++rest):=by
  rw[← List.drop_drop,hcs,List.drop_append_of_le_length hlt,hr',List.append_assoc]
 have he2:=(e5.drop (off+j.toNat*sz)).take (f c).cells.length;rw[hdr,List.take_left] at he2;obtain⟨u,g1,g2⟩:=part_load (X:=X) hi (off:=off+j.toNat*sz) e4 he2 (fun v hv=>e6 v (List.mem_of_mem_drop (List.mem_of_mem_take hv))) (fun m v hv=>by
  rw[List.getElem?_take] at hv;split at hv
  ·rw[List.getElem?_drop] at hv; simpa using hv
  ·cases hv) hd
 exact⟨undef,u,w,ok,by simp[execOp,Instr.loadAt,e1',Instr.sureAddr,g1],hr,g2,Stay.refl _ _⟩
theorem spliceK_one:∀ (n:Nat) (c:Dat) (cs:List Dat),n<cs.length→spliceK n [c] cs some=some (cs.set n c)
 | 0,c,[],h=>by simp at h
 | 0,c,q::cs,h=>by cases cs <;> rfl
 | n+1,c,[],h=>by simp at h
 | n+1,c,q::cs,h=>by
  have gen:∀ (n:Nat) (cs:List Dat) (κ:List Dat→Option (List Dat)),n<cs.length→spliceK n [c] cs κ=κ (cs.set n c):=by
   intro n
   induction n with
   | zero=>intro cs κ h; cases cs with
    | nil=>simp at h
    | cons q cs=>cases cs <;> rfl
   | succ n ih=>intro cs κ h; cases cs with
    | nil=>simp at h
    | cons q cs=>simp only[spliceK]; rw[ih _ _ (by simpa using h)]; rfl
  exact gen (n+1) (q::cs) some h
theorem OpR.arrStoreM {e1:TypeId} {x y:Operand} {i:TI} {b off:Nat} {cs pre rest:List Dat} {be:TypeId} (f:α→Dat) {l:List α} {c a':α} {j:Int} (k:Nat) (h:idx l j=some c) (hx:ev sl x=some (.val (.pointer (some ⟨b,off+j.toNat*1,none⟩)))) (hy:ev sl y=some (f a')) (hlv:live (f a')=true) (hi:lkT X.tab e1=some i) (hb:ow[k]? = some (.var b cs be))
 (h1c:∀ a,(f a).cells=[f a]) (hz:Nat.beq 1 i.size=true) (hp:Nat.beq pre.length off=true) (hcs:cs=pre++(l.map f++rest)) {ow':List Own} (ho:setK k (.var b (pre++((setIf a' l j).map f++rest)) be) ow some=some ow') :
 OpR X (.store e1 x y) sl ow (fun _=>.dead) (fun _=>ow'):=by
 obtain⟨h0,h1⟩:=idx_some h;have hlt:=(List.getElem?_eq_some_iff.1 h1).1;have hpl:=Nat.eq_of_beq_eq_true hp;have hlen:off+j.toNat*1<cs.length:=by rw[hcs]; simp; omega
 refine OpR.store k hx hy hlv hi hb (by rw[h1c]; exact hz) (by rw[h1c]; exact spliceK_one _ _ _ hlen) ?_;have:cs.set (off+j.toNat*1) (f a')=pre++((setIf a' l j).map f++rest):=by
  rw[hcs,Nat.mul_one,List.set_append_right _ _ (by omega),hpl,Nat.add_sub_cancel_left,List.set_append_left _ _ (by rw[List.length_map]; exact hlt),setIf_eq _ _ _ h0,List.map_set]
 rw[this]; exact ho
end
end Go.Sm
