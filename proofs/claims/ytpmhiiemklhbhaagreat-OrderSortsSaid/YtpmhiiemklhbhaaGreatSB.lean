import Derived.Test.YtpmhiiemklhbhaaGreatSA
import Derived.Laws.Cover3
import Derived.Laws.Pointers
set_option linter.unusedVariables false
namespace Go.Sm
open Go.RowKit
theorem app_nil {α:Type} (b:Nat):app b ([]:List α) []=some []:=by simp[app]
section
variable {X:Prg} {ops:Array Oper} {rest:List Oper} {t:Nat} {sl:List (Nat × Dat)} {ow:List Own} {d:Dat} {n:Nat} {Q:Exit→St→Prop} {w:World} {ok:Nat→Prop}
theorem TL.isNil {st yt ty:TypeId} {pos:String} {after:Array Edge} {x:Operand} {i:TI} {e:TypeId} {sz:Nat} {l:List Dat} (hi:lkT X.tab st=some i) (hd:i.desc = .slice e) (hx:ev sl x=some (.sl sz l)) (ht:Nat.blt t n=true)
 (hk:∀ b:Bool,(b=true→l=[])→TL X ops rest ⟨(t,.val (.bool b))::sl,ow,n⟩ Q) :
 TL X ops ({ dst:=some t,op:=.binOp .eql st x (.const (.slice none 0 0)) yt,type:=ty,pos:=pos,after:=after,guard:=none }::rest) ⟨sl,ow,n⟩ Q:=fun G a w ok hr=>
 wpListIn_plain rfl fun K hK=>by
  have u1:=(X.tok _ _ hi).desc;rw[hd] at u1;have key:∀ (A:Option Addr) (m c:Nat),a.eval x = .slice A m c→(execOp a.eval { dst:=some t,op:=.binOp .eql st x (.const (.slice none 0 0)) yt,type:=ty,pos:=pos,after:=after,guard:=none }).run X.P w = .ok (.value (.bool A.isNone)) w:=fun A m c hA=>by
   have hb:(binOp .eql st (.slice A m c) (.slice none 0 0)).run X.P w = .ok (.bool A.isNone) w:=by
    simp[binOp,run_equal_slice_nil w st e A m c u1]
   have hc:a.eval (.const (.slice none 0 0)) = .slice none 0 0:=rfl;simp[execOp,eqGuard,hA,hc,hb]
  rcases (hr.kn x _ hx).sl_inv with ⟨hl,ex⟩|⟨A,c,ex,_,_⟩
  ·refine vA (key none 0 0 ex) (fun d h=>by cases h) ?_;exact hK _ _ (hk true (fun _=>hl) G _ w ok (hr.put ht (.val rfl)))
  ·refine vA (key (some A) _ _ ex) (fun d h=>by cases h) ?_;exact hK _ _ (hk false (fun h=>by cases h) G _ w ok (hr.put ht (.val rfl)))
theorem TL.isNilS {st yt ty:TypeId} {pos:String} {after:Array Edge} {x:Operand} {i:TI} {e:TypeId} {sz:Nat} {l:List Dat} (hx:Src sl ow x sz l) (hi:lkT X.tab st=some i) (hd:i.desc = .slice e) (ht:Nat.blt t n=true)
 (hk:∀ b:Bool,(b=true→l=[])→TL X ops rest ⟨(t,.val (.bool b))::sl,ow,n⟩ Q) :
 TL X ops ({ dst:=some t,op:=.binOp .eql st x (.const (.slice none 0 0)) yt,type:=ty,pos:=pos,after:=after,guard:=none }::rest) ⟨sl,ow,n⟩ Q:=fun G a w ok hr=>
 wpListIn_plain rfl fun K hK=>by
  have u1:=(X.tok _ _ hi).desc;rw[hd] at u1;have key:∀ (A:Option Addr) (m c:Nat),a.eval x = .slice A m c→(execOp a.eval { dst:=some t,op:=.binOp .eql st x (.const (.slice none 0 0)) yt,type:=ty,pos:=pos,after:=after,guard:=none }).run X.P w = .ok (.value (.bool A.isNone)) w:=fun A m c hA=>by
   have hb:(binOp .eql st (.slice A m c) (.slice none 0 0)).run X.P w = .ok (.bool A.isNone) w:=by
    simp[binOp,run_equal_slice_nil w st e A m c u1]
   have hc:a.eval (.const (.slice none 0 0)) = .slice none 0 0:=rfl;simp[execOp,eqGuard,hA,hc,hb]
  rcases hx.run hr.toRepB hr.kn with ⟨hl,A,c,ex⟩|⟨A,c,_,ex,_⟩
  ·refine vA (key A 0 c ex) (fun d h=>by cases h) ?_;exact hK _ _ (hk _ (fun _=>hl) G _ w ok (hr.put ht (.val rfl)))
  ·refine vA (key (some A) _ _ ex) (fun d h=>by cases h) ?_;exact hK _ _ (hk false (fun h=>by cases h) G _ w ok (hr.put ht (.val rfl)))
theorem qF {α β:Type} {f:α→β} {l:List α} (h:l.map f=[]):l=[]:=by simpa using h
theorem qH {st yt:TypeId} {x:Operand} {i:TI} {e:TypeId} {A:Option Addr} (hi:lkT X.tab st=some i) (hd:i.desc = .pointer e) (hx:ev sl x=some (.val (.pointer A))) :
 OpR X (.binOp .eql st x (.const (.pointer none)) yt) sl ow (fun _=>.val (.bool A.isNone)) (fun _=>ow):=.of_run fun a w ok kn dst ty pos after g=>by
 have u1:=(X.tok _ _ hi).desc;rw[hd] at u1;have u2:X.P.underlying st=some (.pointer (X.P.pointee st)):=by simp[Program.pointee,u1]
 have ex:=(kn x _ hx).val_inv.1;have hb:(binOp .eql st (.pointer A) (.pointer none)).run X.P w = .ok (.bool A.isNone) w:=run_eql_pointer_nil w st A u2;have hc:a.eval (.const (.pointer none)) = .pointer none:=rfl;exact⟨.bool A.isNone,by simp[execOp,eqGuard,ex,hc,hb],.val rfl⟩
theorem qj {st yt:TypeId} {x:Operand} {i:TI} {e:TypeId} {A:Option Addr} (hi:lkT X.tab st=some i) (hd:i.desc = .pointer e) (hx:ev sl x=some (.val (.pointer A))) :
 OpR X (.binOp .neq st x (.const (.pointer none)) yt) sl ow (fun _=>.val (.bool (!A.isNone))) (fun _=>ow):=.of_run fun a w ok kn dst ty pos after g=>by
 have u1:=(X.tok _ _ hi).desc;rw[hd] at u1;have u2:X.P.underlying st=some (.pointer (X.P.pointee st)):=by simp[Program.pointee,u1]
 have ex:=(kn x _ hx).val_inv.1;have hb:(binOp .neq st (.pointer A) (.pointer none)).run X.P w = .ok (.bool (!A.isNone)) w:=run_neq_pointer_nil w st A u2;have hc:a.eval (.const (.pointer none)) = .pointer none:=rfl;exact⟨.bool (!A.isNone),by simp[execOp,eqGuard,ex,hc,hb],.val rfl⟩
theorem OpR.nodNil {st yt:TypeId} {x:Operand} {i:TI} {e:TypeId} {cs:List Dat} (hi:lkT X.tab st=some i) (hd:i.desc = .pointer e) (hx:ev sl x=some (.nod cs)) :
 OpR X (.binOp .eql st x (.const (.pointer none)) yt) sl ow (fun _=>.val (.bool false)) (fun _=>ow):=.of_run fun a w ok kn dst ty pos after g=>by
 have u1:=(X.tok _ _ hi).desc;rw[hd] at u1;have u2:X.P.underlying st=some (.pointer (X.P.pointee st)):=by simp[Program.pointee,u1]
 obtain⟨A,ex,_⟩:=(kn x _ hx).nod_inv;have hb:(binOp .eql st (.pointer (some A)) (.pointer none)).run X.P w = .ok (.bool false) w:=run_eql_pointer_nil w st (some A) u2;have hc:a.eval (.const (.pointer none)) = .pointer none:=rfl;exact⟨.bool false,by simp[execOp,eqGuard,ex,hc,hb],.val rfl⟩
end
end Go.Sm
