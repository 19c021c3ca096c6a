import Derived.Test.YtpmhiiemklhbhaaGreatSI
import Derived.Shelf.Small.Strs
import Derived.Shelf.Strings.IndexAnyAll
import Derived.Lib.OthersKept
import Derived.Shelf.Small.Utf8
import Derived.Laws.Runes
import Derived.WalkMore
import Derived.Deep.QuietTactic
import Derived.BigQuiet
set_option linter.unusedVariables false
namespace Go.Sm
open Go Go.Proofs Go.Shelf Go.RowKit Go.Lib
section
variable {P:Program} {ρ:Ren}
def crlf:ByteArray:=⟨#[13,10]⟩
set_option maxHeartbeats 2000000 in
set_option maxRecDepth 1000000 in
theorem IndexRune_crlf (L:Lays.n152 P ρ) (r:Int) (w:World) (h1:128≤r) (hv:Utf8.valid r=true) (hne:r≠65533) :
 Calls P (ρ.f 152) #[.string crlf,.int .i32 r] w fun e w'=>e = .returned (.int .i64 (-1))∧∃ q,w'=w.drewN q:=by
 have mixed:=L.mixed;have t3:=L.t3; have a3:=L.a3; have z3:=L.z3; have v3:=L.v3;have t4:=L.t4; have a4:=L.a4; have z4:=L.z4; have v4:=L.v4;have t5:=L.t5; have a5:=L.a5; have z5:=L.z5; have v5:=L.v5;have t9:=L.t9; have a9:=L.a9; have z9:=L.z9; have v9:=L.v9;have t21:=L.t21; have a21:=L.a21; have z21:=L.z21; have v21:=L.v21;have e137:∀ args w,(callFunc (ρ.f 137) args).run P w = .ok (.enter (ρ.f 137) args) w:=enters_of L.f137 (by kernel_rfl) rfl;have e119:∀ args w,(callFunc (ρ.f 119) args).run P w = .ok (.enter (ρ.f 119) args) w:=enters_of L.f119 (by kernel_rfl) rfl;have hv':Lib.validRune r=true:=by unfold Lib.validRune; unfold Utf8.valid at hv; simp at hv ⊢; omega
 have hcv:=fun w=>run_convert_int_string (P:=P) w (ρ.t 21) (ρ.t 9) .i32 r (by rw[L.t21]; rfl) L.t9;generalize hE:Utf8.encode r=E at hcv;have hn1:decide (r<128)=false:=decide_eq_false (by omega);have hn2:(r==65533)=false:=beq_eq_false_iff_ne.2 hne;have hz:crlf.size=2:=rfl;have hS1:∀ h:1<crlf.size,crlf[1]'h=10:=fun h=>rfl;have hx2:crlf.data.toList=[13,10]:=rfl;have hx3:(crlf.extract 2 2).data.toList=[]:=by decide
 generalize crlf=S at hz hS1 hx2 hx3 ⊢
 go_enter L.f152,Body.n152_ntmps ρ
 go_wp2_with (first
  | (go_at_fn (ρ.f 137); refine (Any.strings_IndexByte { L with } _ _ _).mono ?_; rintro e w' ⟨rfl,hw⟩; rw[hw])
  | (go_at_fn (ρ.f 119); refine (Any.utf8_ValidRune { L with } _ _).mono ?_; rintro e w' ⟨rfl,hw⟩; rw[hw,hv']))
 subst hw;obtain⟨f1,f2,f3⟩:=encode_facts r hv h1;rw[hE] at f1 f2 f3;have hsz:(E.size:Int)-1=((E.size-1:Nat):Int):=by omega
 apply wp_scope_straight
 go_wp2
 go_loop [9] (fun vi=>vi = .int .i64 ((E.size:Int)-1)) (fun _=>0)
 case atStart=>first|rfl|(congr 1; omega)
 case round=>
  subst hrel;by_cases hE2:E.size=2
  ·have hlt:E.size-1<E.size:=by omega
   have h128:=f3 hlt;have hb:E[1]'(by omega)=E[E.size-1]'hlt:=by congr 1; omega
   have hd:decide ((E.size:Int)-1<(S.size:Int))=true:=decide_eq_true (by omega);have hb2:(2:Int)≤(S.size:Int):=by omega
   have hne10:((10:Int) != ((E[1]'(by omega)).toNat:Int))=true:=by
    rw[hb]; simp; omega
   have hw2:IntKind.i64.wrap 2=2:=by decide
   have hidx:∀ c,decide (Lib.indexByte [] c<0)=true:=fun c=>rfl
   go_wp2
   apply wp_scope_straight
   go_wp2
   go_quiet_o (fail)
   go_wp2
   go_quiet_o ((go_at_fn (ρ.f 137); exact (Any.strings_IndexByte { L with } _ _ _).mono (fun e w2 ⟨he,hw⟩=>⟨he,_,hw⟩)))
   go_wp2
   simp (config:={ zetaDelta:=true }) only [Exit.inBlock,Exit.noGoto,Exit.then]
   go_ret
   exact⟨rfl,_,rfl⟩
  ·have hd:decide ((E.size:Int)-1<(S.size:Int))=false:=decide_eq_false (by omega)
   go_wp2
   go_ret
   exact⟨rfl,0,rfl⟩
theorem decode_multi (s:ByteArray) (i:Nat) (hi:i<s.size) (hb:128≤(s.get! i).toNat) :
 128≤(Utf8.decode s i).1∧Utf8.valid ((Utf8.decode s i).1:Int)=true∧1≤(Utf8.decode s i).2∧i+(Utf8.decode s i).2≤s.size∧∀ j,i≤j→j<i+(Utf8.decode s i).2→128≤(s.get! j).toNat:=by
 have one:∀ j,i≤j→j<i+1→128≤(s.get! j).toNat:=fun j h1 h2=>by
  obtain rfl:j=i:=by omega
  exact hb
 have bad:128≤((Utf8.runeError,1):Nat × Nat).1∧Utf8.valid (((Utf8.runeError,1):Nat × Nat).1:Int)=true∧1≤((Utf8.runeError,1):Nat × Nat).2∧i+((Utf8.runeError,1):Nat × Nat).2≤s.size∧∀ j,i≤j→j<i+((Utf8.runeError,1):Nat × Nat).2→128≤(s.get! j).toNat:=⟨by decide,by decide,Nat.le_refl _,hi,one⟩;have b0:(s.get! i).toNat<256:=(s.get! i).toNat_lt;unfold Utf8.decode;simp only[Nat.add_zero,ge_iff_le,Bool.and_eq_true,decide_eq_true_eq,beq_iff_eq];rw[if_neg (by omega)];split
 ·rename_i h;split
  ·refine⟨by omega,?_,by omega,by omega,fun j h1 h2=>?_⟩
   ·unfold Utf8.valid; simp; omega
   ·by_cases e:j=i
    ·subst e; exact hb
    ·obtain rfl:j=i+1:=by omega
     omega
  ·exact bad
 ·split
  ·rename_i h;split
   ·rename_i h';refine⟨by omega,h'.2,by omega,by omega,fun j h1 h2=>?_⟩;by_cases e:j=i
    ·subst e; exact hb
    ·by_cases e2:j=i+1
     ·subst e2; omega
     ·obtain rfl:j=i+2:=by omega
      omega
   ·exact bad
  ·split
   ·rename_i h;split
    ·rename_i h';refine⟨by omega,h'.2,by omega,by omega,fun j h1 h2=>?_⟩;by_cases e:j=i
     ·subst e; exact hb
     ·by_cases e2:j=i+1
      ·subst e2; omega
      ·by_cases e3:j=i+2
       ·subst e3; omega
       ·obtain rfl:j=i+3:=by omega
        omega
    ·exact bad
   ·exact bad
set_option maxHeartbeats 2000000 in
set_option maxRecDepth 1000000 in
theorem IndexRune_fffd (L:Lays.n152 P ρ) (w:World) :
 Calls P (ρ.f 152) #[.string crlf,.int .i32 65533] w fun e w'=>e = .returned (.int .i64 (-1))∧∃ pos,w'=w.iter crlf pos:=by
 have mixed:=L.mixed;have t3:=L.t3; have a3:=L.a3; have z3:=L.z3; have v3:=L.v3;have t4:=L.t4; have a4:=L.a4; have z4:=L.z4; have v4:=L.v4;have t5:=L.t5; have a5:=L.a5; have z5:=L.z5; have v5:=L.v5;have t9:=L.t9; have a9:=L.a9; have z9:=L.z9; have v9:=L.v9;have t21:=L.t21; have a21:=L.a21; have z21:=L.z21; have v21:=L.v21;have hz:crlf.size=2:=rfl;have hS:∀ j (h:j<crlf.size),(crlf[j]'h).toNat<128:=fun j h=>by
  have:j=0∨j=1:=by omega
  rcases this with rfl|rfl
  ·show (13:UInt8).toNat<128; decide
  ·show (10:UInt8).toNat<128; decide
 generalize crlf=S at hz hS ⊢
 go_enter L.f152,Body.n152_ntmps ρ
 go_wp2
 go_loopg [5,6] S.size (fun g _ _ wx=>∃ i:Nat,i+g=S.size∧wx=w.iter S i)
 case atStart=>exact⟨0,by omega,rfl⟩
 case round=>
  obtain⟨i,hig,rfl⟩:=hrel;cases gk with
  | zero=>
   obtain rfl:i=S.size:=by omega
   have hnx:=fun ty=>run_next_end (P:=P) w S 2 ty (by omega)
   go_wp2
   go_ret
   exact⟨rfl,_,rfl⟩
  | succ g=>
   have hi:i<S.size:=by omega
   have hx128:=hS i hi;have hnx:=fun ty=>run_next_ascii (P:=P) w S i ty hi hx128;generalize S[i]'hi=x at hx128 hnx;have hne:((x.toNat:Int)==65533)=false:=beq_eq_false_iff_ne.2 (by omega)
   go_wp2
   go_roundg g
   case measure=>omega
   case rel=>exact⟨i+1,by omega,rfl⟩
theorem IndexRune_no (L:Lays.n152 P ρ) (r:Int) (w:World) (h1:128≤r) (hv:Utf8.valid r=true) :
 Calls P (ρ.f 152) #[.string crlf,.int .i32 r] w fun e w'=>e = .returned (.int .i64 (-1))∧Below w.heap.size w w':=by
 by_cases c:r=65533
 ·subst c;refine (IndexRune_fffd L w).mono fun e w' ⟨he,pos,hw⟩=>⟨he,?_⟩;rw[hw];exact (Below.refl _ _).alloc (Nat.le_refl _) _
 ·refine (IndexRune_crlf L r w h1 hv c).mono fun e w' ⟨he,q,hw⟩=>⟨he,?_⟩;rw[hw];exact⟨rfl,rfl,rfl,Nat.le_refl _,fun _ _=>rfl⟩
theorem noAny_to {s chars:List UInt8} {i n:Nat} (h:Lib.NoAny s chars i) (hn:∀ j b,i≤j→j<i+n→s[j]? = some b→chars.contains b=false):Lib.NoAny s chars (i+n):=fun j b hj hb=>by
 by_cases e:j<i
 ·exact h j b e hb
 ·exact hn j b (by omega) hj hb
set_option maxHeartbeats 2000000 in
set_option maxRecDepth 1000000 in
theorem IndexAny_crlf_short (L:Lays.n153 P ρ) (s:ByteArray) (w:World) (h8:s.size≤8) :
 Calls P (ρ.f 153) #[.string s,.string crlf] w fun e w'=>e = .returned (.int .i64 (Lib.indexAny s.data.toList [13,10]))∧Below w.heap.size w w':=by
 have h8z:decide ((8:Int)<(s.size:Int))=false:=decide_eq_false (by omega);have mixed:=L.mixed;have t3:=L.t3; have a3:=L.a3; have z3:=L.z3; have v3:=L.v3;have t4:=L.t4; have a4:=L.a4; have z4:=L.z4; have v4:=L.v4;have t5:=L.t5; have a5:=L.a5; have z5:=L.z5; have v5:=L.v5;have t9:=L.t9; have a9:=L.a9; have z9:=L.z9; have v9:=L.v9;have t21:=L.t21; have a21:=L.a21; have z21:=L.z21; have v21:=L.v21;have e152:∀ args w,(callFunc (ρ.f 152) args).run P w = .ok (.enter (ρ.f 152) args) w:=enters_of L.f152 (by kernel_rfl) rfl;have e226:∀ args w,(callFunc (ρ.f 226) args).run P w = .ok (.enter (ρ.f 226) args) w:=enters_of L.f226 (by kernel_rfl) rfl;have hno:=fun r w h1 hv=>IndexRune_no (P:=P) (ρ:=ρ) { L with } r w h1 hv;have hasc:=fun r w h0 h1=>Any.strings_IndexRune_ascii (P:=P) (ρ:=ρ) { L with } crlf r w h0 h1;have hz:crlf.size=2:=rfl;have hl:crlf.data.toList=[13,10]:=rfl;have hemp:crlf.toList.isEmpty=false:=by rw[Lib.toList_data]; rfl
 rw[hl] at hasc;generalize crlf=S at hz hl hemp hno hasc ⊢;have HNO:Aside (∀ r w,128≤r→Utf8.valid r=true→Calls P (ρ.f 152) #[.string S,.int .i32 r] w fun e w'=>e = .returned (.int .i64 (-1))∧Below w.heap.size w w'):=hno;clear hno
 go_enter L.f153,Body.n153_ntmps ρ
 go_wp2_with (go_at_fn (ρ.f 226); refine (Any.strings_shouldUseASCIISet { L with } _ _).mono ?_; rintro e w' ⟨rfl,hw⟩; rw[hw,h8z])
 go_loopg [9,10] s.size (fun g _ _ wx=>∃ i:Nat,i+g=s.size∧wx.heap[w.heap.size]? = some (.stringIter s i)∧Below w.heap.size w wx∧Lib.NoAny s.data.toList [13,10] i)
 case atStart=>exact⟨0,by omega,World.iter_heap _ _ _,(Below.refl _ _).alloc (Nat.le_refl _) _,Lib.NoAny.zero _ _⟩
 case round=>
  obtain⟨i,hig,hit,hbe,hno⟩:=hrel;have HN:Aside (Lib.NoAny s.data.toList [13,10] i):=hno;clear hno;cases gk with
  | zero=>
   have hnx:=fun ty=>run_next_end_at (P:=P) wr w.heap.size s i ty hit (by omega)
   go_wp2
   go_ret
   refine⟨?_,hbe⟩;have:i=s.data.toList.length:=by rw[← Lib.size_eq]; omega
   rw[Lib.indexAny_none (this▸HN.out)]; rfl
  | succ g=>
   have hi:i<s.size:=by omega
   have hnx:=fun ty=>run_next_any_at (P:=P) wr w.heap.size s i ty hit hi;by_cases ha:(s[i]'hi).toNat<128
   ·rw[decode_ascii s i hi ha] at hnx;have hit2:=iterAt_heap wr w.heap.size s i (i+1) hit;have hbe2:=below_iterAt hbe (Nat.le_refl _) s (i+1);have hxl:s.data.toList[i]? = some (s[i]'hi):=Lib.data_getElem? s i hi;generalize s[i]'hi=x at ha hnx hxl;dsimp only at hnx;generalize wr.iterAt w.heap.size s (i+1)=w2 at hnx hit2 hbe2;have Hx:Aside (s.data.toList[i]? = some x):=hxl;clear hxl;have hcon:=Lib.contains_iff_indexByte [13,10] x;have hback:((x.toNat:Int)).toNat.toUInt8=x:=by simp
    cases hin:([13,10]:List UInt8).contains x
    ·rw[hin] at hcon;have hlt:¬ ((0:Int)≤Lib.indexByte [13,10] x):=of_decide_eq_false hcon.symm;clear hcon
     go_wp2_with (go_at_fn (ρ.f 152); refine (hasc _ _ (by omega) (by omega)).mono ?_; rintro e w' ⟨rfl,hw⟩; rw[hw,hback])
     go_roundg g
     case measure=>omega
     case rel=>exact⟨i+1,by omega,hit2,hbe2,HN.out.succ Hx.out hin⟩
    ·rw[hin] at hcon;have hge:(0:Int)≤Lib.indexByte [13,10] x:=of_decide_eq_true hcon.symm;clear hcon
     go_wp2_with (go_at_fn (ρ.f 152); refine (hasc _ _ (by omega) (by omega)).mono ?_; rintro e w' ⟨rfl,hw⟩; rw[hw,hback])
     go_ret
     exact⟨by rw[Lib.indexAny_hit HN.out Hx.out hin]; rfl,hbe2⟩
   ·have hget:s.get! i=s[i]'hi:=by
     show s.data[i]! = s.data[i];rw[getElem!_pos s.data i hi]
    obtain⟨m1,m2,m3,m4,m5⟩:=decode_multi s i hi (by rw[hget]; omega);generalize Utf8.decode s i=q at hnx m1 m2 m3 m4 m5;obtain⟨c,n⟩:=q;dsimp only at hnx m1 m2 m3 m4 m5;have hit2:=iterAt_heap wr w.heap.size s i (i+n) hit;have hbe2:=below_iterAt hbe (Nat.le_refl _) s (i+n);generalize wr.iterAt w.heap.size s (i+n)=w2 at hnx hit2 hbe2;have hcall:=HNO.out (c:Int) w2 (by omega) m2
    go_wp2_with (go_at_fn (ρ.f 152); refine hcall.mono ?_; rintro e w3 ⟨rfl,hw3⟩)
    go_roundg (g+1-n)
    case measure=>omega
    case rel=>
     have hsz:=hbe2.size;have hlt:w.heap.size<w2.heap.size:=(Array.getElem?_eq_some_iff.1 hit2).1;refine⟨i+n,by omega,(hw3.block _ hlt).trans hit2,hbe2.trans (hw3.mono hsz),noAny_to HN.out fun j b h1 h2 hb=>?_⟩;have hj:j<s.size:=by omega
     have hg:s.get! j=s[j]'hj:=by
      show s.data[j]! = s.data[j];rw[getElem!_pos s.data j hj]
     have h128:=m5 j h1 h2;have hbx:b=s[j]'hj:=by
      have:=Lib.data_getElem? s j hj;rw[hb] at this;exact Option.some.inj this
     rw[hg,← hbx] at h128;have e1:b≠13:=fun e=>by rw[e] at h128; exact absurd h128 (by decide)
     have e2:b≠10:=fun e=>by rw[e] at h128; exact absurd h128 (by decide)
     simp[e1,e2]
set_option maxHeartbeats 2000000 in
set_option maxRecDepth 1000000 in
theorem ContainsAny_crlf (L:Lays.n150 P ρ) (h116:(P.info? (ρ.t 116)).map (fun i=>(i.zero,i.size))=some (some (.agg (Array.replicate 256 (.bool false))),256)) (s:ByteArray) (w:World) (hs:s.size<4294967281) :
 Calls P (ρ.f 150) #[.string s,.string crlf] w fun e w'=>e = .returned (.bool (decide (0≤Lib.indexAny s.data.toList [13,10])))∧Below w.heap.size w w':=by
 have c:Calls P (ρ.f 153) #[.string s,.string crlf] w fun e w'=>e = .returned (.int .i64 (Lib.indexAny s.data.toList [13,10]))∧Below w.heap.size w w':=by
  by_cases h8:s.size≤8
  ·exact IndexAny_crlf_short { L with } s w h8
  ·refine (Any.strings_IndexAny_long { L with } (zero_of_info h116).1 (zero_of_info h116).2 s crlf w (by decide) (by omega) hs (by decide) (fun j b hb=>?_)).mono fun e w' ⟨h1,h2⟩=>⟨h1,?_⟩
   ·have hl:crlf.data.toList=[13,10]:=rfl;rw[hl] at hb;have:b=13∨b=10:=by
     have:=List.mem_of_getElem? hb;simpa using this
    rcases this with rfl|rfl <;> decide
   ·rw[h2];exact ((Below.refl _ _).alloc (Nat.le_refl _) _).alloc (by simp) _
 have t3:=L.t3; have a3:=L.a3; have z3:=L.z3; have v3:=L.v3;have t4:=L.t4; have a4:=L.a4; have z4:=L.z4; have v4:=L.v4;have t9:=L.t9; have a9:=L.a9; have z9:=L.z9; have v9:=L.v9;have e153:∀ args w,(callFunc (ρ.f 153) args).run P w = .ok (.enter (ρ.f 153) args) w:=enters_of L.f153 (by kernel_rfl) rfl
 go_enter L.f150,Body.n150_ntmps ρ
 go_wp2_with (go_at_fn (ρ.f 153); refine c.mono ?_; rintro e w' ⟨rfl,hw⟩)
 go_ret
 exact⟨rfl,hw⟩
end
theorem indexAny_any:∀ l:List UInt8,decide (0≤Go.Lib.indexAny l [13,10])=l.any fun b=>b==13||b==10
 | []=>rfl
 | b::l=>by
  have ih:=indexAny_any l;have hge:=Go.Lib.indexAny_ge [13,10] l;rw[Go.Lib.indexAny,List.any_cons,← ih];by_cases c:([13,10]:List UInt8).contains b=true
  ·have:(b==13||b==10)=true:=by simpa using c
   rw[if_pos c,this]; rfl
  ·have:(b==13||b==10)=false:=by simpa using c
   rw[if_neg c,this,Bool.false_or];by_cases d:Go.Lib.indexAny l [13,10] = -1
   ·rw[if_pos (beq_iff_eq.2 d),d]
   ·rw[if_neg (by simpa using d)];by_cases e:0≤Go.Lib.indexAny l [13,10]
    ·rw[decide_eq_true e,decide_eq_true (by omega)]
    ·omega
def sAnyCRLF (l:List UInt8):Option Bool:=if l.length<4294967281 then some (l.any fun b=>b==13||b==10) else none
theorem Chg.below {w w':World} (h:Below w.heap.size w w') (touched:Nat→Prop):Chg w w' touched:=⟨h.os,h.output,h.tape,h.size,fun k hk _=>h.block k hk⟩
section
variable {X:Prg} {sl:List (Nat × Dat)} {ow:List Own} {w:World} {ok:Nat→Prop}
theorem OpR.callB {f:FuncId} {xs:Array Operand} {ats:Array TypeId} {d:Dat} (hfn:IsFn X f)
 (h:∀ (G:Gh) (a:Act) (w:World) (ok:Nat→Prop),RepB G ow w ok→Kn sl a w ok→∃ v,Enc w ok d v∧Calls X.P f (xs.map a.eval) w fun e w'=>e = .returned v∧Below w.heap.size w w') :
 OpR X (.call { callee:=.value (.func f),args:=xs,argTypes:=ats }) sl ow (fun _=>d) (fun _=>ow):=fun G a w ok hr kn o ho K Qm hK=>by
 obtain⟨dst,op',ty,pos,after,g⟩:=o;dsimp only at ho; subst ho;obtain⟨v,he,hc⟩:=h G a w ok hr kn;obtain⟨fn,hf,hname,hb⟩:=hfn;have h1:fn.name ≠ "runtime.NumGoroutine":=by simpa using hname
 obtain⟨cb,hcb⟩:=Option.isSome_iff_exists.1 hb;have hrun:(execOp a.eval { dst:=dst,op:=.call { callee:=.value (.func f),args:=xs,argTypes:=ats },type:=ty,pos:=pos,after:=after,guard:=g }).run X.P w = .ok (.enter f (xs.map a.eval)) w:=by
  have g0:a.eval (.func f) = .func (.func f) #[] #[]:=rfl;simp[execOp,resolve,g0,Deferred.ofValue,invoke,callFunc,hf,h1,hcb]
 refine wpIn_of_run hrun (fun d h=>by cases h) ?_;rw[Oper.upon_enter];refine hc.mono fun e w' ⟨g1,g2⟩=>?_;subst g1;have hch:=Chg.below g2 (fun _=>False);exact hK undef v _ ok (hr.grow hch) (he.mono (hr.stay0 hch)) (hr.stay0 hch)
end
theorem OpR.strAnyCRLF {X:Prg} {sl:List (Nat × Dat)} {ow:List Own} {ρ:Ren} (L:Lays.n150 X.P ρ) (h116:(X.P.info? (ρ.t 116)).map (fun i=>(i.zero,i.size))=some (some (.agg (Array.replicate 256 (.bool false))),256)) {f:FuncId} (hf:ρ.f 150=f) (hfn:IsFn X f) {x y:Operand} {ats:Array TypeId} {l:List UInt8} {z:Bool}
 (hz:sAnyCRLF l=some z) (hx:ev sl x=some (.val (.string (bs l)))) (hy:ev sl y=some (.val (.string crlf))) :
 OpR X (.call { callee:=.value (.func f),args:=#[x,y],argTypes:=ats }) sl ow (fun _=>.val (.bool z)) (fun _=>ow):=by
 subst hf;refine OpR.callB hfn fun G a w ok hr kn=>⟨.bool z,.val rfl,?_⟩;unfold sAnyCRLF at hz;split at hz
 ·rename_i hl;obtain rfl:=Option.some.inj hz;rw[show (#[x,y]:Array Operand).map a.eval = #[a.eval x,a.eval y] by simp,(kn x _ hx).val_inv.1,(kn y _ hy).val_inv.1];have h:=ContainsAny_crlf L h116 (bs l) w (by show l.toArray.size<_; simpa using hl);rw[show (bs l).data.toList=l by simp[bs],indexAny_any] at h;exact h
 ·cases hz
def sIndexByte (l:List UInt8) (c:UInt8):Int:=Go.Lib.indexByte l c
theorem OpR.strIndexByte {X:Prg} {sl:List (Nat × Dat)} {ow:List Own} {ρ:Ren} (L:Lays.n137 X.P ρ) {f:FuncId} (hf:ρ.f 137=f) (hfn:IsFn X f) {x y:Operand} {ats:Array TypeId} {l:List UInt8} {c:UInt8}
 (hx:ev sl x=some (.val (.string (bs l)))) (hy:ev sl y=some (.val (.int .u8 (c.toNat:Int)))) :
 OpR X (.call { callee:=.value (.func f),args:=#[x,y],argTypes:=ats }) sl ow (fun _=>.val (.int .i64 (sIndexByte l c))) (fun _=>ow):=by
 subst hf;refine OpR.callQ hfn fun G a w ok hr kn=>⟨.int .i64 (sIndexByte l c),.val rfl,?_⟩;rw[show (#[x,y]:Array Operand).map a.eval = #[a.eval x,a.eval y] by simp,(kn x _ hx).val_inv.1,(kn y _ hy).val_inv.1];have h:=Go.Proofs.Any.strings_IndexByte L (bs l) (c.toNat:Int) w;have hc:((c.toNat:Int).toNat).toUInt8=c:=by simp
 rw[hc] at h;exact h.mono fun e w' ⟨he,hw⟩=>⟨he,0,hw⟩
end Go.Sm
namespace Go.Proofs.YtpmhiiemklhbhaaGreat.S
open Go Go.Sm Go.Shelf Go.Proofs
def smRen:Ren:=⟨fun|119=>232|137=>94|150=>95|152=>205|153=>167|217=>166|224=>233|225=>234|226=>206|227=>207|228=>208|266=>204|n=>n,
fun|0=>0|3=>3|4=>4|5=>5|9=>9|21=>21|46=>45|116=>285|117=>286|124=>310|n=>n,
fun|n=>n⟩
theorem smLay:Lays.n137 Tryz.prog smRen where
 mixed:=by kernel_rfl
 f137:=Tryz.func94.trans (congrArg some (by kernel_rfl))
 f217:=Tryz.func166.trans (congrArg some (by kernel_rfl))
 f266:=Tryz.func204.trans (congrArg some (by kernel_rfl))
 t3:=Tryz.underlying3
 a3:=Tryz.isAgg3
 z3:=Tryz.sizeOf3
 v3:=Tryz.zeroValue3
 t5:=Tryz.underlying5
 a5:=Tryz.isAgg5
 z5:=Tryz.sizeOf5
 v5:=Tryz.zeroValue5
 t9:=Tryz.underlying9
 a9:=Tryz.isAgg9
 z9:=Tryz.sizeOf9
 v9:=Tryz.zeroValue9
theorem smLay2:Lays.n150 Tryz.prog smRen where
 mixed:=by kernel_rfl
 f119:=Tryz.func232.trans (congrArg some (by kernel_rfl))
 f137:=Tryz.func94.trans (congrArg some (by kernel_rfl))
 f150:=Tryz.func95.trans (congrArg some (by kernel_rfl))
 f152:=Tryz.func205.trans (congrArg some (by kernel_rfl))
 f153:=Tryz.func167.trans (congrArg some (by kernel_rfl))
 f217:=Tryz.func166.trans (congrArg some (by kernel_rfl))
 f224:=Tryz.func233.trans (congrArg some (by kernel_rfl))
 f225:=Tryz.func234.trans (congrArg some (by kernel_rfl))
 f226:=Tryz.func206.trans (congrArg some (by kernel_rfl))
 f227:=Tryz.func207.trans (congrArg some (by kernel_rfl))
 f228:=Tryz.func208.trans (congrArg some (by kernel_rfl))
 f266:=Tryz.func204.trans (congrArg some (by kernel_rfl))
 t0:=Tryz.underlying0
 a0:=Tryz.isAgg0
 z0:=Tryz.sizeOf0
 v0:=Tryz.zeroValue0
 t3:=Tryz.underlying3
 a3:=Tryz.isAgg3
 z3:=Tryz.sizeOf3
 v3:=Tryz.zeroValue3
 t4:=Tryz.underlying4
 a4:=Tryz.isAgg4
 z4:=Tryz.sizeOf4
 v4:=Tryz.zeroValue4
 t5:=Tryz.underlying5
 a5:=Tryz.isAgg5
 z5:=Tryz.sizeOf5
 v5:=Tryz.zeroValue5
 t9:=Tryz.underlying9
 a9:=Tryz.isAgg9
 z9:=Tryz.sizeOf9
 v9:=Tryz.zeroValue9
 t21:=Tryz.underlying21
 a21:=Tryz.isAgg21
 z21:=Tryz.sizeOf21
 v21:=Tryz.zeroValue21
 t46:=Tryz.underlying45
 a46:=Tryz.isAgg45
 z46:=Tryz.sizeOf45
 v46:=Tryz.zeroValue45
 t116:=Tryz.underlying285
 a116:=Tryz.isAgg285
 z116:=Tryz.sizeOf285
 t117:=Tryz.underlying286
 a117:=Tryz.isAgg286
 z117:=Tryz.sizeOf286
 v117:=Tryz.zeroValue286
 t124:=Tryz.underlying310
 a124:=Tryz.isAgg310
 z124:=Tryz.sizeOf310
 v124:=Tryz.zeroValue310
theorem smSet:(Tryz.prog.info? (smRen.t 116)).map (fun i=>(i.zero,i.size))=some (some (.agg (Array.replicate 256 (.bool false))),256):=by kernel_rfl
end Go.Proofs.YtpmhiiemklhbhaaGreat.S
