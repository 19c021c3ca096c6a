import Derived.Test.YtpmhiiemklhbhaaGreatG0
import Derived.Test.YtpmhiiemklhbhaaGreatG1xa
import Derived.Test.YtpmhiiemklhbhaaGreatG1xb
import Derived.Test.YtpmhiiemklhbhaaGreatG1xc
import Derived.Test.YtpmhiiemklhbhaaGreatG1xd
import Derived.Test.YtpmhiiemklhbhaaGreatG1xe
import Derived.Test.YtpmhiiemklhbhaaGreatSD
set_option linter.unusedVariables false
namespace Go.Proofs.YtpmhiiemklhbhaaGreat.S
open Go Go.Sm
def rangeI (a:Int) (n:Nat):List Int:=(List.range n).map fun i:Nat=>a+(i:Int)
theorem rangeI_succ (a:Int) (n:Nat):rangeI a (n+1)=rangeI a n++[a+(n:Int)]:=by simp[rangeI,List.range_succ]
theorem rangeI_len (a:Int) (n:Nat):(rangeI a n).length=n:=by simp[rangeI]
theorem rangeI_add (a:Int) (m:Nat):∀ n:Nat,rangeI a (m+n)=rangeI a m++rangeI (a+(m:Int)) n
 | 0=>by simp[rangeI]
 | n+1=>by rw[← Nat.add_assoc,rangeI_succ,rangeI_add a m n,rangeI_succ,List.append_assoc]; congr 2; simp; omega
def exp1 (s:arena_Span):List Int:=rangeI s.fAt s.fN.toNat
def expand (L:List arena_Span):List Int:=L.flatMap exp1
theorem expand_append (L M:List arena_Span):expand (L++M)=expand L++expand M:=by simp[expand]
theorem expand_one (s:arena_Span):expand [s]=exp1 s:=by simp[expand]
def addS (L:List arena_Span) (s:arena_Span):List arena_Span:=
 if s.fN<1 then L else match L.getLast? with
| none=>[s]
| some k=>if k.fAt+k.fN=s.fAt then L.dropLast++[⟨k.fAt,k.fN+s.fN⟩] else L++[s]
theorem addS_nil {s:arena_Span} (h:¬ s.fN<1):addS [] s=[s]:=by simp[addS,h]
theorem addS_less {L:List arena_Span} {s:arena_Span} (h:s.fN<1):addS L s=L:=by simp[addS,h]
theorem addS_snoc {L:List arena_Span} {k s:arena_Span} (h:¬ s.fN<1):addS (L++[k]) s=if k.fAt+k.fN=s.fAt then L++[⟨k.fAt,k.fN+s.fN⟩] else L++[k]++[s]:=by simp[addS,h]
def addI (L:List arena_Span) (x:Int):List arena_Span:=addS L ⟨x,1⟩
def canon (r:List Int):List arena_Span:=r.foldl addI []
theorem snoc_cases (L:List arena_Span):L=[]∨∃ M k,L=M++[k]:=by
 rcases List.eq_nil_or_concat L with h|⟨M,k,h⟩
 ·exact .inl h
 ·exact .inr ⟨M,k,by simpa using h⟩
theorem addI_range (a:Int) (L:List arena_Span):∀ n:Nat,(rangeI a n).foldl addI L=addS L ⟨a,n⟩
 | 0=>by rw[addS_less (by simp)]; rfl
 | n+1=>by
  rw[rangeI_succ,List.foldl_append,addI_range a L n];simp only[List.foldl_cons,List.foldl_nil,addI];have h1:¬ ((1:Int)<1):=by omega
  have h2:¬ ((((n+1:Nat):Int))<1):=by omega
  cases n with
  | zero=>rw[addS_less (L:=L) (s:=⟨a,((0:Nat):Int)⟩) (by simp)]; simp
  | succ n=>
   have h3:¬ ((((n+1:Nat):Int))<1):=by omega
   rcases snoc_cases L with rfl|⟨M,k,rfl⟩
   ·rw[addS_nil h3,addS_nil h2,show [(⟨a,((n+1:Nat):Int)⟩:arena_Span)]=[]++[⟨a,((n+1:Nat):Int)⟩] from rfl,addS_snoc h1];simp only[List.nil_append];rw[if_pos trivial]; simp
   ·rw[addS_snoc h3,addS_snoc h2];by_cases hk:k.fAt+k.fN=a
    ·rw[if_pos hk,if_pos hk,addS_snoc h1];simp only;rw[if_pos (by omega)];simp; omega
    ·rw[if_neg hk,if_neg hk,addS_snoc h1];simp only;rw[if_pos trivial]; simp
theorem addS_exp (L:List arena_Span) (s:arena_Span):addS L s=(exp1 s).foldl addI L:=by
 unfold exp1;rw[addI_range];by_cases h:s.fN<1
 ·rw[addS_less h,addS_less (by simp; omega)]
 ·rw[Int.toNat_of_nonneg (by omega)]
def Good (s:arena_Span):Prop:=0≤s.fAt∧1≤s.fN∧s.fAt+s.fN≤2097152
theorem addS_good {L:List arena_Span} {s:arena_Span} (hL:∀ k∈L,Good k) (hs:1≤s.fN→Good s):∀ k∈addS L s,Good k:=by
 by_cases h:s.fN<1
 ·rw[addS_less h]; exact hL
 ·have hs':=hs (by omega);rcases snoc_cases L with rfl|⟨M,k,rfl⟩
  ·rw[addS_nil h]; simpa using hs'
  ·rw[addS_snoc h];split
   ·rename_i hk;intro x hx;rcases List.mem_append.1 hx with hx|hx
    ·exact hL x (List.mem_append_left _ hx)
    ·have:=hL k (by simp);simp at hx; subst hx;simp only[Good] at this hs' ⊢;omega
   ·intro x hx;rcases List.mem_append.1 hx with hx|hx
    ·exact hL x hx
    ·simp at hx; subst hx; exact hs'
theorem addS_expand {L:List arena_Span} {s:arena_Span} (hL:∀ k∈L,Good k):expand (addS L s)=expand L++exp1 s:=by
 by_cases h:s.fN<1
 ·rw[addS_less h]; simp[exp1,rangeI,show s.fN.toNat=0 by omega]
 ·rcases snoc_cases L with rfl|⟨M,k,rfl⟩
  ·rw[addS_nil h,expand_one]; rfl
  ·rw[addS_snoc h];split
   ·rename_i hk;have:=hL k (by simp);simp only[Good] at this;simp only[expand_append,expand_one,List.append_assoc];congr 1;simp only[exp1];rw[show (k.fN+s.fN).toNat=k.fN.toNat+s.fN.toNat by omega,rangeI_add];congr 2; omega
   ·rw[expand_append,expand_one]
theorem canon_snoc (r:List Int) (x:Int):canon (r++[x])=addI (canon r) x:=by simp[canon,List.foldl_append]
def GoodP (r:List Int):Prop:=∀ x∈r,0≤x∧x<2097152
theorem canon_good:∀ (r:List Int),GoodP r→∀ k∈canon r,Good k:=by
 intro r
 induction r using snoc_ind with
 | nil=>intro _ k hk; cases hk
 | snoc r x ih=>
  intro hr;rw[canon_snoc];exact addS_good (ih fun y hy=>hr y (by simp[hy])) (fun _=>by have:=hr x (by simp); simp only[Good]; omega)
theorem canon_expand (r:List Int) (hr:GoodP r):expand (canon r)=r:=by
 induction r using snoc_ind with
 | nil=>rfl
 | snoc r x ih=>
  have hr':GoodP r:=fun y hy=>hr y (by simp[hy]);rw[canon_snoc,addI,addS_expand (canon_good r hr'),ih hr'];simp[exp1,rangeI]
def tOf (r:List Int):piece_Text:=⟨canon r,(r.length:Int)⟩
theorem join_eq (k s:arena_Span) (hk:Good k) (hs:Good s):arena_Join k s=some (if k.fAt+k.fN=s.fAt then (⟨k.fAt,k.fN+s.fN⟩,true) else (⟨0,0⟩,false)):=by
 simp only[Good] at hk hs;unfold arena_Join;rw[if_neg (by omega),if_neg (by omega),bnd_some',w64_id ⟨by omega,by omega⟩];by_cases h:k.fAt+k.fN=s.fAt
 ·have:s=(⟨k.fAt+k.fN,s.fN⟩:arena_Span):=by cases s; simp_all
  rw[if_pos h,if_neg (by simp only[Bool.not_eq_true',beq_eq_false_iff_ne,ne_eq,Classical.not_not]; exact this),w64_id ⟨by omega,by omega⟩]
 ·have:s≠(⟨k.fAt+k.fN,s.fN⟩:arena_Span):=fun e=>h (congrArg arena_Span.fAt e).symm;rw[if_neg h,if_pos (by simpa using this)]
theorem addI_len (L:List arena_Span) (s:arena_Span):(addS L s).length≤L.length+1:=by
 by_cases h:s.fN<1
 ·rw[addS_less h]; omega
 ·rcases snoc_cases L with rfl|⟨M,k,rfl⟩
  ·rw[addS_nil h]; simp
  ·rw[addS_snoc h]; split <;> simp
theorem canon_len:∀ r:List Int,(canon r).length≤r.length:=by
 intro r
 induction r using snoc_ind with
 | nil=>simp[canon]
 | snoc r x ih=>rw[canon_snoc]; have:=addI_len (canon r) ⟨x,1⟩; simp only[addI,List.length_append,List.length_cons,List.length_nil]; omega
theorem idx_map {α β:Type} (g:α→β) (l:List α) (i:Int):idx (l.map g) i=(idx l i).map g:=by
 unfold idx; split <;> simp
theorem exp_sub {r:List Int} (hr:GoodP r) {pre suf:List arena_Span} (h:canon r=pre++suf):GoodP (expand pre)∧(expand pre).length≤r.length∧r=expand pre++expand suf:=by
 have:=canon_expand r hr;rw[h,expand_append] at this;exact⟨fun x hx=>hr x (by rw[← this]; simp[hx]),by rw[← this]; simp,this.symm⟩
theorem goodP_app {r q:List Int} (hr:GoodP r) (hq:GoodP q):GoodP (r++q):=fun x hx=>(List.mem_append.1 hx).elim (hr x) (hq x)
theorem with_eq (s:arena_Span) (n:Int) (L:List arena_Span) (hL:∀ k∈L,Good k) (hs:1≤s.fN→Good s) (hn:0≤n∧n≤1073741824) (hlen:L.length≤1073741824) :
 piece_Text_with_2 s n L=some (n+(s.fN.toNat:Int),addS L s):=by
 unfold piece_Text_with_2;by_cases h:s.fN<1
 ·rw[if_pos h,addS_less h,show s.fN.toNat=0 by omega]; simp
 ·have hs':=hs (by omega);have hs2:=hs';simp only[Good] at hs2;rw[if_neg h];have e1:w64 (n+s.fN)=n+(s.fN.toNat:Int):=by rw[w64_id ⟨by omega,by omega⟩]; omega
  have happ:∀ M:List arena_Span,M.length≤1073741824→app 16 M [s]=some (M++[s]):=fun M hM=>app_of (by simp; omega);rcases snoc_cases L with rfl|⟨M,k,rfl⟩
  ·rw[addS_nil h];simp[show w64 (-1) = -1 from rfl,happ [] (by simp),e1]
  ·have hlen':M.length+1≤1073741824:=by simpa using hlen
   have e2:w64 (((M++[k]).length:Int)-1)=(M.length:Int):=by simp[w64_id (x:=(M.length:Int)) ⟨by omega,by omega⟩]
   rw[e2,if_pos (by omega),idx_at,bnd_some',join_eq k s (hL k (by simp)) hs',bnd_some',addS_snoc h,e1];by_cases hk:k.fAt+k.fN=s.fAt
   ·rw[if_pos hk,if_pos hk]; simp
   ·rw[if_neg hk,if_neg hk]; simp[happ (M++[k]) (by simpa using hlen)]
theorem made (b:List UInt8) (h:b.length≤1000000000):mkz 1 (b.length:Int) (0:UInt8)=some (List.replicate b.length 0):=by
 rw[mkz_of (by omega)]; simp
theorem made_over (b:List UInt8):over (List.replicate b.length (0:UInt8)) b=b:=over_same (by simp)
theorem New_eq (a:List UInt8) (h:a.length≤4096):arena_New a=some (.inr (0,a)):=by
 unfold arena_New;rw[if_neg (by omega),made a (by omega),bnd_some',made_over]
def rightA (s:arena_Span) (a:List UInt8):Bool:=decide (0≤s.fAt∧0≤s.fN∧s.fAt≤a.length∧s.fN≤a.length-s.fAt)
theorem Right_eq (s:arena_Span) (a:List UInt8) (ha:a.length≤1000000000):arena_Arena_Right s a=some (rightA s a):=by
 unfold arena_Arena_Right rightA;by_cases h1:0≤s.fAt
 ·rw[if_pos h1];by_cases h2:0≤s.fN
  ·rw[if_pos h2];by_cases h3:s.fAt≤(a.length:Int)
   ·rw[if_pos h3,w64_id ⟨by omega,by omega⟩,bnd_some'];simp[h1,h2,h3]
   ·rw[if_neg h3,bnd_some']; simp[h3]
  ·rw[if_neg h2,bnd_some']; simp[h2]
 ·rw[if_neg h1,bnd_some']; simp[h1]
def bytesA (s:arena_Span) (a:List UInt8):List UInt8:=if rightA s a=true then (a.take (s.fAt+s.fN).toNat).drop s.fAt.toNat else []
theorem bytesA_len (s:arena_Span) (a:List UInt8):(bytesA s a).length≤a.length:=by
 unfold bytesA; split <;> simp; omega
theorem Bytes_eq (s:arena_Span) (a:List UInt8) (ha:a.length≤1000000000):arena_Arena_Bytes s a=some (bytesA s a):=by
 have hl:=bytesA_len s a;unfold arena_Arena_Bytes arena_Arena_part;rw[Right_eq s a ha,bnd_some'];cases h:rightA s a with
 | false=>
  rw[if_neg (by simp),bnd_some'];simp only;rw[made [] (by simp),bnd_some',made_over];simp[bytesA,h]
 | true=>
  have hr:=h;unfold rightA at hr;simp only[decide_eq_true_eq] at hr;have hb:bytesA s a=(a.take (s.fAt+s.fN).toNat).drop s.fAt.toNat:=by simp[bytesA,h]
  rw[if_pos rfl,w64_id ⟨by omega,by omega⟩,cut_of ⟨by omega,by omega,by omega⟩,bnd_some',bnd_some'];simp only;rw[cut_of ⟨by omega,by omega,by omega⟩,bnd_some',← hb,made _ (by omega),bnd_some',made_over]
theorem u8n (x:UInt8) (c:UInt8):((x.toNat:Int)=(c.toNat:Int))↔x=c:=⟨fun h=>UInt8.toNat_inj.1 (by omega),fun h=>by rw[h]⟩
theorem u8_44 (x:UInt8):((x.toNat:Int)=44)↔x=44:=u8n x 44
theorem u8_13 (x:UInt8):((x.toNat:Int)=13)↔x=13:=u8n x 13
theorem u8_10 (x:UInt8):((x.toNat:Int)=10)↔x=10:=u8n x 10
theorem u8_34 (x:UInt8):((x.toNat:Int)=34)↔x=34:=u8n x 34
def at_ (b:List UInt8) (c:UInt8) (i:Nat):Bool:=b[i]? == some c
def isMark (x:UInt8):Bool:=x==44||x==13||x==10
def mk (b:List UInt8) (i:Nat):Bool:=match b[i]? with|none=>true|some x=>isMark x
theorem mk_out {b:List UInt8} {i:Nat} (h:b.length≤i):mk b i=true:=by unfold mk; rw[List.getElem?_eq_none h]
theorem mk_in {b:List UInt8} {i:Nat} (h:mk b i=false):i<b.length:=by
 rcases Nat.lt_or_ge i b.length with h'|h'
 ·exact h'
 ·rw[mk_out h'] at h; cases h
theorem at_in {b:List UInt8} {c:UInt8} {i:Nat} (h:at_ b c i=true):i<b.length:=by
 simp only[at_,beq_iff_eq] at h;exact (List.getElem?_eq_some_iff.1 h).1
theorem done_eq (b:List UInt8) (i:Nat):scan_reader_done b (i:Int)=some (decide (b.length≤i)):=by
 unfold scan_reader_done;congr 1;exact decide_eq_decide.2 ⟨fun h=>by omega,fun h=>by omega⟩
theorem is_eq (c:UInt8) (b:List UInt8) (i:Nat):scan_reader_is c b (i:Int)=some (at_ b c i):=by
 unfold scan_reader_is;rw[done_eq,bnd_some'];by_cases h:b.length≤i
 ·rw[decide_eq_true h,if_pos rfl,bnd_some'];simp[at_,List.getElem?_eq_none h]
 ·rw[decide_eq_false h,if_neg (by simp),idx_nat (List.getElem?_eq_getElem (by omega)),bnd_some',bnd_some'];simp only[at_,List.getElem?_eq_getElem (show i<b.length by omega)];congr 1;rw[Bool.eq_iff_iff,beq_iff_eq,beq_iff_eq,u8n,Option.some.injEq]
theorem quote_eq (b:List UInt8) (i:Nat):ref05_quote b (i:Int)=some (at_ b 34 i):=by
 unfold ref05_quote;by_cases h:(i:Int)<(b.length:Int)
 ·have h':i<b.length:=by omega
  rw[if_pos h,idx_nat (List.getElem?_eq_getElem h'),bnd_some',bnd_some'];simp only[at_,List.getElem?_eq_getElem h'];congr 1;rw[Bool.eq_iff_iff,beq_iff_eq,beq_iff_eq,u8_34,Option.some.injEq]
 ·rw[if_neg h,bnd_some'];simp[at_,List.getElem?_eq_none (show b.length≤i by omega)]
theorem marked_eq (b:List UInt8) (i:Nat):scan_reader_marked b (i:Int)=some (mk b i):=by
 unfold scan_reader_marked;rw[done_eq,bnd_some'];by_cases h:b.length≤i
 ·rw[decide_eq_true h,if_pos rfl,mk_out h]
 ·have h':i<b.length:=by omega
  rw[decide_eq_false h,if_neg (by simp),idx_nat (List.getElem?_eq_getElem h'),bnd_some'];simp only[mk,List.getElem?_eq_getElem h',isMark,u8_44,u8_13];by_cases c1:b[i]=44
  ·simp[c1]
  ·by_cases c2:b[i]=13
   ·simp[c2]
   ·have e:(((b[i]).toNat:Int)==10)=(b[i]==10):=by rw[Bool.eq_iff_iff,beq_iff_eq,beq_iff_eq,u8_10]
    rw[if_neg c1,if_neg c2,bnd_some',e];cases hb:b[i]==10 <;> simp[c1,c2]
theorem mark_eq (b:List UInt8) (i:Nat):ref05_mark b (i:Int)=some (mk b i):=by
 unfold ref05_mark;by_cases h:(i:Int)≥(b.length:Int)
 ·rw[if_pos h,bnd_some',mk_out (by omega)]
 ·have h':i<b.length:=by omega
  rw[if_neg h,idx_nat (List.getElem?_eq_getElem h'),bnd_some'];simp only[mk,List.getElem?_eq_getElem h',isMark,u8_44,u8_13];by_cases c1:b[i]=44
  ·simp[c1]
  ·by_cases c2:b[i]=13
   ·simp[c2]
   ·have e:(((b[i]).toNat:Int)==10)=(b[i]==10):=by rw[Bool.eq_iff_iff,beq_iff_eq,beq_iff_eq,u8_10]
    rw[if_neg c1,if_neg c2,bnd_some',e];simp[c1,c2]
def tlF (b:List UInt8):Nat→Nat→Nat
| 0,i=>i
| n+1,i=>if mk b i=true then i else tlF b n (i+1)
def tl (b:List UInt8) (i:Nat):Nat:=tlF b b.length i
theorem tlF_spec (b:List UInt8):∀ n i,b.length≤i+n→i≤tlF b n i∧mk b (tlF b n i)=true∧(∀ k,i≤k→k<tlF b n i→mk b k=false)∧(i≤b.length→tlF b n i≤b.length)
 | 0,i,h=>⟨Nat.le_refl _,mk_out h,fun k h1 h2=>by simp only[tlF] at h2; omega,id⟩
 | n+1,i,h=>by
  simp only[tlF];by_cases c:mk b i=true
  ·rw[if_pos c]; exact⟨Nat.le_refl _,c,fun k h1 h2=>by omega,id⟩
  ·rw[if_neg c];have hi:=mk_in (by simpa using c);obtain⟨h1,h2,h3,h4⟩:=tlF_spec b n (i+1) (by omega);refine⟨by omega,h2,fun k k1 k2=>?_,fun _=>h4 hi⟩;by_cases hk:k=i
   ·subst hk; simpa using c
   ·exact h3 k (by omega) k2
theorem tl_spec (b:List UInt8) (i:Nat):i≤tl b i∧mk b (tl b i)=true∧(∀ k,i≤k→k<tl b i→mk b k=false)∧(i≤b.length→tl b i≤b.length):=tlF_spec b b.length i (by omega)
def aq (b:List UInt8) (i n:Nat):Bool:=(List.range n).any fun k=>at_ b 34 (i+k)
theorem aq_succ (b:List UInt8) (i n:Nat):aq b i (n+1)=(aq b i n||at_ b 34 (i+n)):=by simp[aq,List.range_succ]
theorem plain_eq (b:List UInt8) (i:Nat) (hi:i≤b.length) (hb:b.length≤2000000):scan_reader_plain b (i:Int)=some (aq b i (tl b i-i),((tl b i:Nat):Int)):=by
 obtain⟨h1,h2,h3,h4⟩:=tl_spec b i;have h4':=h4 hi;have h:=loop_nat (f:=scan_reader_plain.l1 b) (fun k (s:Bool)=>(s,(i:Int)+k)) (tl b i-i) (fun n=>aq b i n) (t:=(aq b i (tl b i-i),((tl b i:Nat):Int)))
  (fun k hk=>by
   unfold scan_reader_plain.l1;simp only;rw[show (i:Int)+(k:Int)=((i+k:Nat):Int) by omega,marked_eq,bnd_some',h3 (i+k) (by omega) (by omega),if_neg (by simp),is_eq,bnd_some',aq_succ];have e:(if aq b i k=true then some true else some (at_ b 34 (i+k)):Option Bool)=some (aq b i k||at_ b 34 (i+k)):=by cases aq b i k <;> rfl
   rw[e,bnd_some',w64_id ⟨by omega,by omega⟩];congr 3)
  (by
   unfold scan_reader_plain.l1;simp only;rw[show (i:Int)+((tl b i-i:Nat):Int)=((tl b i:Nat):Int) by omega,marked_eq,bnd_some',h2,if_pos rfl])
 unfold scan_reader_plain;have h':loop (scan_reader_plain.l1 b) (false,(i:Int))=some (aq b i (tl b i-i),((tl b i:Nat):Int)):=by simpa [aq] using h
 rw[h',bnd_some']
theorem till_eq (b:List UInt8) (i:Nat) (hi:i≤b.length) (hb:b.length≤2000000):ref05_till b (i:Int)=some ((tl b i:Nat):Int):=by
 obtain⟨h1,h2,h3,h4⟩:=tl_spec b i;have h4':=h4 hi;have h:=loop_nat (f:=ref05_till.l1 b) (fun k (_:Unit)=>(i:Int)+k) (tl b i-i) (fun _=>()) (t:=((tl b i:Nat):Int))
  (fun k hk=>by
   unfold ref05_till.l1;rw[show (i:Int)+(k:Int)=((i+k:Nat):Int) by omega,mark_eq,bnd_some',h3 (i+k) (by omega) (by omega),if_neg (by simp),w64_id ⟨by omega,by omega⟩];congr 2)
  (by
   unfold ref05_till.l1;rw[show (i:Int)+((tl b i-i:Nat):Int)=((tl b i:Nat):Int) by omega,mark_eq,bnd_some',h2,if_pos rfl])
 unfold ref05_till;have h':loop (ref05_till.l1 b) (i:Int)=some ((tl b i:Nat):Int):=by simpa using h
 rw[h',bnd_some']
theorem places2_eq (i j:Nat) (L:List Int) (hij:i≤j) (hj:j≤2000000) (hL:L.length≤2000000):ref05_places_2 (i:Int) (j:Int) L=some (L++rangeI (i:Int) (j-i)):=by
 have h:=loop_nat (f:=ref05_places_2.l1 (j:Int)) (fun k (s:List Int)=>((i:Int)+k,s)) (j-i) (fun n=>L++rangeI (i:Int) n) (t:=L++rangeI (i:Int) (j-i))
  (fun k hk=>by
   unfold ref05_places_2.l1;simp only;rw[if_pos (by omega),app_of (by simp[rangeI_len]; omega),bnd_some',w64_id ⟨by omega,by omega⟩,rangeI_succ,List.append_assoc];congr 3)
  (by
   unfold ref05_places_2.l1;simp only;rw[if_neg (by omega)])
 unfold ref05_places_2;have h':loop (ref05_places_2.l1 (j:Int)) ((i:Int),L)=some (L++rangeI (i:Int) (j-i)):=by simpa [rangeI] using h
 rw[h',bnd_some']
theorem places_eq (i j:Nat) (hij:i≤j) (hj:j≤2000000):ref05_places (i:Int) (j:Int)=some (rangeI (i:Int) (j-i)):=by
 have h:=loop_nat (f:=ref05_places.l1 (j:Int)) (fun k (s:List Int)=>((i:Int)+k,s)) (j-i) (fun n=>rangeI (i:Int) n) (t:=rangeI (i:Int) (j-i))
  (fun k hk=>by
   unfold ref05_places.l1;simp only;rw[if_pos (by omega),app_of (by simp[rangeI_len]; omega),bnd_some',w64_id ⟨by omega,by omega⟩,rangeI_succ];congr 3)
  (by
   unfold ref05_places.l1;simp only;rw[if_neg (by omega)])
 unfold ref05_places;have h':loop (ref05_places.l1 (j:Int)) ((i:Int),[])=some (rangeI (i:Int) (j-i)):=by simpa [rangeI] using h
 rw[h',bnd_some']
theorem kind_eq (b:List UInt8) (i j:Nat) (hij:i≤j) (hj:j≤2000000):loop (ref05_field.l2 b (j:Int)) ((i:Int),0)=some (if aq b i (j-i)=true then 2 else 0):=by
 have h:=loop_nat (f:=ref05_field.l2 b (j:Int)) (fun k (s:Int)=>((i:Int)+k,s)) (j-i) (fun n=>if aq b i n=true then 2 else 0) (t:=if aq b i (j-i)=true then 2 else 0)
  (fun k hk=>by
   unfold ref05_field.l2;simp only;rw[if_pos (by omega),show (i:Int)+(k:Int)=((i+k:Nat):Int) by omega,quote_eq,bnd_some',aq_succ];have e:(if at_ b 34 (i+k)=true then some 2 else some (if aq b i k=true then 2 else 0):Option Int)=some (if (aq b i k||at_ b 34 (i+k))=true then 2 else 0):=by
    cases aq b i k <;> cases at_ b 34 (i+k) <;> rfl
   rw[e,bnd_some',w64_id ⟨by omega,by omega⟩];congr 3)
  (by
   unfold ref05_field.l2;simp only;rw[if_neg (by omega)])
 simpa [aq] using h
theorem addS_canon (p:List Int) (i:Int) (n:Nat):addS (canon p) ⟨i,n⟩=canon (p++rangeI i n):=by
 rw[← addI_range]; simp[canon,List.foldl_append]
theorem add2_eq (i j:Nat) (p:List Int) (hp:GoodP p) (hpl:p.length≤2000000) (hij:i≤j) (hj:j≤2000000):scan_parts_add_2 (i:Int) (j:Int) (canon p)=some (canon (p++rangeI (i:Int) (j-i))):=by
 have hc:=canon_len p;have hg:=canon_good p hp;unfold scan_parts_add_2;by_cases h:(j:Int)≤(i:Int)
 ·rw[if_pos h,show j-i=0 by omega]; simp[rangeI]
 ·have hs':Good (⟨(i:Int),((j-i:Nat):Int)⟩:arena_Span):=by simp only[Good]; omega
  have hlt:¬ ((⟨(i:Int),((j-i:Nat):Int)⟩:arena_Span).fN<1):=by simp only; omega
  rw[if_neg h,← addS_canon,w64_id (x:=(j:Int)-(i:Int)) ⟨by omega,by omega⟩,show (j:Int)-(i:Int)=((j-i:Nat):Int) by omega];generalize hL:canon p=L at *;have happ:∀ M:List arena_Span,M.length≤2000000→app 16 M [(⟨(i:Int),((j-i:Nat):Int)⟩:arena_Span)]=some (M++[⟨(i:Int),((j-i:Nat):Int)⟩]):=fun M hM=>app_of (by simp; omega);rcases snoc_cases L with rfl|⟨M,k,rfl⟩
  ·rw[addS_nil hlt];simp[show w64 (-1) = -1 from rfl,happ [] (by simp)]
  ·have hlen':M.length+1≤2000000:=by simp at hc; omega
   have e2:w64 (((M++[k]).length:Int)-1)=(M.length:Int):=by simp[w64_id (x:=(M.length:Int)) ⟨by omega,by omega⟩]
   rw[e2,if_pos (by omega),idx_at,bnd_some',join_eq k _ (hg k (by simp)) hs',bnd_some',addS_snoc hlt];by_cases hk:k.fAt+k.fN=(i:Int)
   ·rw[if_pos hk,if_pos hk]; simp
   ·rw[if_neg hk,if_neg hk]; simp[happ (M++[k]) (by simp; omega)]
theorem add_eq (i j:Nat) (hij:i≤j) (hj:j≤2000000):scan_parts_add (i:Int) (j:Int)=some (canon (rangeI (i:Int) (j-i))):=by
 unfold scan_parts_add;by_cases h:(j:Int)≤(i:Int)
 ·rw[if_pos h,show j-i=0 by omega]; rfl
 ·rw[if_neg h,if_neg (by simp[show w64 (-1) = -1 from rfl]),app_of (by simp),bnd_some',w64_id ⟨by omega,by omega⟩];have:=addS_canon [] (i:Int) (j-i);rw[List.nil_append] at this;rw[← this,show canon []=[] from rfl,addS_nil (by simp only; omega)];simp only[List.nil_append];congr 3; omega
def rq (b:List UInt8):Nat→Nat→List Int→Nat × List Int
| 0,i,acc=>(i,acc)
| n+1,i,acc=>if i<b.length∧(at_ b 34 i=false∨at_ b 34 (i+1)=true) then rq b n (i+(if at_ b 34 i=true then 2 else 1)) (acc++[(i:Int)]) else (i,acc)
theorem rq_spec (b:List UInt8):∀ n i acc,b.length≤i+n→i≤b.length→acc.length≤i→(∀ x∈acc,0≤x∧x<(i:Int)) →
 let r:=rq b n i acc
 i≤r.1∧r.1≤b.length∧r.2.length≤r.1∧(∀ x∈r.2,0≤x∧x<(r.1:Int))∧(r.1<b.length→at_ b 34 r.1=true)
 | 0,i,acc,h,hi,hl,ha=>⟨Nat.le_refl _,hi,hl,ha,fun h'=>by simp only[rq] at h'; omega⟩
 | n+1,i,acc,h,hi,hl,ha=>by
  simp only[rq];by_cases c:i<b.length∧(at_ b 34 i=false∨at_ b 34 (i+1)=true)
  ·rw[if_pos c];have h2:i+(if at_ b 34 i=true then 2 else 1)≤b.length:=by
    split
    ·rename_i hq;rcases c.2 with h'|h'
     ·rw[hq] at h'; cases h'
     ·have:=at_in h'; omega
    ·omega
   have h1:i+1≤i+(if at_ b 34 i=true then 2 else 1):=by split <;> omega
   obtain⟨g1,g2,g3,g4,g5⟩:=rq_spec b n (i+(if at_ b 34 i=true then 2 else 1)) (acc++[(i:Int)]) (by omega) h2 (by simp; omega) (by
    intro x hx;rcases List.mem_append.1 hx with hx|hx
    ·have:=ha x hx; omega
    ·simp at hx; omega)
   exact⟨by omega,g2,g3,g4,g5⟩
  ·rw[if_neg c];refine⟨Nat.le_refl _,hi,hl,ha,fun h'=>?_⟩;cases hq:at_ b 34 i with
   | true=>rfl
   | false=>exact absurd ⟨h',.inl hq⟩ c
theorem rqLoop_eq (b : List UInt8) (hb : b.length ≤ 2000000) : ∀ n (i : Nat) acc, b.length ≤ i + n → i ≤ b.length → acc.length ≤ i → loop (ref05_field.l1 b) ((i : Int), acc) = some (((rq b n i acc).1 : Int), (rq b n i acc).2) := by
  intro n
  induction n with
  | zero =>
    intro i acc h hi hl
    refine loop_done ?_
    unfold ref05_field.l1
    simp only
    rw [if_neg (by omega), bnd_some', if_neg (by simp)]
    rfl
  | succ n ih =>
    intro i acc h hi hl
    simp only [rq]
    by_cases hlt : i < b.length
    · by_cases c : at_ b 34 i = false ∨ at_ b 34 (i + 1) = true
      · rw [if_pos ⟨hlt, c⟩]
        have h2 : i + (if at_ b 34 i = true then 2 else 1) ≤ b.length := by
          split
          · rename_i hq
            rcases c with h' | h'
            · rw [hq] at h'; cases h'
            · have := at_in h'; omega
          · omega
        have h1 : i + 1 ≤ i + (if at_ b 34 i = true then 2 else 1) := by split <;> omega
        refine loop_next (s' := (((i + (if at_ b 34 i = true then 2 else 1) : Nat) : Int), acc ++ [(i : Int)])) ?_ (ih _ _ (by omega) h2 (by simp; omega))
        unfold ref05_field.l1
        simp only
        rw [if_pos (by omega), quote_eq, bnd_some', w64_id (x := (i : Int) + 1) ⟨by omega, by omega⟩]
        rw [show (i : Int) + 1 = ((i + 1 : Nat) : Int) by omega, quote_eq, bnd_some']
        have e : (if at_ b 34 i = true then some (at_ b 34 (i + 1)) else some true : Option Bool) = some true := by
          cases hq : at_ b 34 i with
          | false => rfl
          | true => rcases c with h' | h'
                    · rw [hq] at h'; cases h'
                    · simp [h']
        rw [e, bnd_some', if_pos rfl, app_of (by simp; omega), bnd_some', bnd_some']
        cases hq : at_ b 34 i with
        | true =>
          rw [if_pos rfl, bnd_some', w64_id ⟨by omega, by omega⟩]
          simp; omega
        | false =>
          rw [if_neg (by simp), bnd_some', w64_id ⟨by omega, by omega⟩]
          simp
      · rw [if_neg (fun h' => c h'.2)]
        have hq : at_ b 34 i = true := by
          cases hq : at_ b 34 i with
          | true => rfl
          | false => exact absurd (.inl hq) c
        have hq2 : at_ b 34 (i + 1) = false := by
          cases hq2 : at_ b 34 (i + 1) with
          | false => rfl
          | true => exact absurd (.inr hq2) c
        refine loop_done ?_
        unfold ref05_field.l1
        simp only
        rw [if_pos (by omega), quote_eq, bnd_some', hq, if_pos rfl, w64_id (x := (i : Int) + 1) ⟨by omega, by omega⟩, show (i : Int) + 1 = ((i + 1 : Nat) : Int) by omega, quote_eq, bnd_some', hq2, bnd_some', if_neg (by simp)]
    · rw [if_neg (fun h' => hlt h'.1)]
      refine loop_done ?_
      unfold ref05_field.l1
      simp only
      rw [if_neg (by omega), bnd_some', if_neg (by simp)]
theorem rq_fuel (b:List UInt8):∀ n m i acc,b.length≤i+n→b.length≤i+m→rq b n i acc=rq b m i acc
 | 0,0,i,acc,_,_=>rfl
 | 0,m+1,i,acc,h,_=>by simp only[rq]; rw[if_neg (fun h'=>by omega)]
 | n+1,0,i,acc,_,h=>by simp only[rq]; rw[if_neg (fun h'=>by omega)]
 | n+1,m+1,i,acc,h,h'=>by
  simp only[rq];split
  ·have h1:i+1≤i+(if at_ b 34 i=true then 2 else 1):=by split <;> omega
   exact rq_fuel b n m _ _ (by omega) (by omega)
  ·rfl
theorem rq_skip (b:List UInt8) (i:Nat) (acc:List Int) (n:Nat) (hn:b.length≤i+n):∀ k,i+k≤b.length→(∀ j,i≤j→j<i+k→at_ b 34 j=false)→rq b n i acc=rq b n (i+k) (acc++rangeI (i:Int) k)
 | 0,_,_=>by simp[rangeI]
 | k+1,hk,hq=>by
  rw[rq_skip b i acc n hn k (by omega) (fun j h1 h2=>hq j h1 (by omega)),rq_fuel b n (n+1) (i+k) _ (by omega) (by omega)];simp only[rq];have h0:=hq (i+k) (by omega) (by omega);rw[if_pos ⟨by omega,.inl h0⟩,h0,if_neg (by simp),rangeI_succ,List.append_assoc,show i+(k+1)=i+k+1 from rfl,show ((i+k:Nat):Int)=(i:Int)+(k:Int) by omega]
def nqF (b:List UInt8):Nat→Nat→Nat
| 0,i=>i
| n+1,i=>if i<b.length∧at_ b 34 i=false then nqF b n (i+1) else i
theorem nqF_spec (b:List UInt8):∀ n i,b.length≤i+n→i≤b.length→i≤nqF b n i∧nqF b n i≤b.length∧(∀ j,i≤j→j<nqF b n i→at_ b 34 j=false)∧(nqF b n i<b.length→at_ b 34 (nqF b n i)=true)
 | 0,i,h,hi=>⟨Nat.le_refl _,hi,fun j h1 h2=>by simp only[nqF] at h2; omega,fun h'=>by simp only[nqF] at h'; omega⟩
 | n+1,i,h,hi=>by
  simp only[nqF];by_cases c:i<b.length∧at_ b 34 i=false
  ·rw[if_pos c];obtain⟨h1,h2,h3,h4⟩:=nqF_spec b n (i+1) (by omega) (by omega);refine⟨by omega,h2,fun j j1 j2=>?_,h4⟩;by_cases hj:j=i
   ·subst hj; exact c.2
   ·exact h3 j (by omega) j2
  ·rw[if_neg c];refine⟨Nat.le_refl _,hi,fun j h1 h2=>by omega,fun h'=>?_⟩;cases hq:at_ b 34 i with
   | true=>rfl
   | false=>exact absurd ⟨h',hq⟩ c
theorem skip_eq (b:List UInt8) (hb:b.length≤2000000):∀ n (i:Nat),b.length≤i+n→i≤b.length→loop (scan_reader_quoted.l1 b) (i:Int)=some ((nqF b n i:Nat):Int):=by
 have stop:∀ i:Nat,¬ (i<b.length∧at_ b 34 i=false)→scan_reader_quoted.l1 b (i:Int)=some (.done (i:Int)):=fun i c=>by
  unfold scan_reader_quoted.l1;rw[done_eq,bnd_some'];by_cases h:b.length≤i
  ·rw[decide_eq_true h,if_pos rfl,bnd_some',if_neg (by simp)]
  ·have:at_ b 34 i=true:=by
    cases hq:at_ b 34 i with
    | true=>rfl
    | false=>exact absurd ⟨by omega,hq⟩ c
   rw[decide_eq_false h,if_neg (by simp),is_eq,bnd_some',this,bnd_some',if_neg (by simp)]
 intro n
 induction n with
 | zero=>intro i h hi; exact loop_done (stop i (fun h'=>by omega))
 | succ n ih=>
  intro i h hi;simp only[nqF];by_cases c:i<b.length∧at_ b 34 i=false
  ·rw[if_pos c];refine loop_next (s':=((i+1:Nat):Int)) ?_ (ih _ (by omega) (by omega));unfold scan_reader_quoted.l1;rw[done_eq,bnd_some',decide_eq_false (by omega),if_neg (by simp),is_eq,bnd_some',c.2,bnd_some',if_pos (by rfl),w64_id ⟨by omega,by omega⟩];congr 2
  ·rw[if_neg c]; exact loop_done (stop i c)
def qEnd (b:List UInt8) (r:Nat × List Int):Int × List Int × Nat:=
 if b.length≤r.1 then (4,r.2,r.1) else (if r.1+1<tl b (r.1+1) then 3 else 1,r.2++rangeI ((r.1+1:Nat):Int) (tl b (r.1+1)-(r.1+1)),tl b (r.1+1))
theorem goodP_of {p:List Int} {m:Nat} (h:∀ x∈p,0≤x∧x<(m:Int)) (hm:m≤2000000):GoodP p:=fun x hx=>by have:=h x hx; omega
theorem goodP_range {i n:Nat} (h:i+n≤2000000):GoodP (rangeI (i:Int) n):=fun x hx=>by
 simp only[rangeI,List.mem_map,List.mem_range] at hx;obtain⟨k,hk,rfl⟩:=hx; omega
theorem label_eq (b:List UInt8) (hb:b.length≤2000000):∀ n (i:Nat) acc,b.length≤i+n→i≤b.length→acc.length≤i→(∀ x∈acc,0≤x∧x<(i:Int)) →
 loop (scan_reader_quoted.l2 b) ((i:Int),(i:Int),canon acc)=some ((qEnd b (rq b n i acc)).1,canon (qEnd b (rq b n i acc)).2.1,(((qEnd b (rq b n i acc)).2.2:Nat):Int)):=by
 intro n
 induction n using Nat.strongRecOn with
 | _ n ih=>
  intro i acc h hi hl ha;obtain⟨g1,g2,g3,g4⟩:=nqF_spec b b.length i (by omega) hi;have hsk:=skip_eq b hb b.length i (by omega) hi;generalize nqF b b.length i=t at *;have hskip:rq b n i acc=rq b n t (acc++rangeI (i:Int) (t-i)):=by
   have:=rq_skip b i acc n h (t-i) (by omega) (fun j h1 h2=>g3 j h1 (by omega));rwa[show i+(t-i)=t by omega] at this
  have hga:=goodP_of ha (by omega);have hr:GoodP (rangeI (i:Int) (t-i)):=goodP_range (by omega);by_cases ht:b.length≤t
  ·refine loop_done ?_;unfold scan_reader_quoted.l2;simp only;rw[hsk,bnd_some',done_eq,bnd_some',decide_eq_true ht,if_pos rfl,add2_eq i t acc hga (by omega) g1 (by omega),bnd_some',hskip];have e:rq b n t (acc++rangeI (i:Int) (t-i))=(t,acc++rangeI (i:Int) (t-i)):=by
    cases n with
    | zero=>rfl
    | succ n=>simp only[rq]; rw[if_neg (fun h'=>by omega)]
   rw[e,qEnd,if_pos ht]
  ·have htl:t<b.length:=by omega
   have hqt:=g4 htl;cases hn:at_ b 34 (t+1) with
   | true=>
    have h2:=at_in hn;obtain⟨m,rfl⟩:∃ m,n=m+1:=⟨n-1,by omega⟩;have e:rq b (m+1) t (acc++rangeI (i:Int) (t-i))=rq b m (t+2) (acc++rangeI (i:Int) (t+1-i)):=by
     simp only[rq];rw[if_pos ⟨htl,.inr hn⟩,hqt,if_pos rfl,show t+1-i=(t-i)+1 by omega,rangeI_succ,List.append_assoc];congr 4; omega
    refine loop_next (s':=(((t+2:Nat):Int),((t+2:Nat):Int),canon (acc++rangeI (i:Int) (t+1-i)))) ?_ ?_
    ·unfold scan_reader_quoted.l2;simp only;rw[hsk,bnd_some',done_eq,bnd_some',decide_eq_false ht,if_neg (by simp),w64_id (x:=(t:Int)+1) ⟨by omega,by omega⟩,show (t:Int)+1=((t+1:Nat):Int) by omega,is_eq,bnd_some',hn,if_pos rfl,add2_eq i (t+1) acc hga (by omega) (by omega) (by omega),bnd_some',w64_id ⟨by omega,by omega⟩];congr 4
    ·rw[hskip,e];refine ih m (by omega) (t+2) _ (by omega) (by omega) (by simp[rangeI_len]; omega) (fun x hx=>?_);rcases List.mem_append.1 hx with hx|hx
     ·have:=ha x hx; omega
     ·simp only[rangeI,List.mem_map,List.mem_range] at hx;obtain⟨k,hk,rfl⟩:=hx; omega
   | false=>
    have e:rq b n t (acc++rangeI (i:Int) (t-i))=(t,acc++rangeI (i:Int) (t-i)):=by
     cases n with
     | zero=>rfl
     | succ n=>
      simp only[rq];rw[if_neg];rintro ⟨_,h'|h'⟩
      ·rw[hqt] at h'; cases h'
      ·rw[hn] at h'; cases h'
    obtain⟨t1,t2,t3,t4⟩:=tl_spec b (t+1);have t4':=t4 (by omega);refine loop_done ?_;unfold scan_reader_quoted.l2;simp only;rw[hsk,bnd_some',done_eq,bnd_some',decide_eq_false ht,if_neg (by simp),w64_id (x:=(t:Int)+1) ⟨by omega,by omega⟩,show (t:Int)+1=((t+1:Nat):Int) by omega,is_eq,bnd_some',hn,if_neg (by simp),
     w64_id (x:=((t+1:Nat):Int)-1) ⟨by omega,by omega⟩,show ((t+1:Nat):Int)-1=(t:Int) by omega,add2_eq i t acc hga (by omega) g1 (by omega),bnd_some',plain_eq b (t+1) (by omega) hb,bnd_some']
    simp only;rw[add2_eq (t+1) (tl b (t+1)) _ (goodP_app hga hr) (by simp[rangeI_len]; omega) t1 (by omega),bnd_some',hskip,e,qEnd,if_neg ht];by_cases c:t+1<tl b (t+1)
    ·rw[if_pos (by omega),if_pos c]
    ·rw[if_neg (by omega),if_neg c]
def fieldF (b:List UInt8) (i:Nat):Int × List Int × Nat:=
 if at_ b 34 i=true then qEnd b (rq b b.length (i+1) []) else (if aq b i (tl b i-i)=true then 2 else 0,rangeI (i:Int) (tl b i-i),tl b i)
theorem fieldF_spec (b:List UInt8) (hb:b.length≤2000000) (i:Nat) (hi:i≤b.length):i≤(fieldF b i).2.2∧(fieldF b i).2.2≤b.length∧mk b (fieldF b i).2.2=true∧(∀ x∈(fieldF b i).2.1,0≤x∧x<(b.length:Int))∧(fieldF b i).2.1.length≤b.length:=by
 unfold fieldF;have hr:∀ {p m:Nat},p+m≤b.length→∀ x∈rangeI (p:Int) m,0≤x∧x<(b.length:Int):=fun {p m} h x hx=>by
  simp only[rangeI,List.mem_map,List.mem_range] at hx;obtain⟨k,hk,rfl⟩:=hx; omega
 by_cases c:at_ b 34 i=true
 ·rw[if_pos c];have hi':=at_in c;obtain⟨g1,g2,g3,g4,g5⟩:=rq_spec b b.length (i+1) [] (by omega) (by omega) (by simp) (by simp);generalize rq b b.length (i+1) []=r at *;unfold qEnd;by_cases d:b.length≤r.1
  ·rw[if_pos d];exact⟨by simp only; omega,g2,mk_out d,fun x hx=>by have:=g4 x hx; omega,by simp only; omega⟩
  ·rw[if_neg d];obtain⟨t1,t2,t3,t4⟩:=tl_spec b (r.1+1);have t4':=t4 (by omega);refine⟨by simp only; omega,t4',t2,fun x hx=>?_,by simp[rangeI_len]; omega⟩;rcases List.mem_append.1 hx with hx|hx
   ·have:=g4 x hx; omega
   ·exact hr (by omega) x hx
 ·rw[if_neg c];obtain⟨t1,t2,t3,t4⟩:=tl_spec b i;have t4':=t4 hi;exact⟨t1,t4',t2,hr (by omega),by simp[rangeI_len]; omega⟩
def sField (b:List UInt8) (i:Nat):scan_Field:=⟨⟨(i:Int),(((fieldF b i).2.2-i:Nat):Int)⟩,(fieldF b i).1,canon (fieldF b i).2.1⟩
def rField (b:List UInt8) (i:Nat):ref05_Field:=⟨⟨(i:Int),(((fieldF b i).2.2-i:Nat):Int)⟩,(fieldF b i).1,(fieldF b i).2.1⟩
theorem sField_eq (b:List UInt8) (hb:b.length≤2000000) (i:Nat) (hi:i≤b.length):scan_reader_field b (i:Int)=some (sField b i,(((fieldF b i).2.2:Nat):Int)):=by
 obtain⟨s1,s2,s3,s4,s5⟩:=fieldF_spec b hb i hi;have key:(if at_ b 34 i=true then bnd (scan_reader_quoted b (i:Int)) fun x6=>some (x6.2.2,x6.1,x6.2.1) else bnd (scan_reader_bare b (i:Int)) fun x7=>some (x7.2.2,x7.1,x7.2.1):Option (Int × Int × (List arena_Span)))=some ((((fieldF b i).2.2:Nat):Int),(fieldF b i).1,canon (fieldF b i).2.1):=by
  unfold fieldF;by_cases c:at_ b 34 i=true
  ·have hi':=at_in c;rw[if_pos c,if_pos c];unfold scan_reader_quoted;rw[w64_id ⟨by omega,by omega⟩,show (i:Int)+1=((i+1:Nat):Int) by omega];have:=label_eq b hb b.length (i+1) [] (by omega) (by omega) (by simp) (by simp);rw[show canon []=[] from rfl] at this;rw[this,bnd_some']
  ·rw[if_neg c,if_neg c];obtain⟨t1,t2,t3,t4⟩:=tl_spec b i;have t4':=t4 hi;unfold scan_reader_bare;rw[plain_eq b i hi hb,bnd_some'];simp only;rw[add_eq i (tl b i) t1 (by omega),bnd_some'];cases aq b i (tl b i-i) <;> rfl
 unfold scan_reader_field;rw[is_eq,bnd_some',key,bnd_some',w64_id ⟨by omega,by omega⟩];unfold sField;congr 4; omega
theorem rField_eq (b:List UInt8) (hb:b.length≤2000000) (i:Nat) (hi:i≤b.length):ref05_field b (i:Int)=some (rField b i):=by
 obtain⟨s1,s2,s3,s4,s5⟩:=fieldF_spec b hb i hi;unfold ref05_field;rw[quote_eq,bnd_some'];unfold rField;unfold fieldF at *;by_cases c:at_ b 34 i=true
 ·have hi':=at_in c;simp only[if_pos c] at *;rw[w64_id (x:=(i:Int)+1) ⟨by omega,by omega⟩,show (i:Int)+1=((i+1:Nat):Int) by omega,rqLoop_eq b hb b.length (i+1) [] (by omega) (by omega) (by simp),bnd_some'];obtain⟨g1,g2,g3,g4,g5⟩:=rq_spec b b.length (i+1) [] (by omega) (by omega) (by simp) (by simp);generalize rq b b.length (i+1) []=r at *;unfold qEnd at *;by_cases d:b.length≤r.1
  ·simp only[if_pos d] at *;rw[if_pos (by omega),w64_id ⟨by omega,by omega⟩];congr 3; omega
  ·simp only[if_neg d] at *;obtain⟨t1,t2,t3,t4⟩:=tl_spec b (r.1+1);have t4':=t4 (by omega);rw[if_neg (by omega),w64_id (x:=(r.1:Int)+1) ⟨by omega,by omega⟩,show (r.1:Int)+1=((r.1+1:Nat):Int) by omega,till_eq b (r.1+1) (by omega) hb,bnd_some'];have e:(if ((tl b (r.1+1):Nat):Int)>((r.1+1:Nat):Int) then some 3 else some 1:Option Int)=some (if r.1+1<tl b (r.1+1) then 3 else 1):=by
    by_cases h:r.1+1<tl b (r.1+1)
    ·rw[if_pos h,if_pos (by omega)]
    ·rw[if_neg h,if_neg (by omega)]
   rw[e,bnd_some',places2_eq _ _ _ t1 (by omega) (by omega),bnd_some',w64_id ⟨by omega,by omega⟩];congr 3; omega
 ·simp only[if_neg c] at *;obtain⟨t1,t2,t3,t4⟩:=tl_spec b i;have t4':=t4 hi;rw[till_eq b i hi hb,bnd_some',places_eq _ _ t1 (by omega),bnd_some',kind_eq _ _ _ t1 (by omega),bnd_some',w64_id ⟨by omega,by omega⟩];congr 3; omega
abbrev fe (b:List UInt8) (i:Nat):Nat:=(fieldF b i).2.2
def fsF (b:List UInt8):Nat→Nat→List Nat × Nat
| 0,i=>([i],fe b i)
| n+1,i=>if at_ b 44 (fe b i)=true then (i::(fsF b n (fe b i+1)).1,(fsF b n (fe b i+1)).2) else ([i],fe b i)
def fs (b:List UInt8) (i:Nat):List Nat × Nat:=fsF b b.length i
theorem fsF_spec (b:List UInt8) (hb:b.length≤2000000):∀ n i,b.length≤i+n→i≤b.length→i≤(fsF b n i).2∧(fsF b n i).2≤b.length∧mk b (fsF b n i).2=true∧at_ b 44 (fsF b n i).2=false∧(∀ j∈(fsF b n i).1,j≤b.length)∧(fsF b n i).1.length≤b.length+1-i:=by
 intro n
 induction n with
 | zero=>
  intro i h hi;obtain⟨s1,s2,s3,s4,s5⟩:=fieldF_spec b hb i hi;have:at_ b 44 (fe b i)=false:=by
   cases hc:at_ b 44 (fe b i) with
   | false=>rfl
   | true=>have:=at_in hc; simp only[fe] at this; omega
  exact⟨s1,s2,s3,this,by simp only[fsF]; simpa using hi,by simp only[fsF,List.length_cons,List.length_nil]; omega⟩
 | succ n ih=>
  intro i h hi;obtain⟨s1,s2,s3,s4,s5⟩:=fieldF_spec b hb i hi;simp only[fsF];by_cases c:at_ b 44 (fe b i)=true
  ·have hlt:=at_in c;simp only[if_pos c];have h0:i≤fe b i:=s1;obtain⟨h1,h2,h3,h4,h5,h6⟩:=ih (fe b i+1) (by omega) (by omega);refine⟨by omega,h2,h3,h4,fun j hj=>?_,by simp only[List.length_cons]; omega⟩;rcases List.mem_cons.1 hj with rfl|hj
   ·exact hi
   ·exact h5 j hj
  ·simp only[if_neg c];exact⟨s1,s2,s3,by simpa using c,by simpa using hi,by simp only[List.length_cons,List.length_nil]; omega⟩
def endF (b:List UInt8) (e:Nat):Int × Nat:=if at_ b 10 e=true then (1,e+1) else if at_ b 13 e=true then (if at_ b 10 (e+1)=true then (2,e+2) else (3,e+1)) else (0,e)
theorem end_eq (b:List UInt8) (hb:b.length≤2000000) (e:Nat) (he:e≤b.length):scan_reader_end b (e:Int)=some ((endF b e).1,(((endF b e).2:Nat):Int)):=by
 unfold scan_reader_end endF;rw[is_eq,bnd_some',w64_id (x:=(e:Int)+1) ⟨by omega,by omega⟩,show (e:Int)+1=((e+1:Nat):Int) by omega,is_eq,bnd_some',is_eq,bnd_some',w64_id (x:=((e+1:Nat):Int)+1) ⟨by omega,by omega⟩];cases at_ b 10 e <;> cases at_ b 13 e <;> cases at_ b 10 (e+1) <;> simp <;> omega
theorem endF_spec (b:List UInt8) (e:Nat) (he:e≤b.length):e≤(endF b e).2∧(endF b e).2≤b.length∧((mk b e=true)→at_ b 44 e=false→e<b.length→e<(endF b e).2):=by
 unfold endF;by_cases c1:at_ b 10 e=true
 ·have:=at_in c1;rw[if_pos c1]; exact⟨by simp,by simp only; omega,fun _ _ _=>by simp⟩
 ·rw[if_neg c1];by_cases c2:at_ b 13 e=true
  ·have:=at_in c2;rw[if_pos c2];by_cases c3:at_ b 10 (e+1)=true
   ·have:=at_in c3;rw[if_pos c3]; exact⟨by simp,by simp only; omega,fun _ _ _=>by simp⟩
   ·rw[if_neg c3]; exact⟨by simp,by simp only; omega,fun _ _ _=>by simp⟩
  ·rw[if_neg c2];refine⟨Nat.le_refl _,he,fun hm h44 hlt=>?_⟩;exfalso;simp only[at_,List.getElem?_eq_getElem hlt,mk,isMark] at *;simp at c1 c2 hm h44;rcases hm with (h|h)|h
   ·exact h44 h
   ·exact c2 h
   ·exact c1 h
def sRow (b:List UInt8) (i:Nat):scan_Row:=⟨(fs b i).1.map (sField b),(endF b (fs b i).2).1⟩
def rRow (b:List UInt8) (i:Nat):ref05_Row:=⟨(fs b i).1.map (rField b),(endF b (fs b i).2).1⟩
def nx (b:List UInt8) (i:Nat):Nat:=(endF b (fs b i).2).2
theorem sRowLoop (b:List UInt8) (hb:b.length≤2000000):∀ n i acc,b.length≤i+n→i≤b.length→acc.length≤i→loop (scan_reader_row.l1 b) (((fe b i:Nat):Int),acc++[sField b i])=some ((((fsF b n i).2:Nat):Int),acc++(fsF b n i).1.map (sField b)):=by
 have stop:∀ i acc,at_ b 44 (fe b i)=false→scan_reader_row.l1 b (((fe b i:Nat):Int),acc)=some (.done (((fe b i:Nat):Int),acc)):=fun i acc h=>by
  unfold scan_reader_row.l1;simp only;rw[is_eq,bnd_some',h,if_neg (by simp)]
 intro n
 induction n with
 | zero=>
  intro i acc h hi hl;obtain⟨s1,s2,s3,s4,s5⟩:=fieldF_spec b hb i hi;refine loop_done (stop i _ ?_);cases hc:at_ b 44 (fe b i) with
  | false=>rfl
  | true=>have:=at_in hc; simp only[fe] at this; omega
 | succ n ih=>
  intro i acc h hi hl;obtain⟨s1,s2,s3,s4,s5⟩:=fieldF_spec b hb i hi;have h0:i≤fe b i:=s1;simp only[fsF];by_cases c:at_ b 44 (fe b i)=true
  ·have hlt:=at_in c;rw[if_pos c];refine loop_next (s':=(((fe b (fe b i+1):Nat):Int),(acc++[sField b i])++[sField b (fe b i+1)])) ?_ ?_
   ·unfold scan_reader_row.l1;simp only;rw[is_eq,bnd_some',c,if_pos rfl,w64_id ⟨by omega,by omega⟩,show ((fe b i:Nat):Int)+1=((fe b i+1:Nat):Int) by omega,sField_eq b hb _ (by omega),bnd_some',app_of (by simp; omega),bnd_some']
   ·rw[ih (fe b i+1) (acc++[sField b i]) (by omega) (by omega) (by simp; omega)];simp
  ·rw[if_neg c];exact loop_done (stop i _ (by simpa using c))
theorem sRow_eq (b:List UInt8) (hb:b.length≤2000000) (i:Nat) (hi:i≤b.length):scan_reader_row b (i:Int)=some (sRow b i,((nx b i:Nat):Int)):=by
 obtain⟨h1,h2,h3,h4,h5,h6⟩:=fsF_spec b hb b.length i (by omega) hi;unfold scan_reader_row;rw[sField_eq b hb i hi,bnd_some'];have:=sRowLoop b hb b.length i [] (by omega) hi (by simp);simp only[List.nil_append] at this;simp only;rw[this,bnd_some'];simp only;rw[end_eq b hb _ h2,bnd_some'];rfl
theorem rRowLoop (b:List UInt8) (hb:b.length≤2000000):∀ n i acc,b.length≤i+n→i≤b.length→acc.length≤i→loop (ref05_One.l1 b) ((i:Int),acc)=some ((((fsF b n i).2:Nat):Int),acc++(fsF b n i).1.map (rField b)):=by
 have one:∀ (i:Nat) acc,i≤b.length→acc.length≤i→ref05_One.l1 b ((i:Int),acc)=some (if at_ b 44 (fe b i)=true then .next (((fe b i+1:Nat):Int),acc++[rField b i]) else .done (((fe b i:Nat):Int),acc++[rField b i])):=fun i acc hi hl=>by
  obtain⟨s1,s2,s3,s4,s5⟩:=fieldF_spec b hb i hi;unfold ref05_One.l1;simp only;rw[rField_eq b hb i hi,bnd_some',app_of (by simp; omega),bnd_some'];have e:w64 ((rField b i).fRaw.fAt+(rField b i).fRaw.fN)=((fe b i:Nat):Int):=by
   simp only[rField,fe];rw[w64_id ⟨by omega,by omega⟩]; omega
  rw[e];have e2:(if ((fe b i:Nat):Int)≥(b.length:Int) then some true else bnd (idx b ((fe b i:Nat):Int)) fun x23=>some (!((x23.toNat:Int)==44)):Option Bool)=some (!(at_ b 44 (fe b i))):=by
   by_cases h:b.length≤fe b i
   ·rw[if_pos (by omega)];simp[at_,List.getElem?_eq_none h]
   ·have h':fe b i<b.length:=by omega
    rw[if_neg (by omega),idx_nat (List.getElem?_eq_getElem h'),bnd_some'];simp only[at_,List.getElem?_eq_getElem h'];congr 2;rw[Bool.eq_iff_iff,beq_iff_eq,beq_iff_eq,u8_44,Option.some.injEq]
  rw[e2,bnd_some'];cases hc:at_ b 44 (fe b i) with
  | true=>
   have:=at_in hc;rw[if_neg (by simp),if_pos rfl,w64_id ⟨by omega,by omega⟩];congr 3
  | false=>rw[if_pos (by rfl),if_neg (by simp)]
 intro n
 induction n with
 | zero=>
  intro i acc h hi hl;obtain⟨s1,s2,s3,s4,s5⟩:=fieldF_spec b hb i hi;refine loop_done ?_;rw[one i acc hi hl,if_neg]
  ·rfl
  ·intro hc; have:=at_in hc; simp only[fe] at this; omega
 | succ n ih=>
  intro i acc h hi hl;obtain⟨s1,s2,s3,s4,s5⟩:=fieldF_spec b hb i hi;have h0:i≤fe b i:=s1;simp only[fsF];by_cases c:at_ b 44 (fe b i)=true
  ·have hlt:=at_in c;rw[if_pos c];refine loop_next (by rw[one i acc hi hl,if_pos c]) ?_;rw[ih (fe b i+1) (acc++[rField b i]) (by omega) (by omega) (by simp; omega)];simp
  ·rw[if_neg c];exact loop_done (by rw[one i acc hi hl,if_neg c]; rfl)
theorem rRow_eq (b:List UInt8) (hb:b.length≤2000000) (i:Nat) (hi:i<b.length):ref05_One b (i:Int)=some (rRow b i,((nx b i:Nat):Int)):=by
 obtain⟨h1,h2,h3,h4,h5,h6⟩:=fsF_spec b hb b.length i (by omega) (by omega);unfold ref05_One;rw[if_neg (by omega),decide_eq_false (by omega),bnd_some',if_neg (by simp)];have:=rRowLoop b hb b.length i [] (by omega) (by omega) (by simp);simp only[List.nil_append] at this;rw[this,bnd_some'];unfold rRow nx;rw[show fs b i=fsF b b.length i from rfl];generalize fsF b b.length i=r at *;obtain⟨L,e⟩:=r;simp only at *;unfold endF;have q:∀ (c:UInt8) (n:Nat),(c.toNat=n)→∀ x:UInt8,((x.toNat:Int)==(n:Int))=(x==c):=fun c n hc x=>by
  rw[Bool.eq_iff_iff,beq_iff_eq,beq_iff_eq,← u8n,hc]
 have e10:(if (e:Int)<(b.length:Int) then bnd (idx b (e:Int)) fun x27=>some ((x27.toNat:Int)==10) else some false:Option Bool)=some (at_ b 10 e):=by
  by_cases h:e<b.length
  ·rw[if_pos (by omega),idx_nat (List.getElem?_eq_getElem h),bnd_some'];simp only[at_,List.getElem?_eq_getElem h];rw[show ((10:Int))=((10:Nat):Int) from rfl,q 10 10 rfl];simp
  ·rw[if_neg (by omega)]; simp[at_,List.getElem?_eq_none (show b.length≤e by omega)]
 rw[e10,bnd_some'];by_cases c1:at_ b 10 e=true
 ·rw[if_pos c1,if_pos c1,w64_id ⟨by omega,by omega⟩]; rfl
 ·rw[if_neg c1,if_neg c1,w64_id (x:=(e:Int)+1) ⟨by omega,by omega⟩];have e13:(if (e:Int)+1<(b.length:Int) then bnd (idx b (e:Int)) fun x31=>if (x31.toNat:Int)=13 then bnd (idx b ((e:Int)+1)) fun x33=>some ((x33.toNat:Int)==10) else some false else some false:Option Bool)=some (at_ b 13 e&&at_ b 10 (e+1)):=by
   by_cases h:e+1<b.length
   ·have h':e<b.length:=by omega
    rw[if_pos (by omega),idx_nat (List.getElem?_eq_getElem h'),bnd_some',show (e:Int)+1=((e+1:Nat):Int) by omega,idx_nat (List.getElem?_eq_getElem h),bnd_some'];simp only[at_,List.getElem?_eq_getElem h,List.getElem?_eq_getElem h'];rw[show ((10:Int))=((10:Nat):Int) from rfl,q 10 10 rfl];simp only[u8_13];by_cases c:b[e]=13
    ·simp[c]
    ·simp[c]
   ·rw[if_neg (by omega)];have:at_ b 10 (e+1)=false:=by simp[at_,List.getElem?_eq_none (show b.length≤e+1 by omega)]
    rw[this]; simp
  rw[e13,bnd_some'];by_cases c2:at_ b 13 e=true
  ·have:=at_in c2;rw[if_pos c2,c2];by_cases c3:at_ b 10 (e+1)=true
   ·rw[if_pos c3,c3,if_pos (by rfl),w64_id ⟨by omega,by omega⟩]; rfl
   ·rw[if_neg c3,if_neg (by simpa using c3),if_pos (by omega)]; rfl
  ·have hlt:¬ e<b.length:=by
    intro hlt;simp only[at_,List.getElem?_eq_getElem hlt,mk,isMark] at *;simp at c1 c2 h3 h4;rcases h3 with (h|h)|h
    ·exact h4 h
    ·exact c2 h
    ·exact c1 h
   rw[if_neg c2,if_neg (by simp[c2]),if_neg (by omega)]
theorem nx_lt (b:List UInt8) (hb:b.length≤2000000) (i:Nat) (hi:i<b.length):i<nx b i∧nx b i≤b.length:=by
 obtain⟨h1,h2,h3,h4,h5,h6⟩:=fsF_spec b hb b.length i (by omega) (by omega);obtain⟨g1,g2,g3⟩:=endF_spec b (fs b i).2 h2;refine⟨?_,g2⟩;rcases Nat.lt_or_ge (fs b i).2 b.length with h|h
 ·have:=g3 h3 h4 h;have h1':i≤(fs b i).2:=h1;simp only[nx]; omega
 ·simp only[nx]; omega
def rsF (b:List UInt8):Nat→Nat→List Nat
| 0,_=>[]
| n+1,i=>if i<b.length then i::rsF b n (nx b i) else []
theorem sAllLoop (b:List UInt8) (hb:b.length≤2000000):∀ n i acc,b.length≤i+n→i≤b.length→acc.length≤i→loop (scan_All.l1 b) (acc,(i:Int))=some (acc++(rsF b n i).map (sRow b)):=by
 have stop:∀ (i:Nat) acc,b.length≤i→scan_All.l1 b (acc,(i:Int))=some (.done acc):=fun i acc h=>by
  unfold scan_All.l1;simp only;rw[done_eq,bnd_some',decide_eq_true h,if_pos rfl]
 intro n
 induction n with
 | zero=>intro i acc h hi hl; rw[show acc++(rsF b 0 i).map (sRow b)=acc by simp[rsF]]; exact loop_done (stop i acc (by omega))
 | succ n ih=>
  intro i acc h hi hl;simp only[rsF];by_cases c:i<b.length
  ·rw[if_pos c];obtain⟨n1,n2⟩:=nx_lt b hb i c;refine loop_next (s':=(acc++[sRow b i],((nx b i:Nat):Int))) ?_ ?_
   ·unfold scan_All.l1;simp only;rw[done_eq,bnd_some',decide_eq_false (by omega),if_neg (by simp),sRow_eq b hb i hi,bnd_some',app_of (by simp; omega),bnd_some']
   ·rw[ih _ _ (by omega) n2 (by simp; omega)]; simp
  ·rw[if_neg c,show acc++List.map (sRow b) []=acc by simp]; exact loop_done (stop i acc (by omega))
def rs (b:List UInt8):List Nat:=rsF b b.length 0
theorem sAll_eq (b:List UInt8) (hb:b.length≤2000000):scan_All b=some ((rs b).map (sRow b)):=by
 unfold scan_All;have:=sAllLoop b hb b.length 0 [] (by omega) (by omega) (by simp);rw[show ((0:Nat):Int)=0 from rfl] at this;rw[this,bnd_some']; rfl
theorem starts_spec (b : List UInt8) (hb : b.length ≤ 2000000) (i : Nat) (hi : i ≤ b.length) : (∀ j ∈ (fs b i).1, j ≤ b.length) ∧ (fs b i).1.length ≤ 2000001 := by
  obtain ⟨h1, h2, h3, h4, h5, h6⟩ := fsF_spec b hb b.length i (by omega) hi
  exact ⟨h5, by have : (fs b i).1.length ≤ b.length + 1 - i := h6
                omega⟩
def bytesAt (b:List UInt8) (p:List Int):List UInt8:=p.filterMap fun x=>b[x.toNat]?
theorem bytesAt_append (b:List UInt8) (p r:List Int):bytesAt b (p++r)=bytesAt b p++bytesAt b r:=by simp[bytesAt]
theorem bytesAt_len (b:List UInt8) (p:List Int):(bytesAt b p).length≤p.length:=List.length_filterMap_le _ _
theorem take_one (b:List UInt8) (n:Nat) (h:n<b.length):b.take (n+1)=b.take n++[b[n]]:=List.take_succ_eq_append_getElem h
theorem bytes_range (b:List UInt8) (a:Nat):∀ n,a+n≤b.length→(b.take (a+n)).drop a=bytesAt b (rangeI (a:Int) n)
 | 0,h=>by rw[List.drop_eq_nil_of_le (by simp; omega)]; rfl
 | n+1,h=>by
  rw[← Nat.add_assoc,take_one b (a+n) (by omega),List.drop_append_of_le_length (by simp; omega),bytes_range b a n (by omega),rangeI_succ,bytesAt_append];congr 1;simp only[bytesAt,List.filterMap_cons,List.filterMap_nil];rw[show ((a:Int)+(n:Int)).toNat=a+n by omega,List.getElem?_eq_getElem (by omega)]
theorem text_eq (b:List UInt8) (hb:b.length≤2000000) (p:List Int) (hp:∀ x∈p,0≤x∧x<(b.length:Int)) (hl:p.length≤2000000):ref05_Text b p=some (bytesAt b p):=by
 have h:=loop_fold (f:=ref05_Text.l1 b p) (fun i (s:List UInt8)=>(s,i)) p (fun pre=>bytesAt b pre) (t:=bytesAt b p)
  (fun pre x suf hs=>by
   have hx:=hp x (by rw[hs]; simp);have hpl:pre.length+1≤p.length:=by rw[hs]; simp
   have hbl:=bytesAt_len b pre;unfold ref05_Text.l1;simp only;rw[if_pos (by omega),show idx p (pre.length:Int)=some x by rw[hs]; exact idx_at pre x suf,bnd_some',w64_id (x:=x+1) ⟨by omega,by omega⟩,cut_of ⟨by omega,by omega,by omega⟩,bnd_some',w64_id ⟨by omega,by omega⟩];have e:(b.take (x+1).toNat).drop x.toNat=bytesAt b [x]:=by
    have:=bytes_range b x.toNat 1 (by omega);rw[show (x+1).toNat=x.toNat+1 by omega,this,show rangeI ((x.toNat:Nat):Int) 1=[x] by simp[rangeI]; omega]
   rw[e,bytesAt_append];have hl1:=bytesAt_len b [x];simp only[List.length_cons,List.length_nil] at hl1;rw[catS,if_pos (by omega),bnd_some'])
  (by
   unfold ref05_Text.l1;simp only;rw[if_neg (by omega)])
 unfold ref05_Text;have h':loop (ref05_Text.l1 b p) ([],0)=some (bytesAt b p):=by simpa [bytesAt] using h
 rw[h',bnd_some']
theorem rAllLoop (b:List UInt8) (hb:b.length≤2000000):∀ n i acc,b.length≤i+n→i≤b.length→acc.length≤i→loop (ref05_All.l1 b) ((i:Int),acc)=some (acc++(rsF b n i).map (rRow b)):=by
 have stop:∀ (i:Nat) acc,b.length≤i→ref05_All.l1 b ((i:Int),acc)=some (.done acc):=fun i acc h=>by
  unfold ref05_All.l1;simp only;rw[if_neg (by omega)]
 intro n
 induction n with
 | zero=>intro i acc h hi hl; rw[show acc++(rsF b 0 i).map (rRow b)=acc by simp[rsF]]; exact loop_done (stop i acc (by omega))
 | succ n ih=>
  intro i acc h hi hl;simp only[rsF];by_cases c:i<b.length
  ·rw[if_pos c];obtain⟨n1,n2⟩:=nx_lt b hb i c;refine loop_next (s':=(((nx b i:Nat):Int),acc++[rRow b i])) ?_ ?_
   ·unfold ref05_All.l1;simp only;rw[if_pos (by omega),rRow_eq b hb i c,bnd_some',app_of (by simp; omega),bnd_some']
   ·rw[ih _ _ (by omega) n2 (by simp; omega)]; simp
  ·rw[if_neg c,show acc++List.map (rRow b) []=acc by simp]; exact loop_done (stop i acc (by omega))
theorem rAll_eq (b:List UInt8) (hb:b.length≤2000000):ref05_All b=some ((rs b).map (rRow b)):=by
 unfold ref05_All;have:=rAllLoop b hb b.length 0 [] (by omega) (by omega) (by simp);rw[show ((0:Nat):Int)=0 from rfl] at this;rw[this,bnd_some']; rfl
def InA (r:List Int) (a:List UInt8):Prop:=∀ x∈r,0≤x∧x<(a.length:Int)
theorem inA_good {r:List Int} {a:List UInt8} (h:InA r a) (ha:a.length≤2000000):GoodP r:=fun x hx=>by have:=h x hx; omega
theorem bytesA_range {s:arena_Span} {a:List UInt8} (h0:0≤s.fAt) (h1:0≤s.fN) (h2:s.fAt+s.fN≤a.length):bytesA s a=bytesAt a (exp1 s)∧rightA s a=true:=by
 have hr:rightA s a=true:=by unfold rightA; simp only[decide_eq_true_eq]; omega
 refine⟨?_,hr⟩;unfold bytesA;rw[if_pos hr];have:=bytes_range a s.fAt.toNat s.fN.toNat (by omega);rw[show (s.fAt+s.fN).toNat=s.fAt.toNat+s.fN.toNat by omega,this,exp1,show ((s.fAt.toNat:Nat):Int)=s.fAt by omega]
theorem exp1_last {x:arena_Span} (h:1≤x.fN):x.fAt+((x.fN.toNat-1:Nat):Int)∈exp1 x:=by
 simp only[exp1,rangeI,List.mem_map,List.mem_range];exact⟨x.fN.toNat-1,by omega,rfl⟩
theorem Flat_eq (t:piece_Text) (r:List Int) (a:List UInt8) (ht:t.fL=canon r) (hr:InA r a) (ha:a.length≤2000000) (hl:r.length≤2000000):piece_Text_Flat t a=some (bytesAt a r):=by
 have p1:=inA_good hr ha;have hc:=canon_len r;have hg:=canon_good r p1;have h:=loop_fold (f:=piece_Text_Flat.l1 t a) (fun k (s:List UInt8)=>(k,s)) (canon r) (fun pre=>bytesAt a (expand pre)) (t:=bytesAt a r)
  (fun pre x suf hs=>by
   obtain⟨g1,g2,g3⟩:=exp_sub p1 (show canon r=pre++(x::suf) from hs);have hx:Good x:=hg x (by rw[hs]; simp);simp only[Good] at hx;have hpl:pre.length+1≤(canon r).length:=by rw[hs]; simp
   have hbl:=bytesAt_len a (expand pre);have hin:x.fAt+x.fN≤(a.length:Int):=by
    have:=hr (x.fAt+((x.fN.toNat-1:Nat):Int)) (by
     rw[g3,show x::suf=[x]++suf from rfl,expand_append,expand_one];simp only[List.mem_append];exact .inr (.inl (exp1_last (by omega))))
    omega
   obtain⟨e1,e2⟩:=bytesA_range (s:=x) (a:=a) (by omega) (by omega) hin;have hl1:=bytesAt_len a (exp1 x);have hl2:(exp1 x).length=x.fN.toNat:=rangeI_len _ _;unfold piece_Text_Flat.l1;rw[ht];simp only;rw[if_pos (by omega),show idx (canon r) (pre.length:Int)=some x by rw[hs]; exact idx_at pre x suf,bnd_some',Bytes_eq _ _ (by omega),bnd_some',e1,app_of (by omega),bnd_some',w64_id ⟨by omega,by omega⟩,expand_append,expand_one,bytesAt_append])
  (by
   unfold piece_Text_Flat.l1;rw[ht];simp only;rw[if_neg (by omega),canon_expand r p1])
 unfold piece_Text_Flat;have h':loop (piece_Text_Flat.l1 t a) (0,[])=some (bytesAt a r):=by simpa [bytesAt,expand] using h
 rw[h',bnd_some']
theorem OfG_eq (fa:List arena_Span) (h1:fa.length≤2000000) (h2:∀ s∈fa,1≤s.fN→Good s) (hp:GoodP (expand fa)) (hl:(expand fa).length≤2000000):piece_Of fa=some (tOf (expand fa)):=by
 have h:loop (piece_Of.l1 fa) (0,0,[])=some (((expand fa).length:Int),canon (expand fa)):=by
  refine loop_fold (f:=piece_Of.l1 fa) (fun i (s:Int × List arena_Span)=>(i,s)) fa (fun pre=>(((expand pre).length:Int),canon (expand pre))) (t:=(((expand fa).length:Int),canon (expand fa))) ?_ ?_
  ·intro pre x suf hs;have hpre:GoodP (expand pre)∧(expand pre).length≤(expand fa).length:=by
    have e:expand fa=expand pre++expand (x::suf):=by rw[hs,expand_append]
    exact⟨fun y hy=>hp y (by rw[e]; exact List.mem_append.2 (.inl hy)),by rw[e]; simp⟩
   have h1':pre.length+1≤fa.length:=by rw[hs]; simp
   have hc:=canon_len (expand pre);unfold piece_Of.l1;simp only;rw[if_pos (by omega),show idx fa (pre.length:Int)=some x by rw[hs]; exact idx_at pre x suf,bnd_some',with_eq x _ _ (canon_good _ hpre.1) (h2 x (by rw[hs]; simp)) ⟨by omega,by omega⟩ (by omega),bnd_some',w64_id ⟨by omega,by omega⟩,expand_append,expand_one];simp only[addS_exp];rw[show (exp1 x).foldl addI (canon (expand pre))=canon (expand pre++exp1 x) by simp[canon,List.foldl_append]];simp[exp1,rangeI_len]
  ·unfold piece_Of.l1;simp only;rw[if_neg (by omega)]
 unfold piece_Of;rw[h,bnd_some'];rfl
theorem OfC_eq (r:List Int) (hr:GoodP r) (hl:r.length≤2000000):piece_Of (canon r)=some (tOf r):=by
 have hc:=canon_len r;have he:=canon_expand r hr;have:=OfG_eq (canon r) (by omega) (fun s hs _=>canon_good r hr s hs) (by rw[he]; exact hr) (by rw[he]; exact hl);rw[this,he]
theorem PLen_eq (r:List Int):piece_Text_Len (tOf r)=some (r.length:Int):=rfl
theorem CBytes_eq (r:List Int) (raw:arena_Span) (k:Bool) (a:List UInt8) (hr:InA r a) (ha:a.length≤16384) (hl:r.length≤2000000):cell_Cell_Bytes ⟨tOf r,raw,k⟩ a=some (bytesAt a r):=by
 unfold cell_Cell_Bytes;rw[Flat_eq (tOf r) r a rfl hr (by omega) hl,bnd_some']
theorem Plain_eq (r:List Int) (raw:arena_Span) (k:Bool) (a:List UInt8) (hr:InA r a) (ha:a.length≤16384) (hl:r.length≤2000000):law07_Plain ⟨tOf r,raw,k⟩ a=some ⟨bytesAt a r,if k=true then bytesA raw a else [],k⟩:=by
 unfold law07_Plain;rw[CBytes_eq r raw k a hr ha hl,bnd_some'];dsimp only;cases k with
 | true=>rw[if_pos rfl,if_pos rfl,Bytes_eq _ _ (by omega),bnd_some',bnd_some']
 | false=>rw[if_neg (by simp),if_neg (by simp),bnd_some']
theorem PlainK_eq (r:List Int) (raw:arena_Span) (a:List UInt8) (hr:InA r a) (ha:a.length≤16384) (hl:r.length≤2000000):law07_Plain ⟨tOf r,raw,true⟩ a=some ⟨bytesAt a r,bytesA raw a,true⟩:=by
 rw[Plain_eq r raw true a hr ha hl,if_pos rfl]
theorem Load_eq (r:List Int) (raw:arena_Span) (k:Int) (hr:GoodP r) (hl:r.length≤2000000):cell_Load ⟨raw,k,canon r⟩=some ⟨tOf r,raw,true⟩:=by
 unfold cell_Load;rw[OfC_eq r hr hl,bnd_some']
theorem set_at {α:Type} (l:List α) (x y:α) (r:List α) (n:Nat) (h:n=l.length):(l++x::r).set n y=l++y::r:=by
 subst h
 induction l with
 | nil=>rfl
 | cons a l ih=>simp
def zc:cell_Cell:=⟨⟨[],0⟩,⟨0,0⟩,false⟩
def kc (w:List UInt8) (j:Nat):cell_Cell:=⟨tOf (fieldF w j).2.1,⟨(j:Int),(((fieldF w j).2.2-j:Nat):Int)⟩,true⟩
def pc (w:List UInt8) (j:Nat):ref07_Cell:=⟨bytesAt w (fieldF w j).2.1,(w.take (fieldF w j).2.2).drop j,true⟩
def short (w:List UInt8) (j:Nat):Bool:=decide ((fieldF w j).2.1.length≤400)
theorem kc_eq (w:List UInt8) (hb:w.length≤16384) (j:Nat) (hj:j≤w.length):cell_Load (sField w j)=some (kc w j):=by
 obtain⟨f1,f2,f3,f4,f5⟩:=fieldF_spec w (by omega) j hj;exact Load_eq (fieldF w j).2.1 ⟨(j:Int),(((fieldF w j).2.2-j:Nat):Int)⟩ (fieldF w j).1 (inA_good f4 (by omega)) (by omega)
theorem rawA (w:List UInt8) (hb:w.length≤16384) (j:Nat) (hj:j≤w.length):bytesA ⟨(j:Int),(((fieldF w j).2.2-j:Nat):Int)⟩ w=(w.take (fieldF w j).2.2).drop j:=by
 obtain⟨f1,f2,f3,f4,f5⟩:=fieldF_spec w (by omega) j hj;have hr:rightA ⟨(j:Int),(((fieldF w j).2.2-j:Nat):Int)⟩ w=true:=by unfold rightA; simp only[decide_eq_true_eq]; omega
 unfold bytesA;rw[if_pos hr];dsimp only;rw[show ((j:Int)+(((fieldF w j).2.2-j:Nat):Int)).toNat=(fieldF w j).2.2 by omega,Int.toNat_natCast]
theorem kc_plain (w:List UInt8) (hb:w.length≤16384) (j:Nat) (hj:j≤w.length):law07_Plain (kc w j) w=some (pc w j):=by
 obtain⟨f1,f2,f3,f4,f5⟩:=fieldF_spec w (by omega) j hj;have h:=PlainK_eq (fieldF w j).2.1 ⟨(j:Int),(((fieldF w j).2.2-j:Nat):Int)⟩ w f4 (by omega) (by omega);rw[rawA w hb j hj] at h;exact h
def ldR (w:List UInt8) (i:Nat):row_Row × Int:=if (fs w i).1.length>40 then (⟨[],0,false⟩,6) else if (fs w i).1.all (short w)=true then (⟨(fs w i).1.map (kc w),(sRow w i).fEnd,false⟩,0) else (⟨[],0,false⟩,7)
def ldP (w:List UInt8) (i:Nat):ref08_Row × Int:=if (fs w i).1.length>40 then (⟨[],0,false⟩,6) else if (fs w i).1.all (short w)=true then (⟨(fs w i).1.map (pc w),(sRow w i).fEnd,false⟩,0) else (⟨[],0,false⟩,7)
theorem rowLoad_eq (w:List UInt8) (hb:w.length≤16384) (i:Nat) (hi:i≤w.length):row_Load (sRow w i)=some (ldR w i):=by
 obtain⟨st1,st2⟩:=starts_spec w (by omega) i hi;unfold row_Load ldR;rw[show (sRow w i).fFields=(fs w i).1.map (sField w) from rfl,List.length_map];by_cases h40:(fs w i).1.length>40
 ·rw[if_pos (by omega),if_pos h40]
 ·rw[if_neg (by omega),if_neg h40,mkz_of (by omega),bnd_some',Int.toNat_natCast];obtain⟨t,t1,t2⟩:=loop_for (f:=row_Load.l1 (sRow w i)) (σ:=List cell_Cell) (fun k s=>(k,s)) (fs w i).1
   (fun pre s=>s=pre.map (kc w)++List.replicate ((fs w i).1.length-pre.length) zc∧pre.all (short w)=true)
   (fun t=>(fs w i).1.all (short w)=true∧t=Ex.brk ((fs w i).1.map (kc w))∨(fs w i).1.all (short w)=false∧t=Ex.ret (⟨[],0,false⟩,7))
   (fun pre j suf s hs hI=>by
    obtain⟨hI1,hI2⟩:=hI;have hlen:(fs w i).1.length=pre.length+(suf.length+1):=by rw[hs]; simp
    have hj:j≤w.length:=st1 j (by rw[hs]; simp);have hidx:idx (fs w i).1 (pre.length:Int)=some j:=by rw[hs]; exact idx_at pre j suf
    rw[show (fs w i).1.length-pre.length=suf.length+1 by omega,List.replicate_succ] at hI1;have hx:idx s (pre.length:Int)=some zc:=by rw[hI1]; exact idx_of (by rw[List.getElem?_append_right (by simp)]; simp)
    have hset:s.set pre.length (kc w j)=pre.map (kc w)++kc w j::List.replicate suf.length zc:=by rw[hI1]; exact set_at _ _ _ _ _ (by simp)
    have hx2:idx (s.set pre.length (kc w j)) (pre.length:Int)=some (kc w j):=by rw[hset]; exact idx_of (by rw[List.getElem?_append_right (by simp)]; simp)
    unfold row_Load.l1;simp only;rw[show (sRow w i).fFields=(fs w i).1.map (sField w) from rfl,if_pos (by simp; omega),idx_map,hidx];simp only[Option.map_some,bnd_some'];rw[kc_eq w hb j hj,bnd_some',hx,bnd_some',Int.toNat_natCast,hx2,bnd_some',show (kc w j).fText=tOf (fieldF w j).2.1 from rfl,PLen_eq,bnd_some'];by_cases hsh:short w j=true
    ·have hsh':=hsh;unfold short at hsh';simp only[decide_eq_true_eq] at hsh';rw[if_neg (by omega),w64_id ⟨by omega,by omega⟩];refine .inl ⟨_,rfl,?_,by simp[hI2,hsh]⟩;rw[hset,show (fs w i).1.length-(pre++[j]).length=suf.length by simp; omega];simp
    ·have hsh':=hsh;unfold short at hsh';simp only[decide_eq_true_eq] at hsh';rw[if_pos (by omega)];refine .inr ⟨_,rfl,.inr ⟨?_,rfl⟩⟩;rw[hs]; simp[hsh])
   (fun s hI=>by
    obtain⟨hI1,hI2⟩:=hI;refine⟨Ex.brk s,?_,.inl ⟨hI2,?_⟩⟩
    ·unfold row_Load.l1;simp only;rw[show (sRow w i).fFields=(fs w i).1.map (sField w) from rfl,if_neg (by simp)]
    ·rw[hI1]; simp) (s0:=List.replicate (fs w i).1.length zc) ⟨by simp,by simp⟩
  rw[show (⟨⟨[],0⟩,⟨0,0⟩,false⟩:cell_Cell)=zc from rfl,t1,bnd_some'];rcases t2 with ⟨q,rfl⟩|⟨q,rfl⟩
  ·dsimp only; rw[if_pos q]
  ·dsimp only; rw[if_neg (by rw[q]; decide)]
theorem refLoad_eq (w:List UInt8) (hb:w.length≤16384) (i:Nat) (hi:i≤w.length):ref08_Load w (rRow w i)=some (ldP w i):=by
 obtain⟨st1,st2⟩:=starts_spec w (by omega) i hi;unfold ref08_Load ldP;rw[show (rRow w i).fFields=(fs w i).1.map (rField w) from rfl,List.length_map];by_cases h40:(fs w i).1.length>40
 ·rw[if_pos (by omega),if_pos h40]
 ·rw[if_neg (by omega),if_neg h40];obtain⟨t,t1,t2⟩:=loop_for (f:=ref08_Load.l1 w (rRow w i)) (σ:=List ref07_Cell) (fun k s=>(k,s)) (fs w i).1
   (fun pre s=>s=pre.map (pc w)∧pre.all (short w)=true)
   (fun t=>(fs w i).1.all (short w)=true∧t=Ex.brk ((fs w i).1.map (pc w))∨(fs w i).1.all (short w)=false∧t=Ex.ret (⟨[],0,false⟩,7))
   (fun pre j suf s hs hI=>by
    obtain⟨hI1,hI2⟩:=hI;have hlen:(fs w i).1.length=pre.length+(suf.length+1):=by rw[hs]; simp
    have hj:j≤w.length:=st1 j (by rw[hs]; simp);have hidx:idx (fs w i).1 (pre.length:Int)=some j:=by rw[hs]; exact idx_at pre j suf
    obtain⟨f1,f2,f3,f4,f5⟩:=fieldF_spec w (by omega) j hj;have hcut:cut w (j:Int) (w64 ((j:Int)+(((fieldF w j).2.2-j:Nat):Int)))=some ((w.take (fieldF w j).2.2).drop j):=by
     rw[w64_id ⟨by omega,by omega⟩,cut_of ⟨by omega,by omega,by omega⟩];rw[show ((j:Int)+(((fieldF w j).2.2-j:Nat):Int)).toNat=(fieldF w j).2.2 by omega,Int.toNat_natCast]
    unfold ref08_Load.l1;simp only;rw[show (rRow w i).fFields=(fs w i).1.map (rField w) from rfl,if_pos (by simp; omega),idx_map,hidx];simp only[Option.map_some,bnd_some'];rw[show (rField w j).fRaw=⟨(j:Int),(((fieldF w j).2.2-j:Nat):Int)⟩ from rfl,show (rField w j).fBytes=(fieldF w j).2.1 from rfl];dsimp only;by_cases hsh:short w j=true
    ·have hsh':=hsh;unfold short at hsh';simp only[decide_eq_true_eq] at hsh';rw[if_neg (by omega),text_eq w (by omega) _ f4 (by omega),bnd_some',hcut,bnd_some',app_of (by rw[hI1]; simp; omega),bnd_some',w64_id ⟨by omega,by omega⟩];refine .inl ⟨_,rfl,?_,by simp[hI2,hsh]⟩;rw[hI1]; simp[pc]
    ·have hsh':=hsh;unfold short at hsh';simp only[decide_eq_true_eq] at hsh';rw[if_pos (by omega)];refine .inr ⟨_,rfl,.inr ⟨?_,rfl⟩⟩;rw[hs]; simp[hsh])
   (fun s hI=>by
    obtain⟨hI1,hI2⟩:=hI;refine⟨Ex.brk s,?_,.inl ⟨hI2,?_⟩⟩
    ·unfold ref08_Load.l1;simp only;rw[show (rRow w i).fFields=(fs w i).1.map (rField w) from rfl,if_neg (by simp)]
    ·rw[hI1]) (s0:=[]) ⟨rfl,rfl⟩
  rw[t1,bnd_some'];rcases t2 with ⟨q,rfl⟩|⟨q,rfl⟩
  ·dsimp only; rw[if_pos q]; rfl
  ·dsimp only; rw[if_neg (by rw[q]; decide)]
theorem cuts_loop {α:Type} {f:List α × Int × List (List α)→Option (Lp (List α × Int × List (List α)) (List (List α)))} {cl:List α→Option (List α)} (hcl:∀ l,l.length≤2000000→cl l=some l)
 (hf:∀ l m out,f (l,m,out)=if m>0 then bnd (dvd (l.length:Int) m) fun x15=>bnd (cut l 0 x15) fun x16=>bnd (cl x16) fun x17=>bnd (app 24 out [x17]) fun x19=>bnd (cut l x15 (l.length:Int)) fun x21=>some (.next (x21,w64 (m-1),x19)) else some (.done out)) :
 ∀ (m:Nat) (l:List α) (out:List (List α)),l.length≤6*m→l.length≤2000000→out.length+m≤2000000 →
  ∃ ps,loop f (l,(m:Int),out)=some (out++ps)∧ps.flatten=l∧ps.length=m∧(∀ p∈ps,p.length≤6)∧∀ c,c*m≤l.length→∀ p∈ps,c≤p.length:=by
 intro m
 induction m with
 | zero=>
  intro l out h1 _ _;obtain rfl:=List.length_eq_zero_iff.1 (show l.length=0 by omega);refine⟨[],?_,rfl,rfl,(fun p hp=>by cases hp),(fun c _ p hp=>by cases hp)⟩;rw[List.append_nil];refine loop_done ?_;rw[hf,if_neg (by simp)]
 | succ m ih=>
  intro l out h1 h2 h3;have hd:(m+1)*(l.length / (m+1))+l.length % (m+1)=l.length:=Nat.div_add_mod _ _;have hr:l.length % (m+1)<m+1:=Nat.mod_lt _ (by omega);have h6:l.length / (m+1)≤6:=Nat.div_le_of_le_mul (by omega);have hlow:∀ c,c*(m+1)≤l.length→c≤l.length / (m+1):=fun c hc=>(Nat.le_div_iff_mul_le (by omega)).2 hc;have hdv:dvd (l.length:Int) ((m+1:Nat):Int)=some (((l.length / (m+1):Nat)):Int):=by
   rw[dvd_of (by omega)];show some (w64 (((l.length / (m+1):Nat)):Int))=_;have h6':=h6;generalize l.length / (m+1)=n at h6' ⊢;rw[w64_id ⟨by omega,by omega⟩]
  generalize l.length / (m+1)=n at *;generalize l.length % (m+1)=r at *;have e1:(m+1)*n=m*n+n:=Nat.succ_mul m n;have hle:n≤l.length:=by omega
  have hs6:(l.drop n).length≤6*m:=by
   rw[List.length_drop];rcases Nat.lt_or_ge n 6 with hn|hn
   ·have:m*n≤m*5:=Nat.mul_le_mul_left m (by omega);omega
   ·have:n=6:=by omega
    omega
  obtain⟨ps,p1,p2,p3,p4,p5⟩:=ih (l.drop n) (out++[l.take n]) hs6 (by rw[List.length_drop]; omega) (by rw[List.length_append]; simp only[List.length_cons,List.length_nil]; omega);refine⟨l.take n::ps,loop_next (s':=(l.drop n,(m:Int),out++[l.take n])) ?_ ?_,?_,by simp[p3],fun p hp=>?_,fun c hc p hp=>?_⟩
  ·rw[hf,if_pos (by omega),hdv,bnd_some',cut_of ⟨by omega,by omega,by omega⟩,bnd_some',hcl _ (by simp; omega),bnd_some',app_of (by simp; omega),bnd_some',cut_of ⟨by omega,by omega,by omega⟩,bnd_some',w64_id ⟨by omega,by omega⟩];simp
  ·rw[p1]; simp
  ·rw[List.flatten_cons,p2,List.take_append_drop]
  ·rcases List.mem_cons.1 hp with rfl|hp
   ·rw[List.length_take]; omega
   ·exact p4 p hp
  ·have hcn:=hlow c hc;rcases List.mem_cons.1 hp with rfl|hp
   ·rw[List.length_take]; omega
   ·refine p5 c ?_ p hp;rw[List.length_drop];have:m*c≤m*n:=Nat.mul_le_mul_left m hcn;have e2:c*m=m*c:=Nat.mul_comm _ _;omega
theorem many_eq (n:Nat) (h:n≤2000000):w64 (quo (w64 ((w64 ((n:Int)+6))-1)) 5)=(((n+5) / 6:Nat):Int):=by
 rw[w64_id (x:=(n:Int)+6) ⟨by omega,by omega⟩,w64_id (x:=(n:Int)+6-1) ⟨by omega,by omega⟩,show (n:Int)+6-1=((n+5:Nat):Int) by omega];have:quo ((n+5:Nat):Int) 5=(((n+5) / 6:Nat):Int):=rfl;rw[this,w64_id ⟨by omega,by omega⟩]
theorem concat_gen {α:Type} {f1:Int × Int→Option (Lp (Int × Int) Int)} {f2:Int × List α→Option (Lp (Int × List α) (List α))} {gr:Int→Option (List α)} (L:List (List α))
 (h1:∀ s,f1 s=if s.2<(L.length:Int) then bnd (idx L s.2) fun x11=>if (w64 (s.1+(x11.length:Int)))<0 then none else some (.next (w64 (s.1+(x11.length:Int)),w64 (s.2+1))) else some (.done s.1)) {by_:Nat} (hby:by_≤100)
 (h2:∀ s,f2 s=if s.1<(L.length:Int) then bnd (idx L s.1) fun x27=>bnd (app by_ s.2 x27) fun x28=>some (.next (w64 (s.1+1),x28)) else some (.done s.2))
 (hg:∀ n:Nat,n≤2000000→gr (n:Int)=some []) (hb:L.flatten.length≤2000000) (hl:L.length≤1000) :
 (bnd (loop f1 (0,0)) fun t1=>bnd (gr t1) fun x13=>bnd (loop f2 (0,x13)) fun t15=>some t15)=some L.flatten:=by
 have hpre:∀ pre x suf,L=pre++x::suf→pre.flatten.length+x.length≤2000000∧pre.length+1≤1000:=fun pre x suf hs=>by
  rw[hs] at hb hl;simp only[List.flatten_append,List.flatten_cons,List.length_append,List.length_cons] at hb hl;omega
 have l1:=loop_fold (f:=f1) (fun k (s:Int)=>(s,k)) L (fun pre=>(pre.flatten.length:Int)) (t:=(L.flatten.length:Int)) (fun pre x suf hs=>by
  obtain⟨b1,b2⟩:=hpre pre x suf hs;have hlen:L.length=pre.length+(suf.length+1):=by rw[hs]; simp
  rw[h1];dsimp only;rw[if_pos (by omega),show idx L (pre.length:Int)=some x by rw[hs]; exact idx_at pre x suf,bnd_some',w64_id ⟨by omega,by omega⟩,if_neg (by omega),w64_id ⟨by omega,by omega⟩];simp) (by rw[h1]; dsimp only; rw[if_neg (by omega)])
 have l2:=loop_fold (f:=f2) (fun k (s:List α)=>(k,s)) L (fun pre=>pre.flatten) (t:=L.flatten) (fun pre x suf hs=>by
  obtain⟨b1,b2⟩:=hpre pre x suf hs;have hlen:L.length=pre.length+(suf.length+1):=by rw[hs]; simp
  rw[h2];dsimp only;rw[if_pos (by omega),show idx L (pre.length:Int)=some x by rw[hs]; exact idx_at pre x suf,bnd_some',app_of (Nat.le_trans (Nat.mul_le_mul b1 (show by_+1≤101 by omega)) (by decide)),bnd_some',w64_id ⟨by omega,by omega⟩];simp) (by rw[h2]; dsimp only; rw[if_neg (by omega)])
 have l1':loop f1 (0,0)=some (L.flatten.length:Int):=by simpa using l1
 have l2':loop f2 (0,[])=some L.flatten:=by simpa using l2
 rw[l1',bnd_some',hg _ hb,bnd_some',l2',bnd_some']
abbrev El:=row_Row
instance:Inhabited row_Row:=⟨⟨[],0,false⟩⟩
abbrev Nd:=tNd
theorem oN (z:Nd):o_tNd (c_tNd z)=some z:=o_tNd_c z
theorem cN_inj (a b:Nd) (h:c_tNd a=c_tNd b):a=b:=Option.some.inj ((oN a).symm.trans ((congrArg o_tNd h).trans (oN b)))
def wd (z:Nd):Nat:=z.fKids.length+z.fItems.length
def T:Nat→Nd→List El→Prop
| 0,z,l=>z=⟨[],l,(l.length:Int)⟩
| h+1,z,l=>z.fItems=[]∧z.fN=(l.length:Int)∧∃ zs:List (Nd × List El),z.fKids=zs.map (fun p=>c_tNd p.1)∧l=zs.flatMap (fun p=>p.2)∧∀ p∈zs,T h p.1 p.2∧3≤wd p.1∧wd p.1≤6
def Fo (lo h:Nat) (xs:List NP) (l:List El):Prop:=∃ zs:List (Nd × List El),xs=zs.map (fun p=>c_tNd p.1)∧l=zs.flatMap (fun p=>p.2)∧∀ p∈zs,T h p.1 p.2∧lo≤wd p.1∧wd p.1≤6
theorem T_succ {h:Nat} {z:Nd} {l:List El}:T (h+1) z l↔z.fItems=[]∧z.fN=(l.length:Int)∧Fo 3 h z.fKids l:=Iff.rfl
theorem T_N {h:Nat} {z:Nd} {l:List El} (ht:T h z l):z.fN=(l.length:Int):=by
 cases h with
 | zero=>rw[show z=⟨[],l,(l.length:Int)⟩ from ht]
 | succ h=>exact ht.2.1
theorem Fo.nil {lo h:Nat}:Fo lo h [] []:=⟨[],rfl,rfl,fun p hp=>by cases hp⟩
theorem Fo.nil_inv {lo h:Nat} {l:List El} (hf:Fo lo h [] l):l=[]:=by
 obtain⟨zs,h1,h2,_⟩:=hf;cases zs with
 | nil=>exact h2
 | cons a b=>simp at h1
theorem Fo.one {lo h:Nat} {z:Nd} {l:List El} (ht:T h z l) (h1:lo≤wd z) (h2:wd z≤6):Fo lo h [c_tNd z] l:=⟨[(z,l)],rfl,by simp,fun p hp=>by simp at hp; subst hp; exact⟨ht,h1,h2⟩⟩
theorem Fo.app {lo h:Nat} {a b:List NP} {l m:List El} (ha:Fo lo h a l) (hb:Fo lo h b m):Fo lo h (a++b) (l++m):=by
 obtain⟨zs,rfl,rfl,h1⟩:=ha;obtain⟨ws,rfl,rfl,h2⟩:=hb;exact⟨zs++ws,by simp,by simp,fun p hp=>(List.mem_append.1 hp).elim (h1 p) (h2 p)⟩
theorem Fo.split {lo h:Nat} {a b:List NP} {l:List El} (hf:Fo lo h (a++b) l):∃ la lb,l=la++lb∧Fo lo h a la∧Fo lo h b lb:=by
 obtain⟨zs,h1,rfl,h2⟩:=hf;obtain⟨xs,ys,rfl,rfl,rfl⟩:=List.map_eq_append_iff.1 h1.symm;exact⟨_,_,by rw[List.flatMap_append],⟨xs,rfl,rfl,fun p hp=>h2 p (List.mem_append.2 (.inl hp))⟩,⟨ys,rfl,rfl,fun p hp=>h2 p (List.mem_append.2 (.inr hp))⟩⟩
theorem Fo.cons_inv {lo h:Nat} {x:NP} {xs:List NP} {l:List El} (hf:Fo lo h (x::xs) l):∃ z m r,x=c_tNd z∧T h z m∧lo≤wd z∧wd z≤6∧l=m++r∧Fo lo h xs r:=by
 obtain⟨zs,h1,rfl,h2⟩:=hf;cases zs with
 | nil=>simp at h1
 | cons p zs=>
  simp only[List.map_cons,List.cons.injEq] at h1;obtain⟨g1,g2,g3⟩:=h2 p (by simp);exact⟨p.1,p.2,_,h1.1,g1,g2,g3,by simp,⟨zs,h1.2,rfl,fun q hq=>h2 q (by simp[hq])⟩⟩
theorem Fo.mono {lo lo' h:Nat} {xs:List NP} {l:List El} (hf:Fo lo h xs l) (hl:lo'≤lo):Fo lo' h xs l:=by
 obtain⟨zs,h1,h2,h3⟩:=hf;exact⟨zs,h1,h2,fun p hp=>⟨(h3 p hp).1,Nat.le_trans hl (h3 p hp).2.1,(h3 p hp).2.2⟩⟩
theorem Fo.at_ {lo h:Nat} {xs:List NP} {l:List El} (hf:Fo lo h xs l) {k:Nat} (hk:k<xs.length):∃ z la m lb,xs[k]? = some (c_tNd z)∧T h z m∧lo≤wd z∧wd z≤6∧l=la++m++lb∧Fo lo h (xs.take k) la∧Fo lo h (xs.drop (k+1)) lb:=by
 have e:xs=xs.take k++xs[k]::xs.drop (k+1):=by rw[← List.drop_eq_getElem_cons hk,List.take_append_drop]
 rw[e] at hf;obtain⟨la,lb,rfl,h1,h2⟩:=hf.split;obtain⟨z,m,r,g1,g2,g3,g4,rfl,g6⟩:=h2.cons_inv;exact⟨z,la,m,r,by rw[List.getElem?_eq_getElem hk,g1],g2,g3,g4,by simp,h1,g6⟩
theorem cloneEl (l:List El) (h:l.length≤2000000):slices_Clone_row_Row_row_Row l=some l:=by
 unfold slices_Clone_row_Row_row_Row;rw[app_of (by simp; omega),bnd_some',List.nil_append]
theorem cloneNP (l:List NP) (h:l.length≤2000000):slices_Clone_tree_Node_row_Row_tree_Node_row_Row l=some l:=by
 unfold slices_Clone_tree_Node_row_Row_tree_Node_row_Row;rw[app_of (by simp; omega),bnd_some',List.nil_append]
theorem cutsEl (l:List El) (h:l.length≤2000000):∃ ps,tree_cuts_row_Row l=some ps∧ps.flatten=l∧ps.length=(l.length+5) / 6∧(∀ p∈ps,p.length≤6)∧∀ c,c*((l.length+5) / 6)≤l.length→∀ p∈ps,c≤p.length:=by
 obtain⟨ps,p1,p2⟩:=cuts_loop (f:=tree_cuts_row_Row.l1) (cl:=slices_Clone_row_Row_row_Row) cloneEl (fun l m out=>rfl) ((l.length+5) / 6) l [] (by omega) h (by simp; omega);refine⟨ps,?_,p2⟩;unfold tree_cuts_row_Row;rw[many_eq _ h,mkc_of ⟨by omega,by omega⟩,bnd_some',p1,bnd_some',List.nil_append]
theorem cutsNP (l:List NP) (h:l.length≤2000000):∃ ps,tree_cuts_tree_Node_row_Row l=some ps∧ps.flatten=l∧ps.length=(l.length+5) / 6∧(∀ p∈ps,p.length≤6)∧∀ c,c*((l.length+5) / 6)≤l.length→∀ p∈ps,c≤p.length:=by
 obtain⟨ps,p1,p2⟩:=cuts_loop (f:=tree_cuts_tree_Node_row_Row.l1) (cl:=slices_Clone_tree_Node_row_Row_tree_Node_row_Row) cloneNP (fun l m out=>rfl) ((l.length+5) / 6) l [] (by omega) h (by simp; omega);refine⟨ps,?_,p2⟩;unfold tree_cuts_tree_Node_row_Row;rw[many_eq _ h,mkc_of ⟨by omega,by omega⟩,bnd_some',p1,bnd_some',List.nil_append]
theorem leaf_fo (p:List El) {lo:Nat} (h1:lo≤p.length) (h2:p.length≤6):Fo lo 0 [c_tNd ⟨[],p,(p.length:Int)⟩] p:=Fo.one rfl (by simpa [wd] using h1) (by simpa [wd] using h2)
theorem leaves_fo {lo:Nat}:∀ (ps:List (List El)),(∀ p∈ps,lo≤p.length∧p.length≤6)→Fo lo 0 (ps.map fun p=>c_tNd ⟨[],p,(p.length:Int)⟩) ps.flatten
 | [],_=>Fo.nil
 | p::ps,h=>by
  have:=(leaf_fo p (h p (by simp)).1 (h p (by simp)).2).app (leaves_fo ps (fun q hq=>h q (by simp[hq])));simpa using this
theorem leaves_eq (l:List El) (h:l.length≤2000000):∃ xs,tree_leaves_row_Row l=some xs∧xs.length=(l.length+5) / 6∧∀ c,c*((l.length+5) / 6)≤l.length→Fo c 0 xs l:=by
 obtain⟨ps,p1,p2,p3,p4,p5⟩:=cutsEl l h;refine⟨ps.map fun p=>c_tNd ⟨[],p,(p.length:Int)⟩,?_,by rw[List.length_map,p3],fun c hc=>?_⟩
 ·unfold tree_leaves_row_Row;rw[p1,bnd_some'];have hh:=loop_fold (f:=tree_leaves_row_Row.l1 ps) (fun k (s:List NP)=>(k,s)) ps (fun pre=>pre.map fun p=>c_tNd ⟨[],p,(p.length:Int)⟩) (t:=ps.map fun p=>c_tNd ⟨[],p,(p.length:Int)⟩)
   (fun pre x suf hs=>by
    have hlen:ps.length=pre.length+(suf.length+1):=by rw[hs]; simp
    unfold tree_leaves_row_Row.l1 tree_leaf_row_Row;dsimp only;rw[if_pos (by omega),show idx ps (pre.length:Int)=some x by rw[hs]; exact idx_at pre x suf,bnd_some',bnd_some',app_of (by simp; omega),bnd_some',w64_id ⟨by omega,by omega⟩,List.map_append];rfl)
   (by
    unfold tree_leaves_row_Row.l1;dsimp only;rw[if_neg (by omega)])
  have h':loop (tree_leaves_row_Row.l1 ps) (0,[])=some (ps.map fun p=>c_tNd ⟨[],p,(p.length:Int)⟩):=by simpa using hh
  rw[h',bnd_some']
 ·have:=leaves_fo (lo:=c) ps (fun p hp=>⟨p5 c hc p hp,p4 p hp⟩);rwa[p2] at this
theorem inner_eq {h:Nat} {ks:List NP} {l:List El} (hf:Fo 3 h ks l) (hk:ks.length≤2000000) (hl:l.length≤2000000):tree_inner_row_Row ks=some (ks,[],(l.length:Int)):=by
 obtain⟨zs,rfl,rfl,h3⟩:=hf;have hh:=loop_fold (f:=tree_inner_row_Row.l1 (zs.map fun p=>c_tNd p.1)) (fun k (s:Int)=>(k,s)) zs (fun pre=>((pre.flatMap (fun p=>p.2)).length:Int)) (t:=((zs.flatMap (fun p=>p.2)).length:Int))
  (fun pre x suf hs=>by
   have hlen:zs.length=pre.length+(suf.length+1):=by rw[hs]; simp
   have hxl:(pre.flatMap (fun p=>p.2)).length+x.2.length≤2000000:=by
    rw[hs] at hl;simp only[List.flatMap_append,List.flatMap_cons,List.length_append] at hl;omega
   have hN:=T_N (h3 x (by rw[hs]; simp)).1;rw[List.length_map] at hk;unfold tree_inner_row_Row.l1;dsimp only;rw[if_pos (by rw[List.length_map]; omega),idx_of (show (zs.map fun p=>c_tNd p.1)[pre.length]? = some (c_tNd x.1) by rw[hs]; simp),bnd_some',oN,bnd_some',hN,w64_id ⟨by omega,by omega⟩,w64_id ⟨by omega,by omega⟩];simp)
  (by
   unfold tree_inner_row_Row.l1;dsimp only;rw[if_neg (by rw[List.length_map]; omega)])
 unfold tree_inner_row_Row;have h':loop (tree_inner_row_Row.l1 (zs.map fun p=>c_tNd p.1)) (0,0)=some ((zs.flatMap (fun p=>p.2)).length:Int):=by simpa using hh
 rw[h',bnd_some']
theorem inner_T {h:Nat} {ks:List NP} {l:List El} (hf:Fo 3 h ks l):T (h+1) ⟨ks,[],(l.length:Int)⟩ l∧wd ⟨ks,[],(l.length:Int)⟩=ks.length:=⟨T_succ.2 ⟨rfl,rfl,hf⟩,by simp[wd]⟩
theorem inners_eq {h:Nat} {ks:List NP} {l:List El} (hf:Fo 3 h ks l) (hk:ks.length≤2000000) (hl:l.length≤2000000):∃ xs,tree_inners_row_Row ks=some xs∧xs.length=(ks.length+5) / 6∧∀ c,c*((ks.length+5) / 6)≤ks.length→Fo c (h+1) xs l:=by
 obtain⟨ps,p1,p2,p3,p4,p5⟩:=cutsNP ks hk;have key:∀ (suf pre:List (List NP)) (out:List NP) (l1 l2:List El),ps=pre++suf→out.length=pre.length→l=l1++l2→Fo 3 h suf.flatten l2→(∀ c,(∀ p∈ps,c≤p.length)→Fo c (h+1) out l1) →
  ∃ xs,loop (tree_inners_row_Row.l1 ps) ((pre.length:Int),out)=some xs∧xs.length=ps.length∧∀ c,(∀ p∈ps,c≤p.length)→Fo c (h+1) xs l:=by
  intro suf
  induction suf with
  | nil=>
   intro pre out l1 l2 hp ho hl12 hf2 hc;have:=hf2.nil_inv;subst this;rw[List.append_nil] at hl12 hp;subst hl12 hp;refine⟨out,loop_done ?_,ho,hc⟩;unfold tree_inners_row_Row.l1;dsimp only;rw[if_neg (by omega)]
  | cons p suf ih=>
   intro pre out l1 l2 hp ho hl12 hf2 hc;have hlen:ps.length=pre.length+(suf.length+1):=by rw[hp]; simp
   rw[List.flatten_cons] at hf2;obtain⟨la,lb,rfl,g1,g2⟩:=hf2.split;have hla:la.length≤2000000:=by rw[hl12] at hl; simp only[List.length_append] at hl; omega
   have hp6:=p4 p (by rw[hp]; simp);obtain⟨t1,t2⟩:=inner_T g1;obtain⟨xs,x1,x2,x3⟩:=ih (pre++[p]) (out++[c_tNd ⟨p,[],(la.length:Int)⟩]) (l1++la) lb (by rw[hp]; simp) (by simp[ho]) (by rw[hl12]; simp) g2 (fun c hcp=>(hc c hcp).app (Fo.one t1 (by rw[t2]; exact hcp p (by rw[hp]; simp)) (by rw[t2]; exact hp6)));refine⟨xs,loop_next (s':=((pre.length:Int)+1,out++[c_tNd ⟨p,[],(la.length:Int)⟩])) ?_ ?_,x2,x3⟩
   ·unfold tree_inners_row_Row.l1;dsimp only;rw[if_pos (by omega),show idx ps (pre.length:Int)=some p by rw[hp]; exact idx_at pre p suf,bnd_some',inner_eq g1 (by omega) hla,bnd_some',app_of (by simp; omega),bnd_some',w64_id ⟨by omega,by omega⟩]
   ·rw[← x1]; simp
 obtain⟨xs,x1,x2,x3⟩:=key ps [] [] [] l rfl rfl rfl (by rw[p2]; exact hf) (fun c _=>Fo.nil);refine⟨xs,?_,by rw[x2,p3],fun c hc=>x3 c (p5 c hc)⟩;unfold tree_inners_row_Row;rw[p1,bnd_some'];rw[show ((([]:List (List NP)).length:Nat):Int)=0 from rfl] at x1;rw[x1,bnd_some']
def Rt (h:Nat) (z:Nd) (l:List El):Prop:=T h z l∧wd z≤6∧z.fKids.length≠1∧l≠[]
def IsT (t:tTr) (l:List El):Prop:=(l=[]∧t=⟨none⟩)∨∃ h z,t=⟨some (c_tNd z)⟩∧Rt h z l
def Up (h:Nat) (xs:List NP) (l:List El):Prop:=Fo 0 h xs l∧(xs.length≤1∨Fo 3 h xs l)
theorem aboveLoop:∀ (n h:Nat) (xs:List NP) (l:List El),xs.length≤n→xs.length≤2000000→l.length≤2000000→Up h xs l→∃ h' ys,loop tree_above_row_Row.l1 xs=some ys∧Fo 0 h' ys l∧ys.length≤1:=by
 intro n
 induction n with
 | zero=>
  intro h xs l hn hk hl hu;refine⟨h,xs,loop_done ?_,hu.1,by omega⟩;unfold tree_above_row_Row.l1;rw[if_neg (by omega)]
 | succ n ih=>
  intro h xs l hn hk hl hu;by_cases c:xs.length≤1
  ·refine⟨h,xs,loop_done ?_,hu.1,c⟩;unfold tree_above_row_Row.l1;rw[if_neg (by omega)]
  ·have h3:Fo 3 h xs l:=hu.2.resolve_left c;obtain⟨ys,y1,y2,y3⟩:=inners_eq h3 hk hl;obtain⟨h',zs,z1,z2⟩:=ih (h+1) ys l (by omega) (by omega) hl ⟨y3 0 (by omega),by
    by_cases c2:ys.length≤1
    ·exact .inl c2
    ·exact .inr (y3 3 (by omega))⟩
   refine⟨h',zs,loop_next (s':=ys) ?_ z1,z2⟩;unfold tree_above_row_Row.l1;rw[if_pos (by omega),y1,bnd_some']
theorem kids_ge {h:Nat} {z:Nd} {l:List El} (ht:T h z l) (hw:3≤wd z):z.fKids.length≠1:=by
 cases h with
 | zero=>rw[show z=⟨[],l,(l.length:Int)⟩ from ht]; simp
 | succ h=>
  have:=ht.1;unfold wd at hw;rw[this] at hw;simp at hw;omega
theorem above_eq {h:Nat} {xs:List NP} {l:List El} (hu:Up h xs l) (hk:xs.length≤2000000) (hl:l.length≤2000000):∃ t,tree_above_row_Row xs=some t∧IsT t l:=by
 obtain⟨h',ys,y1,y2,y3⟩:=aboveLoop xs.length h xs l (Nat.le_refl _) hk hl hu;unfold tree_above_row_Row;rw[y1,bnd_some']
 match ys,y2,y3 with
 | [],y2,_=>
  rw[if_pos (by rfl),bnd_some',if_pos rfl];exact⟨_,rfl,.inl ⟨y2.nil_inv,rfl⟩⟩
 | [x],y2,_=>
  obtain⟨z,m,r,rfl,g1,g2,g3,g4,g5⟩:=y2.cons_inv;have:=g5.nil_inv;subst this;rw[List.append_nil] at g4;subst g4;have hN:=T_N g1;rw[if_neg (by simp),show idx [c_tNd z] 0=some (c_tNd z) from rfl,bnd_some',oN,bnd_some',bnd_some',hN];by_cases c:l=[]
  ·subst c;rw[if_pos (by simp)];exact⟨_,rfl,.inl ⟨rfl,rfl⟩⟩
  ·have hm:l.length≠0:=fun e=>c (List.length_eq_zero_iff.1 e);rw[if_neg (by simp; exact c),bnd_some',oN,bnd_some'];by_cases c1:z.fKids.length=1
   ·cases h' with
    | zero=>rw[show z=⟨[],l,(l.length:Int)⟩ from g1] at c1; simp at c1
    | succ h'=>
     obtain⟨k1,k2,k3⟩:=T_succ.1 g1;obtain⟨x,hx⟩:=List.length_eq_one_iff.1 c1;rw[hx] at k3;obtain⟨w,m',r',rfl,w1,w2,w3,w4,w5⟩:=k3.cons_inv;have:=w5.nil_inv;subst this;rw[List.append_nil] at w4;subst w4;have hne:=kids_ge w1 w2;have hlp:loop tree_above_row_Row.l2 (z.fKids,z.fItems,z.fN)=some (w.fKids,w.fItems,w.fN):=by
      refine loop_next (s':=(w.fKids,w.fItems,w.fN)) ?_ (loop_done ?_)
      ·unfold tree_above_row_Row.l2;dsimp only;rw[if_pos (by omega),hx,show idx [c_tNd w] 0=some (c_tNd w) from rfl,bnd_some',oN,bnd_some']
      ·unfold tree_above_row_Row.l2;dsimp only;rw[if_neg (by omega)]
     rw[hlp,bnd_some'];exact⟨_,rfl,.inr ⟨h',w,rfl,w1,w3,hne,c⟩⟩
   ·have hlp:loop tree_above_row_Row.l2 (z.fKids,z.fItems,z.fN)=some (z.fKids,z.fItems,z.fN):=by
     refine loop_done ?_;unfold tree_above_row_Row.l2;dsimp only;rw[if_neg (by omega)]
    rw[hlp,bnd_some'];exact⟨_,rfl,.inr ⟨h',z,rfl,g1,g3,c1,c⟩⟩
theorem Of_eq (l:List El) (hl:l.length≤2000000):∃ t,tree_Of_row_Row l=some t∧IsT t l:=by
 obtain⟨xs,x1,x2,x3⟩:=leaves_eq l hl;obtain⟨t,t1,t2⟩:=above_eq (h:=0) (xs:=xs) (l:=l) ⟨x3 0 (by omega),by
  by_cases c:xs.length≤1
  ·exact .inl c
  ·exact .inr (x3 3 (by omega))⟩ (by omega) hl
 unfold tree_Of_row_Row;rw[x1,bnd_some',t1,bnd_some'];exact⟨t,rfl,t2⟩
def repL {α:Type} (l:List α) (i j:Nat) (w:List α):List α:=l.take i++w++l.drop j
theorem rep3 {α:Type} (la m lb:List α) {i j:Nat} (w:List α) (h1:la.length≤i) (h2:i≤j) (h3:j≤la.length+m.length):repL (la++m++lb) i j w=la++repL m (i-la.length) (j-la.length) w++lb:=by
 have e1:(la++m++lb).take i=la++m.take (i-la.length):=by
  rw[List.append_assoc,List.take_append,List.take_of_length_le h1,List.take_append_of_le_length (by omega)]
 have e2:(la++m++lb).drop j=m.drop (j-la.length)++lb:=by
  rw[List.append_assoc,List.drop_append,List.drop_of_length_le (by omega),List.nil_append,List.drop_append_of_le_length (by omega)]
 unfold repL;rw[e1,e2];simp
theorem repL_len {α:Type} (l:List α) {i j:Nat} (w:List α) (h1:i≤j) (h2:j≤l.length):(repL l i j w).length=l.length+w.length-(j-i):=by
 unfold repL;simp only[List.length_append,List.length_take,List.length_drop];omega
theorem growEl (n:Nat) (h:n≤2000000):slices_Grow_row_Row_row_Row (n:Int)=some []:=by
 unfold slices_Grow_row_Row_row_Row;rw[if_neg (by omega),w64_id ⟨by omega,by omega⟩];by_cases c:(n:Int)-0>0
 ·rw[if_pos c,mkg_of ⟨by omega,by omega⟩,bnd_some',bnd_some']
 ·rw[if_neg c,bnd_some']
theorem growNP (n:Nat) (h:n≤2000000):slices_Grow_tree_Node_row_Row_tree_Node_row_Row (n:Int)=some []:=by
 unfold slices_Grow_tree_Node_row_Row_tree_Node_row_Row;rw[if_neg (by omega),w64_id ⟨by omega,by omega⟩];by_cases c:(n:Int)-0>0
 ·rw[if_pos c,mkg_of ⟨by omega,by omega⟩,bnd_some',bnd_some']
 ·rw[if_neg c,bnd_some']
theorem concatEl (L:List (List El)) (hb:L.flatten.length≤2000000) (hl:L.length≤1000):slices_Concat_row_Row_row_Row L=some L.flatten:=
 concat_gen L (fun s=>rfl) (by decide) (fun s=>rfl) growEl hb hl
theorem concatNP (L:List (List NP)) (hb:L.flatten.length≤2000000) (hl:L.length≤1000):slices_Concat_tree_Node_row_Row_tree_Node_row_Row L=some L.flatten:=
 concat_gen L (fun s=>rfl) (by decide) (fun s=>rfl) growNP hb hl
theorem spliceEl (l:List El) (i j:Nat) (w:List El) (h1:i≤l.length) (h2:j≤l.length) (h3:l.length+w.length≤900000):tree_splice_row_Row l (i:Int) (j:Int) w=some (repL l i j w):=by
 unfold tree_splice_row_Row;rw[cut_of ⟨by omega,by omega,by omega⟩,bnd_some',cut_of ⟨by omega,by omega,by omega⟩,bnd_some',concatEl _ (by simp; omega) (by simp),bnd_some',Int.toNat_natCast,Int.toNat_natCast,Int.toNat_natCast,List.take_length];simp[repL]
theorem spliceNP (l:List NP) (i j:Nat) (w:List NP) (h1:i≤l.length) (h2:j≤l.length) (h3:l.length+w.length≤900000):tree_splice_tree_Node_row_Row l (i:Int) (j:Int) w=some (repL l i j w):=by
 unfold tree_splice_tree_Node_row_Row;rw[cut_of ⟨by omega,by omega,by omega⟩,bnd_some',cut_of ⟨by omega,by omega,by omega⟩,bnd_some',concatNP _ (by simp; omega) (by simp),bnd_some',Int.toNat_natCast,Int.toNat_natCast,Int.toNat_natCast,List.take_length];simp[repL]
theorem Fo.rep {lo h:Nat} {xs ys:List NP} {i j:Nat} {la lb m:List El} (ha:Fo lo h (xs.take i) la) (hm:Fo lo h ys m) (hb:Fo lo h (xs.drop j) lb):Fo lo h (repL xs i j ys) (la++m++lb):=(ha.app hm).app hb
theorem kids_wd {h:Nat} {z:Nd} {l:List El} (ht:T (h+1) z l):wd z=z.fKids.length:=by
 unfold wd; rw[ht.1]; rfl
theorem leaf_wd {z:Nd} {l:List El} (ht:T 0 z l):wd z=l.length∧z.fKids=[]∧z.fItems=l:=by
 rw[show z=⟨[],l,(l.length:Int)⟩ from ht]; simp[wd]
theorem fo_ne {lo h:Nat} {xs:List NP} {l:List El} (hf:Fo lo h xs l) (hl:l≠[]):0<xs.length:=by
 cases xs with
 | nil=>exact absurd hf.nil_inv hl
 | cons=>simp
theorem kid_eq {h:Nat} {ks:List NP} {l:List El} (hf:Fo 3 h ks l) (hk:ks.length≤900000) (hl:l.length≤900000) (hne:0<ks.length) (i:Nat) (hi:i≤l.length) (is:List El) (n:Int) :
 ∃ k z la m lb,tree_Node_row_Row_kid ks is n (i:Int)=some (((k:Nat):Int),((i-la.length:Nat):Int))∧k<ks.length∧ks[k]? = some (c_tNd z)∧T h z m∧3≤wd z∧wd z≤6∧l=la++m++lb∧Fo 3 h (ks.take k) la∧Fo 3 h (ks.drop (k+1)) lb ∧
  la.length≤i∧i≤la.length+m.length∧(i<l.length→i<la.length+m.length):=by
 have key:∀ (suf pre:List NP) (lp ls:List El),ks=pre++suf→0<suf.length→l=lp++ls→Fo 3 h pre lp→Fo 3 h suf ls→lp.length≤i →
  ∃ k z la m lb,loop (tree_Node_row_Row_kid.l1 ks) (((i-lp.length:Nat):Int),(pre.length:Int))=some (((i-la.length:Nat):Int),((k:Nat):Int))∧k<ks.length∧ks[k]? = some (c_tNd z)∧T h z m∧3≤wd z∧wd z≤6∧l=la++m++lb∧Fo 3 h (ks.take k) la∧Fo 3 h (ks.drop (k+1)) lb ∧
   la.length≤i∧i≤la.length+m.length∧(i<l.length→i<la.length+m.length):=by
  intro suf
  induction suf with
  | nil=>intro pre lp ls _ h0; simp at h0
  | cons x rest ih=>
   intro pre lp ls hks _ hls hp hs hlp;obtain⟨z,m,r,rfl,g1,g2,g3,rfl,g5⟩:=hs.cons_inv;have hlen:ks.length=pre.length+(rest.length+1):=by rw[hks]; simp
   have hx:ks[pre.length]? = some (c_tNd z):=by rw[hks]; simp
   have hll:l.length=lp.length+(m.length+r.length):=by rw[hls]; simp
   have hN:=T_N g1;have htake:ks.take pre.length=pre:=by rw[hks]; simp
   have hdrop:ks.drop (pre.length+1)=rest:=by rw[hks]; simp
   have fin:i≤lp.length+m.length→(i<l.length→i<lp.length+m.length)→tree_Node_row_Row_kid.l1 ks (((i-lp.length:Nat):Int),(pre.length:Int))=some (.done (((i-lp.length:Nat):Int),(pre.length:Int))) →
    ∃ k z la m lb,loop (tree_Node_row_Row_kid.l1 ks) (((i-lp.length:Nat):Int),(pre.length:Int))=some (((i-la.length:Nat):Int),((k:Nat):Int))∧k<ks.length∧ks[k]? = some (c_tNd z)∧T h z m∧3≤wd z∧wd z≤6∧l=la++m++lb∧Fo 3 h (ks.take k) la∧Fo 3 h (ks.drop (k+1)) lb ∧
     la.length≤i∧i≤la.length+m.length∧(i<l.length→i<la.length+m.length):=fun f1 f2 f3=>
    ⟨pre.length,z,lp,m,r,loop_done f3,by omega,hx,g1,g2,g3,by rw[hls]; simp,by rw[htake]; exact hp,by rw[hdrop]; exact g5,hlp,f1,f2⟩
   by_cases c0:rest.length=0
   ·obtain rfl:=List.length_eq_zero_iff.1 c0;have:=g5.nil_inv;subst this;simp only[List.length_nil] at hll hlen;refine fin (by omega) (by omega) ?_;unfold tree_Node_row_Row_kid.l1;dsimp only;rw[w64_id ⟨by omega,by omega⟩,if_neg (by omega),bnd_some',if_neg (by simp)]
   ·by_cases c1:m.length≤i-lp.length
    ·have hlpm:(lp++m).length=lp.length+m.length:=List.length_append;obtain⟨k,z',la,m',lb,e1,e2⟩:=ih (pre++[c_tNd z]) (lp++m) r (by rw[hks]; simp) (by omega) (by rw[hls]; simp) (hp.app (Fo.one g1 g2 g3)) g5 (by omega);refine⟨k,z',la,m',lb,loop_next (s':=(((i-(lp++m).length:Nat):Int),((pre++[c_tNd z]).length:Int))) ?_ e1,e2⟩;unfold tree_Node_row_Row_kid.l1;dsimp only;rw[w64_id (x:=(ks.length:Int)-1) ⟨by omega,by omega⟩,if_pos (by omega),idx_of hx,bnd_some',oN,bnd_some',bnd_some',hN,if_pos (by simp; omega),bnd_some',oN,bnd_some',hN,w64_id ⟨by omega,by omega⟩,w64_id ⟨by omega,by omega⟩];congr 3
     ·omega
     ·simp
    ·refine fin (by omega) (by omega) ?_;unfold tree_Node_row_Row_kid.l1;dsimp only;rw[w64_id ⟨by omega,by omega⟩,if_pos (by omega),idx_of hx,bnd_some',oN,bnd_some',bnd_some',hN,if_neg (by simp; omega)]
 obtain⟨k,z,la,m,lb,e1,e2⟩:=key ks [] [] l rfl hne rfl Fo.nil hf (by simp);refine⟨k,z,la,m,lb,?_,e2⟩;unfold tree_Node_row_Row_kid;rw[show ((([]:List El).length))=0 from rfl,Nat.sub_zero,show ((([]:List NP).length:Nat):Int)=0 from rfl] at e1;rw[e1,bnd_some']
theorem flat_eq (ks:List NP) (is:List El) (n:Int):tree_Node_row_Row_flat ks is n=some (decide (ks.length=0)):=by
 unfold tree_Node_row_Row_flat;congr 1;rw[Bool.eq_iff_iff]; simp
theorem set_eq:∀ (h fu:Nat) (z:Nd) (l:List El) (i:Nat) (x:El),h<fu→T h z l→wd z≤6→i<l.length→l.length≤800000 →
 ∃ z',tree_Node_row_Row_set fu z.fKids z.fItems z.fN (i:Int) x=some (z'.fKids,z'.fItems,z'.fN)∧T h z' (repL l i (i+1) [x])∧wd z'=wd z∧z'.fKids.length=z.fKids.length:=by
 intro h
 induction h with
 | zero=>
  intro fu z l i x hfu ht hw hi hl;obtain⟨fu,rfl⟩:∃ n,fu=n+1:=⟨fu-1,by omega⟩;obtain⟨q1,q2,q3⟩:=leaf_wd ht;have hr:=repL_len l (i:=i) (j:=i+1) [x] (by omega) (by omega);refine⟨⟨[],repL l i (i+1) [x],((repL l i (i+1) [x]).length:Int)⟩,?_,rfl,?_,by rw[q2]⟩
  ·show tree_Node_row_Row_set.body (tree_Node_row_Row_set fu) z.fKids z.fItems z.fN (i:Int) x=_;unfold tree_Node_row_Row_set.body tree_leaf_row_Row;rw[flat_eq,bnd_some',q2,if_pos (by simp),q3,w64_id ⟨by omega,by omega⟩,show (i:Int)+1=((i+1:Nat):Int) by omega,spliceEl _ _ _ _ (by omega) (by omega) (by simp; omega),bnd_some',bnd_some']
  ·rw[q1]; simp only[wd,List.length_nil]; simp at hr; omega
 | succ h ih=>
  intro fu z l i x hfu ht hw hi hl;obtain⟨fu,rfl⟩:∃ n,fu=n+1:=⟨fu-1,by omega⟩;have hkw:=kids_wd ht;obtain⟨t1,t2,t3⟩:=T_succ.1 ht;have hne:0<z.fKids.length:=fo_ne t3 (fun e=>by rw[e] at hi; simp at hi);obtain⟨k,w,la,m,lb,k1,k2,k3,k4,k5,k6,k7,k8,k9,k10,k11,k12⟩:=kid_eq t3 (by omega) (by omega) hne i (by omega) z.fItems z.fN;have hm:la.length+m.length≤l.length:=by rw[k7]; simp
  have k12':=k12 hi;obtain⟨w',w1,w2,w3,w4⟩:=ih fu w m (i-la.length) x (by omega) k4 k6 (by omega) (by omega);have hrep:repL l i (i+1) [x]=la++repL m (i-la.length) (i-la.length+1) [x]++lb:=by
   rw[k7,rep3 la m lb [x] k10 (by omega) (by omega),show i+1-la.length=i-la.length+1 by omega]
  have hfo:Fo 3 h (repL z.fKids k (k+1) [c_tNd w']) (repL l i (i+1) [x]):=by
   rw[hrep]; exact Fo.rep k8 (Fo.one w2 (by omega) (by omega)) k9
  have hrl:=repL_len l (i:=i) (j:=i+1) [x] (by omega) (by omega);have hkl:=repL_len z.fKids (i:=k) (j:=k+1) [c_tNd w'] (by omega) (by omega);simp only[List.length_cons,List.length_nil] at hrl hkl;refine⟨⟨repL z.fKids k (k+1) [c_tNd w'],[],((repL l i (i+1) [x]).length:Int)⟩,?_,T_succ.2 ⟨rfl,rfl,hfo⟩,?_,by dsimp only; omega⟩
  ·show tree_Node_row_Row_set.body (tree_Node_row_Row_set fu) z.fKids z.fItems z.fN (i:Int) x=_;unfold tree_Node_row_Row_set.body;rw[flat_eq,bnd_some',if_neg (by simp; intro e; rw[e] at hne; simp at hne),k1,bnd_some'];dsimp only;rw[idx_of k3,bnd_some',oN,bnd_some',w1,bnd_some',w64_id ⟨by omega,by omega⟩,show (k:Int)+1=((k+1:Nat):Int) by omega,spliceNP _ _ _ _ (by omega) (by omega) (by simp; omega),bnd_some',inner_eq hfo (by omega) (by omega),bnd_some']
  ·rw[hkw]; simp only[wd,List.length_nil]; omega
theorem fo_size {h:Nat} (ih:∀ (z:Nd) (l:List El),T h z l→wd z*3 ^ h≤l.length):∀ (xs:List NP) (l:List El),Fo 3 h xs l→xs.length*(3*3 ^ h)≤l.length:=by
 intro xs
 induction xs with
 | nil=>intro l _; simp
 | cons x xs ihx=>
  intro l hf;obtain⟨w,m,r,rfl,g1,g2,g3,rfl,g5⟩:=hf.cons_inv;have h1:=ih w m g1;have h2:=ihx r g5;have h3:3*3 ^ h≤wd w*3 ^ h:=Nat.mul_le_mul_right _ g2;rw[List.length_cons,List.length_append,Nat.add_mul];omega
theorem T_size:∀ (h:Nat) (z:Nd) (l:List El),T h z l→wd z*3 ^ h≤l.length:=by
 intro h
 induction h with
 | zero=>
  intro z l ht;rw[(leaf_wd ht).1]; simp
 | succ h ih=>
  intro z l ht;obtain⟨_,_,hf⟩:=T_succ.1 ht;rw[kids_wd ht,Nat.pow_succ,Nat.mul_comm (3 ^ h) 3];exact fo_size ih _ _ hf
theorem Rt.kids {h:Nat} {z:Nd} {l:List El} (hr:Rt h z l) (h0:0<h):2≤z.fKids.length:=by
 obtain⟨h,rfl⟩:∃ n,h=n+1:=⟨h-1,by omega⟩;have:=fo_ne (T_succ.1 hr.1).2.2 hr.2.2.2;have:=hr.2.2.1;omega
theorem Rt.wd_pos {h:Nat} {z:Nd} {l:List El} (hr:Rt h z l):1≤wd z∧(0<h→2≤wd z):=by
 cases h with
 | zero=>
  have:l.length≠0:=fun e=>hr.2.2.2 (List.length_eq_zero_iff.1 e);rw[(leaf_wd hr.1).1];omega
 | succ h=>
  have:=hr.kids (by omega);rw[kids_wd hr.1];omega
theorem Rt.size {h:Nat} {z:Nd} {l:List El} (hr:Rt h z l) (h0:0<h):2*3 ^ h≤l.length:=
 Nat.le_trans (Nat.mul_le_mul_right _ (hr.wd_pos.2 h0)) (T_size h z l hr.1)
theorem Rt.low {h:Nat} {z:Nd} {l:List El} (hr:Rt h z l) (hl:l.length≤2000000):h<30:=by
 by_cases c:h<30
 ·exact c
 ·have h1:=hr.size (by omega);have h2:3 ^ 30≤3 ^ h:=Nat.pow_le_pow_right (by decide) (by omega);have h3:(3:Nat) ^ 30=205891132094649:=by decide
  omega
theorem Len_eq (t:tTr) (l:List El) (ht:IsT t l):tree_Tree_row_Row_Len t=some (l.length:Int):=by
 unfold tree_Tree_row_Row_Len;rcases ht with ⟨rfl,rfl⟩|⟨h,z,rfl,hr⟩
 ·rfl
 ·rw[bnd_some'];dsimp only;rw[oN,bnd_some',T_N hr.1]
theorem tHas_eq (t:tTr) (l:List El) (ht:IsT t l) (i:Int):tree_Tree_row_Row_has t i=some (decide (0≤i∧i<(l.length:Int))):=by
 unfold tree_Tree_row_Row_has;by_cases c:i≥0
 ·rw[if_pos c,Len_eq t l ht,bnd_some',bnd_some']; simp[c]
 ·rw[if_neg c,bnd_some',decide_eq_false (fun h=>c h.1)]
theorem atLoop:∀ (h:Nat) (z:Nd) (l:List El) (i:Nat),T h z l→wd z≤6→(hi:i<l.length)→l.length≤800000→∃ j ks is n,loop tree_Tree_row_Row_At.l2 ((i:Int),z.fKids,z.fItems,z.fN)=some (j,ks,is,n)∧idx is j=some l[i]:=by
 intro h
 induction h with
 | zero=>
  intro z l i ht hw hi hl;obtain⟨q1,q2,q3⟩:=leaf_wd ht;refine⟨(i:Int),z.fKids,z.fItems,z.fN,loop_done ?_,?_⟩
  ·unfold tree_Tree_row_Row_At.l2;dsimp only;rw[flat_eq,bnd_some',q2,if_pos (by simp)]
  ·rw[q3]; exact idx_of (List.getElem?_eq_getElem hi)
 | succ h ih=>
  intro z l i ht hw hi hl;obtain⟨t1,t2,t3⟩:=T_succ.1 ht;have hkw:=kids_wd ht;have hne:0<z.fKids.length:=fo_ne t3 (fun e=>by subst e; simp at hi);obtain⟨k,w,la,m,lb,k1,k2,k3,k4,k5,k6,k7,k8,k9,k10,k11,k12⟩:=kid_eq t3 (by omega) (by omega) hne i (by omega) z.fItems z.fN;have hm:l.length=la.length+m.length+lb.length:=by rw[k7]; simp only[List.length_append]
  have k12':=k12 hi;obtain⟨j,ks,is,n,j1,j2⟩:=ih w m (i-la.length) k4 k6 (by omega) (by omega);refine⟨j,ks,is,n,loop_next ?_ j1,?_⟩
  ·unfold tree_Tree_row_Row_At.l2;dsimp only;rw[flat_eq,bnd_some',if_neg (by simp; intro e; rw[e] at hne; simp at hne),k1,bnd_some'];dsimp only;rw[idx_of k3,bnd_some',oN,bnd_some']
  ·rw[j2];congr 1;have:l[i]? = m[i-la.length]?:=by
    rw[k7,List.append_assoc,List.getElem?_append_right k10,List.getElem?_append_left (by omega)]
   rw[List.getElem?_eq_getElem hi,List.getElem?_eq_getElem (show i-la.length<m.length by omega)] at this;exact (Option.some.inj this).symm
theorem At_eq (t:tTr) (l:List El) (ht:IsT t l) (hl:l.length≤800000) (i:Int):(¬ (0≤i∧i<(l.length:Int))→tree_Tree_row_Row_At t i=some (default,false))∧((hi:0≤i∧i<(l.length:Int))→tree_Tree_row_Row_At t i=some (l[i.toNat]'(by omega),true)):=by
 unfold tree_Tree_row_Row_At;rw[tHas_eq t l ht,bnd_some'];constructor
 ·intro c;rw[decide_eq_false c,if_neg (by simp)];rfl
 ·intro c;rw[decide_eq_true c,if_pos rfl];rcases ht with ⟨rfl,rfl⟩|⟨h,z,rfl,hr⟩
  ·simp at c; omega
  ·obtain⟨j,ks,is,n,j1,j2⟩:=atLoop h z l i.toNat hr.1 hr.2.1 (by omega) hl;rw[show ((i.toNat:Nat):Int)=i by omega] at j1;rw[bnd_some'];dsimp only;rw[oN,bnd_some',j1,bnd_some'];dsimp only;rw[j2,bnd_some']
theorem Set_eq (t:tTr) (l:List El) (ht:IsT t l) (hl:l.length≤800000) (i:Int) (x:El):(¬ (0≤i∧i<(l.length:Int))→tree_Tree_row_Row_Set t i x=some (t,false)) ∧
 ((0≤i∧i<(l.length:Int))→∃ u,tree_Tree_row_Row_Set t i x=some (u,true)∧IsT u (repL l i.toNat (i.toNat+1) [x])):=by
 unfold tree_Tree_row_Row_Set;rw[tHas_eq t l ht,bnd_some'];constructor
 ·intro c;rw[decide_eq_false c,if_neg (by simp)]
 ·intro c;rw[decide_eq_true c,if_pos rfl];rcases ht with ⟨rfl,rfl⟩|⟨h,z,rfl,hr⟩
  ·simp at c; omega
  ·have hlow:=hr.low (by omega);obtain⟨z',z1,z2,z3,z4⟩:=set_eq h 64 z l i.toNat x (by omega) hr.1 hr.2.1 (by omega) hl;rw[show ((i.toNat:Nat):Int)=i by omega] at z1;have hlen:=repL_len l (i:=i.toNat) (j:=i.toNat+1) [x] (by omega) (by omega);simp only[List.length_cons,List.length_nil] at hlen;rw[bnd_some'];dsimp only;rw[oN,bnd_some',z1,bnd_some'];exact⟨_,rfl,.inr ⟨h,z',rfl,z2,by rw[z3]; exact hr.2.1,by rw[z4]; exact hr.2.2.1,fun e=>by rw[e] at hlen; simp at hlen; omega⟩⟩
abbrev Fr:=wFr
def Pth:Nat→Nd→List El→Nat→List Fr→Nat→Prop
| 0,z,l,first,stk,i=>stk=[⟨some (c_tNd z),(first:Int),(i:Int)⟩]∧i≤l.length∧T 0 z l
| h+1,z,l,first,stk,i=>∃ (k:Nat) (w:Nd) (la m lb:List El) (stk':List Fr),z.fKids[k]? = some (c_tNd w)∧T h w m∧3≤wd w∧wd w≤6∧l=la++m++lb∧Fo 3 h (z.fKids.take k) la∧Fo 3 h (z.fKids.drop (k+1)) lb ∧
 stk=⟨some (c_tNd z),((first+la.length:Nat):Int),(k:Int)⟩::stk'∧la.length≤i∧Pth h w m (first+la.length) stk' (i-la.length)
theorem Pth.le:∀ {h:Nat} {z:Nd} {l:List El} {first:Nat} {stk:List Fr} {i:Nat},Pth h z l first stk i→i≤l.length∧stk.length=h+1
 | 0,z,l,first,stk,i,hp=>by
  obtain⟨rfl,h1,_⟩:=hp;exact⟨h1,rfl⟩
 | h+1,z,l,first,stk,i,hp=>by
  obtain⟨k,w,la,m,lb,stk',k1,k2,k3,k4,rfl,k6,k7,rfl,k9,k10⟩:=hp;obtain⟨a,b⟩:=Pth.le k10;simp only[List.length_append,List.length_cons];omega
theorem Pth.top:∀ {h:Nat} {z:Nd} {l:List El} {first:Nat} {stk:List Fr} {i:Nat},Pth h z l first stk i→∃ (pre:List Fr) (w:Nd) (fs:Int) (k:Nat),stk=pre++[⟨some (c_tNd w),fs,(k:Int)⟩]∧k≤w.fItems.length ∧
 (k<w.fItems.length→i<l.length∧l[i]? = w.fItems[k]? ∧ Pth h z l first (pre++[⟨some (c_tNd w),fs,((k+1:Nat):Int)⟩]) (i+1))
 | 0,z,l,first,stk,i,hp=>by
  obtain⟨rfl,h1,h2⟩:=hp;obtain⟨q1,q2,q3⟩:=leaf_wd h2;refine⟨[],z,(first:Int),i,rfl,by rw[q3]; exact h1,fun hk=>?_⟩;rw[q3] at hk ⊢;exact⟨hk,rfl,rfl,by omega,h2⟩
 | h+1,z,l,first,stk,i,hp=>by
  obtain⟨k,w,la,m,lb,stk',k1,k2,k3,k4,rfl,k6,k7,rfl,k9,k10⟩:=hp;obtain⟨pre,u,fs,j,rfl,j1,j2⟩:=Pth.top k10;refine⟨⟨some (c_tNd z),((first+la.length:Nat):Int),(k:Int)⟩::pre,u,fs,j,rfl,j1,fun hk=>?_⟩;obtain⟨j3,j4,j5⟩:=j2 hk;refine⟨by simp only[List.length_append]; omega,?_,k,w,la,m,lb,_,k1,k2,k3,k4,rfl,k6,k7,rfl,by omega,?_⟩
  ·rw[← j4,List.append_assoc,List.getElem?_append_right k9,List.getElem?_append_left (by omega)]
  ·rw[show i+1-la.length=i-la.length+1 by omega]; exact j5
theorem downKid {h:Nat} {ks:List NP} {l:List El} (hf:Fo 3 h ks l) (hk:ks.length≤900000) (hne:0<ks.length) (first i:Nat) (hi:i<l.length) (hb:first+l.length≤900000)
 {f:Int × Int→Option (Lp (Int × Int) (Int × Int))} (hfe:∀ s,f s=bnd (if s.2<(w64 ((ks.length:Int)-1)) then
  bnd (idx ks s.2) fun x24=>bnd (o_tNd x24) fun x25=>some (decide (((first+i:Nat):Int)≥(w64 (s.1+x25.fN)))) else some false:Option Bool) fun t22=>
  if t22=true then bnd (idx ks s.2) fun x27=>bnd (o_tNd x27) fun x28=>some (Lp.next (w64 (s.1+x28.fN),w64 (s.2+1))) else some (Lp.done (s.1,s.2))) :
 ∃ (k:Nat) (w:Nd) (la m lb:List El),loop f ((first:Int),0)=some (((first+la.length:Nat):Int),(k:Int))∧ks[k]? = some (c_tNd w)∧T h w m∧3≤wd w∧wd w≤6∧l=la++m++lb∧Fo 3 h (ks.take k) la∧Fo 3 h (ks.drop (k+1)) lb ∧
  la.length≤i∧i<la.length+m.length:=by
 have key:∀ (suf pre:List NP) (lp ls:List El),ks=pre++suf→0<suf.length→l=lp++ls→Fo 3 h pre lp→Fo 3 h suf ls→lp.length≤i →
  ∃ (k:Nat) (w:Nd) (la m lb:List El),loop f (((first+lp.length:Nat):Int),(pre.length:Int))=some (((first+la.length:Nat):Int),(k:Int))∧ks[k]? = some (c_tNd w)∧T h w m∧3≤wd w∧wd w≤6∧l=la++m++lb∧Fo 3 h (ks.take k) la∧Fo 3 h (ks.drop (k+1)) lb ∧
   la.length≤i∧i<la.length+m.length:=by
  intro suf
  induction suf with
  | nil=>intro pre lp ls _ h0; simp at h0
  | cons x rest ih=>
   intro pre lp ls hks _ hls hp hs hlp;obtain⟨z,m,r,rfl,g1,g2,g3,rfl,g5⟩:=hs.cons_inv;have hlen:ks.length=pre.length+(rest.length+1):=by rw[hks]; simp
   have hx:ks[pre.length]? = some (c_tNd z):=by rw[hks]; simp
   have hll:l.length=lp.length+(m.length+r.length):=by rw[hls]; simp
   have hN:=T_N g1;have htake:ks.take pre.length=pre:=by rw[hks]; simp
   have hdrop:ks.drop (pre.length+1)=rest:=by rw[hks]; simp
   have fin:i<lp.length+m.length→f (((first+lp.length:Nat):Int),(pre.length:Int))=some (.done (((first+lp.length:Nat):Int),(pre.length:Int))) →
    ∃ (k:Nat) (w:Nd) (la m lb:List El),loop f (((first+lp.length:Nat):Int),(pre.length:Int))=some (((first+la.length:Nat):Int),(k:Int))∧ks[k]? = some (c_tNd w)∧T h w m∧3≤wd w∧wd w≤6∧l=la++m++lb∧Fo 3 h (ks.take k) la∧Fo 3 h (ks.drop (k+1)) lb ∧
     la.length≤i∧i<la.length+m.length:=fun f1 f3=>
    ⟨pre.length,z,lp,m,r,loop_done f3,hx,g1,g2,g3,by rw[hls]; simp,by rw[htake]; exact hp,by rw[hdrop]; exact g5,hlp,f1⟩
   by_cases c0:rest.length=0
   ·obtain rfl:=List.length_eq_zero_iff.1 c0;have:=g5.nil_inv;subst this;simp only[List.length_nil] at hll hlen;refine fin (by omega) ?_;rw[hfe];dsimp only;rw[w64_id ⟨by omega,by omega⟩,if_neg (by omega),bnd_some',if_neg (by simp)]
   ·by_cases c1:m.length≤i-lp.length
    ·have hlpm:(lp++m).length=lp.length+m.length:=List.length_append;obtain⟨k,z',la,m',lb,e1,e2⟩:=ih (pre++[c_tNd z]) (lp++m) r (by rw[hks]; simp) (by omega) (by rw[hls]; simp) (hp.app (Fo.one g1 g2 g3)) g5 (by omega);refine⟨k,z',la,m',lb,loop_next (s':=(((first+(lp++m).length:Nat):Int),((pre++[c_tNd z]).length:Int))) ?_ e1,e2⟩;rw[hfe];dsimp only;rw[w64_id (x:=(ks.length:Int)-1) ⟨by omega,by omega⟩,if_pos (by omega),idx_of hx,bnd_some',oN,bnd_some',bnd_some',hN,w64_id (x:=((first+lp.length:Nat):Int)+(m.length:Int)) ⟨by omega,by omega⟩,if_pos (by simp; omega),bnd_some',oN,bnd_some',hN,w64_id (x:=((first+lp.length:Nat):Int)+(m.length:Int)) ⟨by omega,by omega⟩,w64_id ⟨by omega,by omega⟩];congr 3
     ·omega
     ·simp
    ·refine fin (by omega) ?_;rw[hfe];dsimp only;rw[w64_id (x:=(ks.length:Int)-1) ⟨by omega,by omega⟩,if_pos (by omega),idx_of hx,bnd_some',oN,bnd_some',bnd_some',hN,w64_id (x:=((first+lp.length:Nat):Int)+(m.length:Int)) ⟨by omega,by omega⟩,if_neg (by simp; omega)]
 obtain⟨k,z,la,m,lb,e1,e2⟩:=key ks [] [] l rfl hne rfl Fo.nil hf (by simp);exact⟨k,z,la,m,lb,e1,e2⟩
def Fresh (stk:List Fr):Prop:=∃ (pre:List Fr) (w:Nd) (fs:Int) (k:Nat),stk=pre++[⟨some (c_tNd w),fs,(k:Int)⟩]∧k<w.fItems.length
abbrev DSt:=List NP × List El × Int × Int × List Fr
theorem down_gen {f1:DSt→Int × Int→Option (Lp (Int × Int) (Int × Int))} {f2:DSt→Option (Lp DSt DSt)}:∀ (h:Nat) (z:Nd) (l:List El) (first i:Nat) (stk:List Fr),
 (∀ s4 s,f1 s4 s=bnd (if s.2<(w64 ((s4.1.length:Int)-1)) then bnd (idx s4.1 s.2) fun x24=>bnd (o_tNd x24) fun x25=>some (decide (((first+i:Nat):Int)≥(w64 (s.1+x25.fN)))) else some false:Option Bool) fun t22=>
  if t22=true then bnd (idx s4.1 s.2) fun x27=>bnd (o_tNd x27) fun x28=>some (Lp.next (w64 (s.1+x28.fN),w64 (s.2+1))) else some (Lp.done (s.1,s.2))) →
 (∀ s4,f2 s4=if (s4.1.length:Int)>0 then bnd (loop (f1 s4) (s4.2.2.2.1,0):Option (Int × Int)) fun t13=>
  bnd (app 24 s4.2.2.2.2 [(⟨(some (c_tNd (⟨s4.1,s4.2.1,s4.2.2.1⟩:tNd))),t13.1,t13.2⟩:wFr)]) fun x29=>bnd (idx s4.1 t13.2) fun x31=>bnd (o_tNd x31) fun x32=>some (Lp.next (x32.fKids,x32.fItems,x32.fN,t13.1,x29))
  else some (Lp.done (s4.1,s4.2.1,s4.2.2.1,s4.2.2.2.1,s4.2.2.2.2))) →
 T h z l→wd z≤6→i<l.length→first+l.length≤900000→stk.length+h≤1000 →
 ∃ (w:Nd) (fs j:Nat) (inn:List Fr),loop f2 (z.fKids,z.fItems,z.fN,(first:Int),stk)=some (w.fKids,w.fItems,w.fN,(fs:Int),stk++inn)∧fs+j=first+i∧j<w.fItems.length∧inn.length=h∧Pth h z l first (inn++[⟨some (c_tNd w),(fs:Int),(j:Int)⟩]) i:=by
 intro h
 induction h with
 | zero=>
  intro z l first i stk h1 h2 ht hw hi hb hs
  obtain⟨q1,q2,q3⟩:=leaf_wd ht;refine⟨z,first,i,[],loop_done ?_,rfl,by rw[q3]; exact hi,rfl,rfl,by omega,ht⟩;rw[h2];dsimp only;rw[q2,if_neg (by simp),List.append_nil]
 | succ h ih=>
  intro z l first i stk h1 h2 ht hw hi hb hs
  have hkw:=kids_wd ht;obtain⟨t1,t2,t3⟩:=T_succ.1 ht;have hne:0<z.fKids.length:=fo_ne t3 (fun e=>by rw[e] at hi; simp at hi);obtain⟨k,w,la,m,lb,k1,k2,k3,k4,k5,rfl,k7,k8,k9,k10⟩:=downKid t3 (by omega) hne first i hi hb (f:=f1 (z.fKids,z.fItems,z.fN,(first:Int),stk)) (fun s=>h1 _ s)
  simp only[List.length_append] at hb;obtain⟨u,fs,j,inn,d1,d2,d3,d4,d5⟩:=ih w m (first+la.length) (i-la.length) (stk++[⟨some (c_tNd z),((first+la.length:Nat):Int),(k:Int)⟩]) (by rw[show first+la.length+(i-la.length)=first+i by omega]; exact h1) h2 k3 k5 (by omega) (by omega) (by simp; omega);refine⟨u,fs,j,⟨some (c_tNd z),((first+la.length:Nat):Int),(k:Int)⟩::inn,loop_next (s':=(w.fKids,w.fItems,w.fN,((first+la.length:Nat):Int),stk++[⟨some (c_tNd z),((first+la.length:Nat):Int),(k:Int)⟩])) ?_ ?_,by omega,d3,by simp[d4],k,w,la,m,lb,_,k2,k3,k4,k5,rfl,k7,k8,rfl,k9,d5⟩
  ·rw[h2];dsimp only;rw[if_pos (by omega),k1,bnd_some',app_of (by simp; omega),bnd_some'];dsimp only;rw[idx_of k2,bnd_some',oN,bnd_some']
  ·rw[d1]; simp
theorem down_eq {h:Nat} {z:Nd} {l:List El} {first i:Nat} (ht:T h z l) (hw:wd z≤6) (hi:i<l.length) (hb:first+l.length≤900000) (hs:h≤500) :
 ∃ stk,walk_stack_row_Row_down z.fKids z.fItems z.fN (first:Int) ((first+i:Nat):Int)=some stk∧Pth h z l first stk i∧Fresh stk:=by
 obtain⟨w,fs,j,inn,d1,d2,d3,d4,d5⟩:=down_gen (f1:=walk_stack_row_Row_down.l1 ((first+i:Nat):Int)) (f2:=walk_stack_row_Row_down.l2 ((first+i:Nat):Int)) h z l first i [] (fun s4 s=>rfl) (fun s4=>rfl) ht hw hi hb (by simp; omega)
 rw[List.nil_append] at d1;refine⟨inn++[⟨some (c_tNd w),(fs:Int),(j:Int)⟩],?_,d5,inn,w,fs,j,rfl,d3⟩;unfold walk_stack_row_Row_down;rw[d1,bnd_some'];dsimp only;rw[w64_id ⟨by omega,by omega⟩,show ((first+i:Nat):Int)-(fs:Int)=(j:Int) by omega,app_of (by simp; omega),bnd_some']
theorem down2_eq {h:Nat} {z:Nd} {l:List El} {first i:Nat} (stk:List Fr) (ht:T h z l) (hw:wd z≤6) (hi:i<l.length) (hb:first+l.length≤900000) (hs:stk.length+h≤500) :
 ∃ p,walk_stack_row_Row_down_2 z.fKids z.fItems z.fN (first:Int) ((first+i:Nat):Int) stk=some (stk++p)∧Pth h z l first p i∧Fresh p:=by
 obtain⟨w,fs,j,inn,d1,d2,d3,d4,d5⟩:=down_gen (f1:=walk_stack_row_Row_down_2.l1 ((first+i:Nat):Int)) (f2:=walk_stack_row_Row_down_2.l2 ((first+i:Nat):Int)) h z l first i stk (fun s4 s=>rfl) (fun s4=>rfl) ht hw hi hb (by omega)
 refine⟨inn++[⟨some (c_tNd w),(fs:Int),(j:Int)⟩],?_,d5,inn,w,fs,j,rfl,d3⟩;unfold walk_stack_row_Row_down_2;rw[d1,bnd_some'];dsimp only;rw[w64_id ⟨by omega,by omega⟩,show ((first+i:Nat):Int)-(fs:Int)=(j:Int) by omega,app_of (by simp; omega),bnd_some',List.append_assoc]
theorem top_eq (pre:List Fr) (f:Fr) (hb:pre.length≤900000):walk_stack_row_Row_top (pre++[f])=some (pre.length:Int)∧idx (pre++[f]) (pre.length:Int)=some f:=by
 have h2:idx (pre++[f]) (pre.length:Int)=some f:=idx_at pre f [];refine⟨?_,h2⟩;unfold walk_stack_row_Row_top;rw[List.length_append,List.length_singleton,w64_id ⟨by omega,by omega⟩,show ((pre.length+1:Nat):Int)-1=(pre.length:Int) by omega,h2,bnd_some']
theorem set_top (pre:List Fr) (f g:Fr):(pre++[f]).set pre.length g=pre++[g]:=by simp
theorem Fo.len_pos {h:Nat} {xs:List NP} {l:List El} (hf:Fo 3 h xs l) (hne:0<xs.length) (hpos:∀ w m,T h w m→3≤wd w→0<m.length):0<l.length:=by
 cases xs with
 | nil=>simp at hne
 | cons x xs=>
  obtain⟨w,m,r,rfl,g1,g2,g3,rfl,g5⟩:=hf.cons_inv;have:=hpos w m g1 g2;simp; omega
theorem T_pos:∀ (h:Nat) (w:Nd) (m:List El),T h w m→3≤wd w→0<m.length:=by
 intro h
 induction h with
 | zero=>intro w m ht hw; have:=(leaf_wd ht).1; omega
 | succ h ih=>
  intro w m ht hw;have:=kids_wd ht;exact Fo.len_pos (T_succ.1 ht).2.2 (by omega) ih
theorem forthLoop:∀ (h:Nat) (z:Nd) (l:List El) (first i:Nat) (pre:List Fr) (w:Nd) (fs:Int) (p0:List Fr),Pth h z l first (pre++[⟨some (c_tNd w),fs,(w.fItems.length:Int)⟩]) i→wd z≤6→first+l.length≤900000→p0.length+h≤400 →
 (i<l.length→∃ stk2,loop walk_stack_row_Row_forth.l1 (p0++pre)=some (.ret (true,p0++stk2))∧Pth h z l first stk2 i∧Fresh stk2) ∧
 (i=l.length→∀ t,loop walk_stack_row_Row_forth.l1 p0=some t→loop walk_stack_row_Row_forth.l1 (p0++pre)=some t):=by
 intro h
 induction h with
 | zero=>
  intro z l first i pre w fs p0 hp hw hb hs
  obtain⟨h1,h2,h3⟩:=hp;obtain⟨rfl,e⟩:=List.append_inj' (show pre++[_]=[]++[_] from h1) rfl;simp only[List.cons.injEq,and_true,wFr.mk.injEq,Option.some.injEq] at e;obtain⟨e1,_,e3⟩:=e;have:=cN_inj _ _ e1;subst this;have hq:=(leaf_wd h3).2.2;rw[hq] at e3;refine⟨fun hi=>by omega,fun _ t ht=>by rw[List.append_nil]; exact ht⟩
 | succ h ih=>
  intro z l first i pre w fs p0 hp hw hb hs
  obtain⟨k,u,la,m,lb,stk',k1,k2,k3,k4,rfl,k6,k7,k8,k9,k10⟩:=hp;cases pre with
  | nil=>
   have:=(Pth.le k10).2;simp at k8;rw[k8.2] at this;simp at this
  | cons fr pre=>
   simp only[List.cons_append,List.cons.injEq] at k8;obtain⟨rfl,rfl⟩:=k8;simp only[List.length_append] at hb;have hle:=(Pth.le k10).1;obtain⟨a1,a2⟩:=ih u m (first+la.length) (i-la.length) pre w fs (p0++[⟨some (c_tNd z),((first+la.length:Nat):Int),(k:Int)⟩]) k10 k4 (by omega) (by simp; omega);have happ:p0++⟨some (c_tNd z),((first+la.length:Nat):Int),(k:Int)⟩::pre=(p0++[⟨some (c_tNd z),((first+la.length:Nat):Int),(k:Int)⟩])++pre:=by simp
   by_cases c:i-la.length<m.length
   ·obtain⟨s2,b1,b2,b3⟩:=a1 c;refine⟨fun _=>⟨⟨some (c_tNd z),((first+la.length:Nat):Int),(k:Int)⟩::s2,by rw[happ,b1]; simp,⟨k,u,la,m,lb,s2,k1,k2,k3,k4,rfl,k6,k7,rfl,k9,b2⟩,?_⟩,fun hi=>by simp at hi; omega⟩;obtain⟨p,w',fs',k',rfl,q⟩:=b3;exact⟨_::p,w',fs',k',rfl,q⟩
   ·have hi:i-la.length=m.length:=by omega
    have a2:=a2 hi;have hN:=T_N k2;have hkl:k<z.fKids.length:=(List.getElem?_eq_some_iff.1 k1).1;obtain⟨g1,g2⟩:=top_eq p0 ⟨some (c_tNd z),((first+la.length:Nat):Int),(k:Int)⟩ (by omega);obtain⟨g3,g4⟩:=top_eq p0 ⟨some (c_tNd z),w64 (((first+la.length:Nat):Int)+u.fN),(k:Int)⟩ (by omega);obtain⟨g5,g6⟩:=top_eq p0 ⟨some (c_tNd z),w64 (((first+la.length:Nat):Int)+u.fN),w64 ((k:Int)+1)⟩ (by omega);have hw1:w64 (((first+la.length:Nat):Int)+u.fN)=((first+(la++m).length:Nat):Int):=by
     rw[hN,w64_id ⟨by omega,by omega⟩,List.length_append]; omega
    have hz6:z.fKids.length≤6:=by unfold wd at hw; omega
    have hw2:w64 ((k:Int)+1)=((k+1:Nat):Int):=by rw[w64_id ⟨by omega,by omega⟩,show (k:Int)+1=((k+1:Nat):Int) by omega]
    rw[hw1] at g3 g4 g5 g6;rw[hw2] at g5 g6;have e1:walk_stack_row_Row_forth.l1 (p0++[⟨some (c_tNd z),((first+la.length:Nat):Int),(k:Int)⟩])=if ((k+1:Nat):Int)<(z.fKids.length:Int) then
     (bnd (idx z.fKids ((k+1:Nat):Int)) fun x34=>bnd (o_tNd x34) fun x35=>bnd (walk_stack_row_Row_down_2 x35.fKids x35.fItems x35.fN ((first+(la++m).length:Nat):Int) ((first+(la++m).length:Nat):Int) (p0++[⟨some (c_tNd z),((first+(la++m).length:Nat):Int),((k+1:Nat):Int)⟩])) fun x36=>some (.done (.ret (true,x36))))
     else (bnd (cut (p0++[⟨some (c_tNd z),((first+(la++m).length:Nat):Int),((k+1:Nat):Int)⟩]) 0 (p0.length:Int)) fun x39=>some (.next x39)):=by
     unfold walk_stack_row_Row_forth.l1;rw[if_pos (by simp <;> omega),g1,bnd_some',g2,bnd_some'];dsimp only;rw[bnd_some'];dsimp only;rw[oN,bnd_some',idx_of k1,bnd_some',oN,bnd_some',Int.toNat_natCast,set_top,hw1,g4,bnd_some'];dsimp only;rw[set_top,hw2,g6,bnd_some'];dsimp only;rw[bnd_some'];dsimp only;have hl1:(p0++[(⟨some (c_tNd z),((first+(la++m).length:Nat):Int),((k+1:Nat):Int)⟩:Fr)]).length=p0.length+1:=by simp
     rw[oN,bnd_some',bnd_some',hl1,w64_id (x:=((p0.length+1:Nat):Int)-1) ⟨by omega,by omega⟩,show ((p0.length+1:Nat):Int)-1=(p0.length:Int) by omega]
    by_cases ck:k+1<z.fKids.length
    ·rw[if_pos (by omega)] at e1;have hd1:z.fKids.drop (k+1)=z.fKids[k+1]::z.fKids.drop (k+1+1):=List.drop_eq_getElem_cons ck;rw[hd1] at k7;obtain⟨v,m2,r2,u3,u4,u5,u6,rfl,u8⟩:=k7.cons_inv;have hkv:z.fKids[k+1]? = some (c_tNd v):=by rw[List.getElem?_eq_getElem ck,u3]
     have hm2:=T_pos h v m2 u4 u5;simp only[List.length_append] at hb;obtain⟨p,d1,d2,d3⟩:=down2_eq (first:=first+(la++m).length) (i:=0) (p0++[⟨some (c_tNd z),((first+(la++m).length:Nat):Int),((k+1:Nat):Int)⟩]) u4 u6 hm2 (by simp only[List.length_append]; omega) (by simp; omega);rw[Nat.add_zero] at d1;rw[idx_of hkv,bnd_some',oN,bnd_some',d1,bnd_some'] at e1;refine⟨fun _=>⟨⟨some (c_tNd z),((first+(la++m).length:Nat):Int),((k+1:Nat):Int)⟩::p,?_,⟨k+1,v,la++m,m2,r2,p,hkv,u4,u5,u6,by simp,?_,u8,rfl,by simp only[List.length_append]; omega,?_⟩,?_⟩,fun hi2=>by simp only[List.length_append] at hi2; omega⟩
     ·rw[happ];refine a2 _ (loop_done ?_);rw[e1,List.append_assoc]; rfl
     ·rw[List.take_succ_eq_append_getElem hkl];rw[List.getElem?_eq_getElem hkl] at k1;rw[Option.some.inj k1];exact k6.app (Fo.one k2 k3 k4)
     ·rw[show i-(la++m).length=0 by simp only[List.length_append]; omega]; exact d2
     ·obtain⟨q,w',fs',k',rfl,h9⟩:=d3;exact⟨_::q,w',fs',k',rfl,h9⟩
    ·rw[if_neg (by omega),cut_of ⟨by omega,by omega,by simp; omega⟩,bnd_some',show ((0:Int)).toNat=0 from rfl,List.drop_zero,Int.toNat_natCast,List.take_left] at e1;have hd0:z.fKids.drop (k+1)=[]:=List.drop_of_length_le (by omega);rw[hd0] at k7;have:=k7.nil_inv;subst this;refine⟨fun hi2=>by simp only[List.length_append,List.length_nil] at hi2; omega,fun _ t ht=>?_⟩;rw[happ];exact a2 t (loop_next e1 ht)
theorem forth_eq {h:Nat} {z:Nd} {l:List El} {i:Nat} {stk pre:List Fr} {w:Nd} {fs:Int} (hs:stk=pre++[⟨some (c_tNd w),fs,(w.fItems.length:Int)⟩]) (hp:Pth h z l 0 stk i) (hw:wd z≤6) (hi:i<l.length) (hb:l.length≤900000) (hh:h≤400) :
 ∃ stk2,walk_stack_row_Row_forth stk=some (true,stk2)∧Pth h z l 0 stk2 i∧Fresh stk2:=by
 have hlen:=hp.le.2;subst hs;obtain⟨stk2,s1,s2,s3⟩:=(forthLoop h z l 0 i pre w fs [] hp hw (by omega) (by simp; omega)).1 hi;rw[List.nil_append,List.nil_append] at s1;refine⟨stk2,?_,s2,s3⟩;unfold walk_stack_row_Row_forth;rw[List.length_append,List.length_singleton] at hlen ⊢;rw[w64_id ⟨by omega,by omega⟩,show ((pre.length+1:Nat):Int)-1=(pre.length:Int) by omega,cut_of ⟨by omega,by omega,by simp; omega⟩,bnd_some',show ((0:Int)).toNat=0 from rfl,List.drop_zero,Int.toNat_natCast,List.take_left,s1,bnd_some']
section
variable {R:Type}
noncomputable def rtake (stk:List Fr) (K:El→List Fr→Option R):Option R:=
 bnd (walk_stack_row_Row_top stk) fun x31=>bnd (idx stk x31) fun x32=>bnd (some x32.fN) fun q33=>match q33 with
| none=>none
| some z34=>bnd (o_tNd z34) fun x36=>bnd (idx x36.fItems x32.fNext) fun x38=>K x38 (stk.set x31.toNat (⟨x32.fN,x32.fFirst,w64 (x32.fNext+1)⟩:wFr))
noncomputable def rstep (stk:List Fr) (K:El→List Fr→Option R):Option R:=
 bnd (walk_stack_row_Row_top stk) fun x19=>bnd (idx stk x19) fun x20=>bnd (some x20.fN) fun q21=>match q21 with
| none=>none
| some z22=>bnd (o_tNd z22) fun x24=>
 bnd (if x20.fNext=(x24.fItems.length:Int) then bnd (walk_stack_row_Row_forth stk) fun x29=>some x29.2 else some stk:Option (List Fr)) fun t26=>rtake t26 K
theorem Pth.items:∀ {h:Nat} {z:Nd} {l:List El} {first:Nat} {pre:List Fr} {w:Nd} {fs:Int} {k:Int} {i:Nat},Pth h z l first (pre++[⟨some (c_tNd w),fs,k⟩]) i→w.fItems.length≤l.length
 | 0,z,l,first,pre,w,fs,k,i,hp=>by
  obtain⟨h1,h2,h3⟩:=hp;obtain⟨rfl,e⟩:=List.append_inj' (show pre++[_]=[]++[_] from h1) rfl;simp only[List.cons.injEq,and_true,wFr.mk.injEq,Option.some.injEq] at e;have:=cN_inj _ _ e.1;subst this;rw[(leaf_wd h3).2.2]; exact Nat.le_refl _
 | h+1,z,l,first,pre,w,fs,k,i,hp=>by
  obtain⟨k,u,la,m,lb,stk',k1,k2,k3,k4,rfl,k6,k7,k8,k9,k10⟩:=hp;cases pre with
  | nil=>
   have:=(Pth.le k10).2;simp at k8;rw[k8.2] at this;simp at this
  | cons fr pre=>
   simp only[List.cons_append,List.cons.injEq] at k8;obtain⟨rfl,rfl⟩:=k8;have:=Pth.items k10;simp only[List.length_append];omega
theorem rtake_eq {h:Nat} {z:Nd} {l:List El} {i:Nat} {stk:List Fr} (hp:Pth h z l 0 stk i) (hf:Fresh stk) (hi:i<l.length) (hb:l.length≤900000) (hh:h≤400) (K:El→List Fr→Option R) :
 ∃ stk2,rtake stk K=K l[i] stk2∧Pth h z l 0 stk2 (i+1):=by
 obtain⟨pre,w,fs,k,hs,h1,h2⟩:=hp.top;obtain⟨pre',w',fs',k',hs',h3⟩:=hf;have hlen:=hp.le.2;rw[hs] at hs';obtain⟨rfl,e⟩:=List.append_inj' hs' rfl;simp only[List.cons.injEq,and_true,wFr.mk.injEq,Option.some.injEq] at e;obtain⟨e1,_,e3⟩:=e;have:=cN_inj _ _ e1;subst this;obtain rfl:k=k':=by omega
 obtain⟨h4,h5,h6⟩:=h2 h3;subst hs;have hwl:=hp.items;rw[List.length_append,List.length_singleton] at hlen;obtain⟨g1,g2⟩:=top_eq pre ⟨some (c_tNd w),fs,(k:Int)⟩ (by omega);refine⟨_,?_,h6⟩;unfold rtake;rw[g1,bnd_some',g2,bnd_some',bnd_some'];dsimp only;rw[oN,bnd_some',idx_of (h5.symm.trans (List.getElem?_eq_getElem hi)),bnd_some',Int.toNat_natCast,set_top,w64_id ⟨by omega,by omega⟩,show ((k+1:Nat):Int)=(k:Int)+1 by omega]
theorem rstep_eq {h:Nat} {z:Nd} {l:List El} {i:Nat} {stk:List Fr} (hp:Pth h z l 0 stk i) (hw:wd z≤6) (hi:i<l.length) (hb:l.length≤900000) (hh:h≤400) (K:El→List Fr→Option R) :
 ∃ stk2,rstep stk K=K l[i] stk2∧Pth h z l 0 stk2 (i+1):=by
 obtain⟨pre,w,fs,k,hs,h1,h2⟩:=hp.top;have hlen:=hp.le.2;rw[hs,List.length_append,List.length_singleton] at hlen;obtain⟨g1,g2⟩:=top_eq pre ⟨some (c_tNd w),fs,(k:Int)⟩ (by omega);rw[← hs] at g1 g2;unfold rstep;rw[g1,bnd_some',g2,bnd_some',bnd_some'];dsimp only;rw[oN,bnd_some'];by_cases c:k<w.fItems.length
 ·rw[if_neg (by omega),bnd_some'];exact rtake_eq hp ⟨pre,w,fs,k,hs,c⟩ hi hb hh K
 ·have hk:k=w.fItems.length:=by omega
  subst hk;obtain⟨stk3,f1,f2,f3⟩:=forth_eq hs hp hw hi hb hh;rw[if_pos rfl,f1,bnd_some',bnd_some'];exact rtake_eq f2 f3 hi hb hh K
def goR {σ τ:Type} (y:Int→El→σ→Option (σ ⊕ τ)) (fin:σ→τ):List El→Int→σ→Option τ
 | [],_,s=>some (fin s)
 | x::xs,i,s=>bnd (y i x s) fun r=>match r with
  | .inl s'=>goR y fin xs (i+1) s'
  | .inr t=>some t
theorem range_loop {S σ τ:Type} {f:S→Option (Lp S τ)} (mk:Int→List Fr→σ→S) (y:Int→El→σ→Option (σ ⊕ τ)) (fin:σ→τ) (j:Nat) {h:Nat} {z:Nd} {l:List El} (hw:wd z≤6) (hb:l.length≤900000) (hh:h≤400) (hj:j≤l.length)
 (hf1:∀ (i:Nat) stk s,i<j→f (mk (i:Int) stk s)=rstep stk fun x st'=>bnd (y (i:Int) x s) fun r=>match r with | .inl s'=>some (.next (mk (w64 ((i:Int)+1)) st' s')) | .inr t=>some (.done t))
 (hf2:∀ stk s,f (mk (j:Int) stk s)=some (.done (fin s))):∀ (n i:Nat) stk s t,i+n=j→Pth h z l 0 stk i→goR y fin ((l.take j).drop i) (i:Int) s=some t→loop f (mk (i:Int) stk s)=some t:=by
 intro n
 induction n with
 | zero=>
  intro i stk s t hn hp hg;obtain rfl:i=j:=by omega
  rw[List.drop_of_length_le (by rw[List.length_take]; omega)] at hg;obtain rfl:=Option.some.inj (show some (fin s)=some t from hg);exact loop_done (hf2 stk s)
 | succ n ih=>
  intro i stk s t hn hp hg;have hil:i<l.length:=by omega
  have hd:(l.take j).drop i=l[i]::(l.take j).drop (i+1):=by
   rw[List.drop_eq_getElem_cons (by rw[List.length_take]; omega),List.getElem_take]
  rw[hd] at hg;obtain⟨stk2,s1,s2⟩:=rstep_eq hp hw hil hb hh (fun x st'=>bnd (y (i:Int) x s) fun r=>match r with | .inl s'=>some (Lp.next (mk (w64 ((i:Int)+1)) st' s')) | .inr t=>some (Lp.done t):El→List Fr→Option (Lp S τ));have e:=hf1 i stk s (by omega);rw[s1,w64_id ⟨by omega,by omega⟩] at e;unfold goR at hg;cases hy:y (i:Int) l[i] s with
  | none=>rw[hy] at hg; cases hg
  | some r=>
   rw[hy] at hg e;cases r with
   | inl s'=>exact loop_next e (ih (i+1) stk2 s' t (by omega) s2 (by simpa using hg))
   | inr u=>
    obtain rfl:=Option.some.inj (show some u=some t from hg);exact loop_done e
end
def stA (n:Nat) (i:Int):Nat:=min i.toNat n
def stB (n:Nat) (i j:Int):Nat:=max (stA n i) (stA n j)
theorem stretch_eq (t:tTr) (l:List El) (ht:IsT t l) (i j:Int):walk_stretch_row_Row t i j=some ((stA l.length i:Int),(stB l.length i j:Int)):=by
 unfold walk_stretch_row_Row;rw[Len_eq t l ht,bnd_some',bnd_some',bnd_some',bnd_some'];unfold stB stA;congr 2 <;> omega
theorem root_eq {h:Nat} {z:Nd} {l:List El} (hr:Rt h z l):tree_Tree_row_Row_Root ⟨some (c_tNd z)⟩=some (.inr (z.fKids,z.fItems,z.fN)):=by
 unfold tree_Tree_row_Row_Root;rw[bnd_some'];dsimp only;rw[oN,bnd_some']
theorem wRange_eq (t:tTr) (l:List El) (ht:IsT t l) (i j:Int):walk_Range_row_Row t i j=some ((stA l.length i:Int),(stB l.length i j:Int),t.fRoot):=by
 unfold walk_Range_row_Row;rw[stretch_eq t l ht,bnd_some']
theorem goAll:∀ (l:List El) (i:Int) (acc:List El),acc.length+l.length≤800000→goR (fun i x (s:List El)=>bnd (walk_All_row_Row_r0 i x s) fun s'=>some (.inl s':List El ⊕ List El)) id l i acc=some (acc++l)
 | [],i,acc,_=>by simp[goR]
 | x::l,i,acc,h=>by
  simp only[List.length_cons] at h;unfold goR walk_All_row_Row_r0;rw[app_of (by simp; omega),bnd_some',bnd_some',bnd_some'];dsimp only;have:=goAll l (i+1) (acc++[x]) (by simp; omega);unfold walk_All_row_Row_r0 at this;rw[this]; simp
theorem wAll_eq (t:tTr) (l:List El) (ht:IsT t l) (hl:l.length≤800000):walk_All_row_Row t=some l:=by
 unfold walk_All_row_Row;rw[Len_eq t l ht,bnd_some',mkc_of ⟨by omega,by omega⟩,bnd_some',bnd_some',wRange_eq t l ht,bnd_some'];dsimp only;rw[show stA l.length 0=0 by unfold stA; simp,show stB l.length 0 (l.length:Int)=l.length by unfold stB stA; omega];unfold walk_Range_row_Row_1;rcases ht with ⟨rfl,rfl⟩|⟨h,z,rfl,hr⟩
 ·rfl
 ·have hpos:0<l.length:=List.length_pos_iff.2 hr.2.2.2;have hlow:=hr.low (by omega);obtain⟨stk,d1,d2,d3⟩:=down_eq (first:=0) (i:=0) hr.1 hr.2.1 hpos (by omega) (by omega);rw[if_neg (by omega)];dsimp only;rw[root_eq hr,bnd_some'];dsimp only;have hg:=goAll l 0 [] (by simp; omega);have hlp:=range_loop (f:=walk_Range_row_Row_1.l1 (l.length:Int)) (fun i stk (s:List El)=>(i,s,stk)) (fun i x (s:List El)=>bnd (walk_All_row_Row_r0 i x s) fun s'=>some (.inl s':List El ⊕ List El)) id l.length hr.2.1 (by omega) (show h≤400 by omega) (Nat.le_refl _) (fun i stk s hi=>by
   have e:walk_Range_row_Row_1.l1 (l.length:Int) ((i:Int),s,stk)=if (i:Int)<(l.length:Int) then rstep stk (fun x st'=>bnd (walk_All_row_Row_r0 (i:Int) x s) fun x39=>some (Lp.next (w64 ((i:Int)+1),x39,st'))) else some (Lp.done s):=rfl;rw[e,if_pos (by omega)];congr 1;funext x st';cases walk_All_row_Row_r0 (i:Int) x s <;> rfl) (fun stk s=>by
   have e:walk_Range_row_Row_1.l1 (l.length:Int) ((l.length:Int),s,stk)=if (l.length:Int)<(l.length:Int) then rstep stk (fun x st'=>bnd (walk_All_row_Row_r0 (l.length:Int) x s) fun x39=>some (Lp.next (w64 ((l.length:Int)+1),x39,st'))) else some (Lp.done s):=rfl;rw[e,if_neg (by omega)]; rfl) l.length 0 stk [] l (by omega) d2 (by rw[List.take_length,List.drop_zero]; simpa using hg)
  rw[show (((0:Nat)+0:Nat):Int)=((0:Nat):Int) from rfl,show ((0:Nat):Int)=0 from rfl] at d1;rw[show ((0:Nat):Int)=0 from rfl] at hlp ⊢;rw[d1,bnd_some',hlp,bnd_some',bnd_some']
theorem cut11_eq (a:List UInt8) (n:Nat):law11_Cut a (n:Int)=some (a.take n):=by
 unfold law11_Cut;by_cases h:a.length>n
 ·rw[if_pos (by omega),cut_of ⟨by omega,by omega,by omega⟩,bnd_some']; simp
 ·rw[if_neg (by omega),List.take_of_length_le (by omega)]
theorem rsF_le (b:List UInt8) (hb:b.length≤2000000):∀ n i,∀ x∈rsF b n i,x≤b.length:=by
 intro n
 induction n with
 | zero=>intro i x hx; cases hx
 | succ n ih=>
  intro i x hx;simp only[rsF] at hx;by_cases c:i<b.length
  ·rw[if_pos c] at hx;rcases List.mem_cons.1 hx with rfl|hx
   ·omega
   ·exact ih _ _ hx
  ·rw[if_neg c] at hx; cases hx
theorem rs_le (b:List UInt8) (hb:b.length≤2000000):∀ x∈rs b,x≤b.length:=rsF_le b hb _ _
def zr:row_Row:=⟨[],0,false⟩
def enE (w:List UInt8) (i:Nat):Int:=(endF w (fs w i).2).1
def rowsW (w:List UInt8):List row_Row:=(rs w).map fun i=>(ldR w i).1
def prowsW (w:List UInt8):List ref08_Row:=(rs w).map fun i=>(ldP w i).1
def okW (w:List UInt8) (l:List Nat):Bool:=l.all fun i=>(ldR w i).2==0
def tailE (w:List UInt8) (l:List Nat):Bool:=match l.getLast? with
| none=>false
| some i=>!(enE w i==0)
def firstE (w:List UInt8):List Nat→Int
| []=>2
| i::l=>if enE w i=0 then firstE w l else enE w i
theorem firstE_cons (w:List UInt8) (i:Nat) (l:List Nat):firstE w (i::l)=if enE w i=0 then firstE w l else enE w i:=rfl
theorem tailE_snoc (w:List UInt8) (l:List Nat) (i:Nat):tailE w (l++[i]) = !(enE w i==0):=by simp[tailE]
theorem refused_eq (c:Int):grid_refused c=some (⟨⟨none⟩,false,2⟩,c,[]):=rfl
theorem ld_same (w:List UInt8) (i:Nat):(ldP w i).2=(ldR w i).2:=by
 unfold ldR ldP;split
 ·rfl
 ·split <;> rfl
theorem gridLoop (w:List UInt8) (hb:w.length≤4096) (l:List Nat) (hl:∀ x∈l,x≤w.length) (hn:l.length≤400) :
 ∃ t,loop (grid_Load.l2 (l.map (sRow w))) (0,0,List.replicate l.length zr)=some t∧((okW w l=true∧t=Ex.brk (l.map fun i=>(ldR w i).1))∨(okW w l=false∧∃ c,c≠0∧t=Ex.ret (Sum.inl (⟨⟨none⟩,false,2⟩,c,[])))):=by
 refine loop_for (f:=grid_Load.l2 (l.map (sRow w))) (σ:=List row_Row) (fun k s=>(0,k,s)) l
  (fun pre s=>s=pre.map (fun i=>(ldR w i).1)++List.replicate (l.length-pre.length) zr∧okW w pre=true)
  (fun t=>(okW w l=true∧t=Ex.brk (l.map fun i=>(ldR w i).1))∨(okW w l=false∧∃ c,c≠0∧t=Ex.ret (Sum.inl (⟨⟨none⟩,false,2⟩,c,[]))))
  (fun pre j suf s hs hI=>?_) (fun s hI=>?_) ⟨by simp,rfl⟩
 ·obtain⟨hI1,hI2⟩:=hI;have hlen:l.length=pre.length+(suf.length+1):=by rw[hs]; simp
  have hj:j≤w.length:=hl j (by rw[hs]; simp);have hidx:idx l (pre.length:Int)=some j:=by rw[hs]; exact idx_at pre j suf
  rw[show l.length-pre.length=suf.length+1 by omega,List.replicate_succ] at hI1;have hx:idx s (pre.length:Int)=some zr:=by rw[hI1]; exact idx_of (by rw[List.getElem?_append_right (by simp)]; simp)
  have hset:s.set pre.length (ldR w j).1=pre.map (fun i=>(ldR w i).1)++(ldR w j).1::List.replicate suf.length zr:=by rw[hI1]; exact set_at _ _ _ _ _ (by simp)
  unfold grid_Load.l2;dsimp only;rw[if_pos (by simp; omega),idx_map,hidx];simp only[Option.map_some,bnd_some'];rw[rowLoad_eq w (by omega) j hj,bnd_some',hx,bnd_some',Int.toNat_natCast,refused_eq];by_cases c:(ldR w j).2=0
  ·rw[if_pos c,c,w64_id ⟨by omega,by omega⟩];refine .inl ⟨_,rfl,?_,?_⟩
   ·rw[hset,show l.length-(pre++[j]).length=suf.length by simp; omega]; simp
   ·unfold okW at hI2 ⊢; rw[List.all_append,hI2]; simp[c]
  ·rw[if_neg c];refine .inr ⟨_,rfl,.inr ⟨?_,_,c,rfl⟩⟩;unfold okW; rw[hs,List.all_append]; simp[c]
 ·obtain⟨hI1,hI2⟩:=hI;refine⟨Ex.brk s,?_,.inl ⟨hI2,?_⟩⟩
  ·unfold grid_Load.l2;dsimp only;rw[if_neg (by simp)]
  ·rw[hI1]; simp
theorem endsLoop (w:List UInt8) (l:List Nat) (z:scan_Row) (hn:l.length≤400) :
 ∃ t,loop (grid_ends.l1 (l.map (sRow w)) z) 0=some t∧((firstE w l=2∧t=Ex.brk ())∨t=Ex.ret ((!(z.fEnd==0)),firstE w l)):=by
 have key:∀ (suf pre:List Nat),l=pre++suf→∃ t,loop (grid_ends.l1 (l.map (sRow w)) z) (pre.length:Int)=some t∧((firstE w suf=2∧t=Ex.brk ())∨t=Ex.ret ((!(z.fEnd==0)),firstE w suf)):=by
  intro suf
  induction suf with
  | nil=>
   intro pre h;refine⟨_,loop_done (t:=Ex.brk ()) ?_,.inl ⟨rfl,rfl⟩⟩;unfold grid_ends.l1;rw[if_neg (by rw[h]; simp)]
  | cons x suf ih=>
   intro pre h;have hlen:l.length=pre.length+(suf.length+1):=by rw[h]; simp
   have hx:idx (l.map (sRow w)) (pre.length:Int)=some (sRow w x):=by rw[idx_map,h,idx_at]; rfl
   have hu:grid_ends.l1 (l.map (sRow w)) z (pre.length:Int)=if enE w x=0 then some (Lp.next ((pre.length:Int)+1)) else some (Lp.done (Ex.ret ((!(z.fEnd==0)),enE w x))):=by
    unfold grid_ends.l1;rw[if_pos (by simp; omega),hx,bnd_some',w64_id ⟨by omega,by omega⟩];rfl
   unfold firstE;by_cases c:enE w x=0
   ·rw[if_pos c] at hu ⊢;obtain⟨t,t1,t2⟩:=ih (pre++[x]) (by rw[h]; simp);exact⟨t,loop_next hu (by simpa using t1),t2⟩
   ·rw[if_neg c] at hu ⊢;exact⟨_,loop_done hu,.inr rfl⟩
 exact key l [] rfl
theorem ends_eq (w:List UInt8) (l:List Nat) (hn:l.length≤400):grid_ends (l.map (sRow w))=some (tailE w l,firstE w l):=by
 unfold grid_ends;by_cases h:l=[]
 ·subst h; rfl
 ·have hp:0<l.length:=List.length_pos_iff.2 h;rw[List.length_map,if_neg (by omega),w64_id ⟨by omega,by omega⟩];obtain⟨q,x,rfl⟩:∃ q x,l=q++[x]:=⟨l.dropLast,l.getLast h,(List.dropLast_concat_getLast h).symm⟩;rw[show ((q++[x]).length:Int)-1=(q.length:Int) by simp,idx_map,idx_at];obtain⟨t,t1,t2⟩:=endsLoop w (q++[x]) (sRow w x) hn;simp only[Option.map_some,bnd_some'];rw[t1,bnd_some',tailE_snoc];rcases t2 with ⟨q1,rfl⟩|rfl
  ·dsimp only; rw[q1]; rfl
  ·rfl
theorem refLoop (w:List UInt8) (hb:w.length≤4096) (l:List Nat) (hl:∀ x∈l,x≤w.length) (hn:l.length≤400) :
 ∃ t,loop (ref11_Load.l1 w (l.map (rRow w))) (0,false,[])=some t∧((okW w l=true∧t=Ex.brk (tailE w l,l.map fun i=>(ldP w i).1))∨(okW w l=false∧∃ c,c≠0∧t=Ex.ret (⟨[],false,2⟩,c))):=by
 refine loop_for (f:=ref11_Load.l1 w (l.map (rRow w))) (σ:=Bool × List ref08_Row) (fun k s=>(k,s.1,s.2)) l
  (fun pre s=>s=(tailE w pre,pre.map (fun i=>(ldP w i).1))∧okW w pre=true)
  (fun t=>(okW w l=true∧t=Ex.brk (tailE w l,l.map fun i=>(ldP w i).1))∨(okW w l=false∧∃ c,c≠0∧t=Ex.ret (⟨[],false,2⟩,c)))
  (fun pre j suf s hs hI=>?_) (fun s hI=>?_) (s0:=(false,[])) ⟨rfl,rfl⟩
 ·obtain⟨hI1,hI2⟩:=hI;have hlen:l.length=pre.length+(suf.length+1):=by rw[hs]; simp
  have hj:j≤w.length:=hl j (by rw[hs]; simp);have hidx:idx l (pre.length:Int)=some j:=by rw[hs]; exact idx_at pre j suf
  subst hI1;unfold ref11_Load.l1;dsimp only;rw[if_pos (by simp; omega),idx_map,hidx];simp only[Option.map_some,bnd_some'];rw[refLoad_eq w (by omega) j hj,bnd_some',ld_same];by_cases c:(ldR w j).2=0
  ·rw[if_pos c,app_of (by simp; omega),bnd_some',w64_id ⟨by omega,by omega⟩];refine .inl ⟨(_,_),rfl,?_,?_⟩
   ·rw[tailE_snoc,List.map_append]; rfl
   ·unfold okW at hI2 ⊢; rw[List.all_append,hI2]; simp[c]
  ·rw[if_neg c];refine .inr ⟨_,rfl,.inr ⟨?_,_,c,rfl⟩⟩;unfold okW; rw[hs,List.all_append]; simp[c]
 ·obtain⟨hI1,hI2⟩:=hI;subst hI1;refine⟨_,?_,.inl ⟨hI2,rfl⟩⟩;unfold ref11_Load.l1;dsimp only;rw[if_neg (by simp)]
theorem refBack (w:List UInt8) (l:List Nat) (hn:l.length≤400):∀ (k:Nat),k≤l.length→loop (ref11_Load.l2 (l.map (rRow w))) ((k:Int)-1,firstE w (l.drop k))=some (firstE w l):=by
 intro k
 induction k with
 | zero=>
  intro _;refine loop_done ?_;unfold ref11_Load.l2;dsimp only;rw[if_neg (by omega)]; rfl
 | succ k ih=>
  intro hk;refine loop_next ?_ (ih (by omega));have hd:l.drop k=l[k]::l.drop (k+1):=List.drop_eq_getElem_cons (by omega);have hx:idx (l.map (rRow w)) ((k+1:Nat)-1:Int)=some (rRow w l[k]):=by
   rw[show ((k+1:Nat):Int)-1=(k:Int) by omega,idx_map,idx_of (List.getElem?_eq_getElem (by omega))]; rfl
  unfold ref11_Load.l2;dsimp only;rw[if_pos (by omega),hx,bnd_some',w64_id ⟨by omega,by omega⟩,hd,show ((k+1:Nat):Int)-1-1=(k:Int)-1 by omega];show (bnd (if enE w l[k]=0 then _ else _) _)=_;rw[firstE_cons];by_cases c:enE w l[k]=0
  ·rw[if_pos c,if_pos c]; rfl
  ·rw[if_neg c,if_neg c]; rfl
def badG:grid_Grid:=⟨⟨none⟩,false,2⟩
def isBad (w:List UInt8):Bool:=decide ((rs w).length>400) || !(okW w (rs w))
theorem load_bad (w:List UInt8) (hb:w.length≤4096) (h:isBad w=true):(∃ c,c≠0∧grid_Load w=some (.inl (badG,c,[])))∧∃ c,c≠0∧ref11_Load w=some (⟨[],false,2⟩,c):=by
 unfold grid_Load ref11_Load;rw[New_eq w hb,bnd_some',sAll_eq w (by omega),rAll_eq w (by omega),if_neg (by omega:¬ (w.length:Int)>4096)];dsimp only;rw[if_pos rfl,bnd_some',bnd_some',List.length_map,List.length_map];by_cases c:(rs w).length>400
 ·rw[if_pos (by omega),if_pos (by omega),refused_eq,bnd_some'];exact⟨⟨6,by decide,rfl⟩,6,by decide,rfl⟩
 ·rw[if_neg (by omega),if_neg (by omega),mkz_of (by omega),bnd_some',Int.toNat_natCast];obtain⟨t,t1,t2⟩:=gridLoop w hb (rs w) (rs_le w (by omega)) (by omega);obtain⟨u,u1,u2⟩:=refLoop w hb (rs w) (rs_le w (by omega)) (by omega);have hk:okW w (rs w)=false:=by unfold isBad at h; simpa [c] using h
  rw[hk] at t2 u2;obtain⟨_,x,x0,rfl⟩:=t2.resolve_left (fun h=>by cases h.1);obtain⟨_,y,y0,rfl⟩:=u2.resolve_left (fun h=>by cases h.1);rw[show (⟨[],0,false⟩:row_Row)=zr from rfl,t1,u1,bnd_some',bnd_some'];exact⟨⟨x,x0,rfl⟩,y,y0,rfl⟩
theorem load_ok (w:List UInt8) (hb:w.length≤4096) (h:isBad w=false):∃ t,IsT t (rowsW w)∧grid_Load w=some (.inl (⟨t,tailE w (rs w),firstE w (rs w)⟩,0,w))∧ref11_Load w=some (⟨prowsW w,tailE w (rs w),firstE w (rs w)⟩,0):=by
 have c:¬ (rs w).length>400:=fun c=>by unfold isBad at h; simp[c] at h
 have hk:okW w (rs w)=true:=by unfold isBad at h; simpa [c] using h
 obtain⟨q,q1,q2⟩:=Of_eq (rowsW w) (by unfold rowsW; simp; omega);refine⟨q,q2,?_⟩;unfold grid_Load ref11_Load;rw[New_eq w hb,bnd_some',sAll_eq w (by omega),rAll_eq w (by omega),if_neg (by omega:¬ (w.length:Int)>4096)];dsimp only;rw[if_pos rfl,bnd_some',bnd_some',List.length_map,List.length_map,if_neg (by omega),if_neg (by omega),mkz_of (by omega),bnd_some',Int.toNat_natCast];obtain⟨t,t1,t2⟩:=gridLoop w hb (rs w) (rs_le w (by omega)) (by omega);obtain⟨u,u1,u2⟩:=refLoop w hb (rs w) (rs_le w (by omega)) (by omega);rw[hk] at t2 u2;obtain⟨_,rfl⟩:=t2.resolve_right (fun h=>by cases h.1);obtain⟨_,rfl⟩:=u2.resolve_right (fun h=>by cases h.1);have hbk:=refBack w (rs w) (by omega) (rs w).length (Nat.le_refl _);rw[List.drop_length] at hbk;rw[show (⟨[],0,false⟩:row_Row)=zr from rfl,t1,u1,bnd_some',bnd_some'];dsimp only;rw[show (rs w).map (fun i=>(ldR w i).1)=rowsW w from rfl,q1,bnd_some',ends_eq w _ (by omega),bnd_some',w64_id ⟨by omega,by omega⟩];rw[show firstE w []=2 from rfl] at hbk;rw[hbk,bnd_some'];exact⟨rfl,rfl⟩
theorem begun_bad (w:List UInt8) (hb:w.length≤4096) (h:isBad w=true):law11_Begun w=some (.inl (badG,⟨[],false,2⟩,false,[])):=by
 obtain⟨⟨c,c0,e1⟩,d,d0,e2⟩:=load_bad w hb h;unfold law11_Begun;rw[e1,bnd_some'];dsimp only;rw[e2,bnd_some',if_neg c0]; rfl
theorem begun_ok (w:List UInt8) (hb:w.length≤4096) (h:isBad w=false):∃ t,IsT t (rowsW w)∧law11_Begun w=some (.inl (⟨t,tailE w (rs w),firstE w (rs w)⟩,⟨prowsW w,tailE w (rs w),firstE w (rs w)⟩,true,w)):=by
 obtain⟨t,t1,e1,e2⟩:=load_ok w hb h;refine⟨t,t1,?_⟩;unfold law11_Begun;rw[e1,bnd_some'];dsimp only;rw[e2,bnd_some',if_pos rfl]; rfl
abbrev Dr:=List Nat × Int × Bool
def dR (w:List UInt8) (d:Dr):row_Row:=⟨d.1.map (kc w),d.2.1,d.2.2⟩
def dW (w:List UInt8) (d:Dr):ref08_Row:=⟨d.1.map (pc w),d.2.1,d.2.2⟩
def okD (w:List UInt8) (d:Dr):Prop:=(∀ j∈d.1,j≤w.length∧short w j=true)∧d.1.length≤40
theorem begD (w:List UInt8) (hb:w.length≤4096) (h:isBad w=false):∃ D:List Dr,D.length≤400∧(∀ d∈D,okD w d)∧rowsW w=D.map (dR w)∧prowsW w=D.map (dW w):=by
 have c:¬ (rs w).length>400:=fun c=>by unfold isBad at h; simp[c] at h
 have hk:okW w (rs w)=true:=by unfold isBad at h; simpa [c] using h
 have hd:∀ i∈rs w,(fs w i).1.length≤40∧(fs w i).1.all (short w)=true:=fun i hi=>by
  have:=List.all_eq_true.1 hk i hi;unfold ldR at this;by_cases h40:(fs w i).1.length>40
  ·rw[if_pos h40] at this; simp at this
  ·rw[if_neg h40] at this;by_cases hs:(fs w i).1.all (short w)=true
   ·exact⟨by omega,hs⟩
   ·rw[if_neg hs] at this; simp at this
 refine⟨(rs w).map fun i=>((fs w i).1,(sRow w i).fEnd,false),by simp; omega,fun d hd'=>?_,?_,?_⟩
 ·obtain⟨i,hi,rfl⟩:=List.mem_map.1 hd';obtain⟨h1,h2⟩:=hd i hi;obtain⟨s1,_⟩:=starts_spec w (by omega) i (rs_le w (by omega) i hi);exact⟨fun j hj=>⟨s1 j hj,List.all_eq_true.1 h2 j hj⟩,h1⟩
 ·unfold rowsW;rw[List.map_map];refine List.map_congr_left fun i hi=>?_;obtain⟨h1,h2⟩:=hd i hi;unfold ldR;rw[if_neg (by omega),if_pos h2]; rfl
 ·unfold prowsW;rw[List.map_map];refine List.map_congr_left fun i hi=>?_;obtain⟨h1,h2⟩:=hd i hi;unfold ldP;rw[if_neg (by omega),if_pos h2]; rfl
theorem repL_set {α:Type} (l:List α) (i:Nat) (x:α) (h:i<l.length):repL l i (i+1) [x]=l.set i x:=by
 unfold repL;rw[List.set_eq_take_append_cons_drop,if_pos h]; simp
theorem gridRow_eq (t:tTr) (tl:Bool) (e:Int) (l:List row_Row) (ht:IsT t l) (hl:l.length≤4000) (i:Nat) (hi:i<l.length):grid_Grid_Row ⟨t,tl,e⟩ (i:Int)=some (l[i],true):=by
 unfold grid_Grid_Row;dsimp only;rw[(At_eq t l ht (by omega) (i:Int)).2 ⟨by omega,by omega⟩,bnd_some'];simp only[Int.toNat_natCast]
theorem gridPut_eq (t:tTr) (tl:Bool) (e:Int) (l:List row_Row) (ht:IsT t l) (hl:l.length≤4000) (i:Nat) (hi:i<l.length) (x:row_Row):∃ u,grid_Grid_Put ⟨t,tl,e⟩ (i:Int) x=some (⟨u,tl,e⟩,0)∧IsT u (l.set i x):=by
 obtain⟨u,h1,h2⟩:=(Set_eq t l ht (by omega) (i:Int) x).2 ⟨by omega,by omega⟩;refine⟨u,?_,by rw[← repL_set l i x hi]; exact h2⟩;unfold grid_Grid_Put grid_Grid_with;dsimp only;rw[h1,bnd_some'];dsimp only;rw[if_pos rfl,bnd_some']
theorem refPut_eq (g:ref11_Grid) (i:Nat) (hi:i<g.fRows.length) (hl:g.fRows.length≤4000) (x:ref08_Row):ref11_Put g (i:Int) x=some (⟨g.fRows.set i x,g.fTail,g.fEnd⟩,0):=by
 unfold ref11_Put ref11_Has;rw[if_pos (by omega),bnd_some',bnd_some',if_pos (decide_eq_true (by omega))];have hlp:=loop_nat (f:=ref11_Put.l1 g (i:Int) x) (fun k (s:List ref08_Row)=>(k,s)) g.fRows.length (fun k=>(g.fRows.set i x).take k) (t:=g.fRows.set i x) (fun k hk=>by
  unfold ref11_Put.l1;dsimp only;have hks:k<(g.fRows.set i x).length:=by rw[List.length_set]; exact hk
  rw[if_pos (by omega),idx_nat (List.getElem?_eq_getElem hk),bnd_some',List.take_succ_eq_append_getElem hks];have hlen:((g.fRows.set i x).take k).length≤4000:=by rw[List.length_take,List.length_set]; omega
  by_cases c:k=i
  ·subst c;rw[if_pos rfl,bnd_some'];dsimp only;rw[app_of (by simp only[List.length_cons,List.length_nil]; omega),bnd_some',w64_id ⟨by omega,by omega⟩,List.getElem_set_self]
  ·rw[if_neg (by omega),bnd_some'];dsimp only;rw[app_of (by simp only[List.length_cons,List.length_nil]; omega),bnd_some',w64_id ⟨by omega,by omega⟩,List.getElem_set_ne (by omega)]) (by
  unfold ref11_Put.l1;dsimp only;rw[if_neg (by omega),List.take_of_length_le (by rw[List.length_set]; omega)])
 rw[show loop (ref11_Put.l1 g (i:Int) x) (0,[])=_ from hlp,bnd_some'];rfl
def hid (d:Dr):Dr:=(d.1,d.2.1,true)
theorem rowHide_eq (w:List UInt8) (d:Dr) (hd:okD w d):row_Row_Hide (dR w d) true=some (dR w (hid d)):=by
 unfold row_Row_Hide slices_Clone_cell_Cell_cell_Cell;have:(dR w d).fCells.length≤40:=by have:=hd.2; simp only[dR,List.length_map]; omega
 rw[app_of (by simp; omega),bnd_some',bnd_some'];rfl
theorem set_ok {w:List UInt8} {D:List Dr} (h:∀ d∈D,okD w d) {i:Nat} (hi:i<D.length):∀ d∈D.set i (hid D[i]),okD w d:=fun d hd=>by
 rcases List.mem_or_eq_of_mem_set hd with hd|rfl
 ·exact h d hd
 ·have:=h D[i] (List.getElem_mem hi);exact this
theorem wrap64 {i:Nat} (h:i<100):IntKind.wrap .u64 (i:Int)=(i:Int):=by
 unfold IntKind.wrap;simp only[IntKind.bits,IntKind.signed,Bool.false_and,Bool.false_eq_true,if_false];omega
theorem hide_ok (a0:List UInt8) (bits:Int) (h:isBad (a0.take 1500)=false):∃ (t:tTr) (D:List Dr) (tl:Bool) (e:Int),law16_Hide a0 bits=some (.inl (⟨t,tl,e⟩,⟨D.map (dW (a0.take 1500)),tl,e⟩,true,a0.take 1500))∧IsT t (D.map (dR (a0.take 1500)))∧D.length≤400∧∀ d∈D,okD (a0.take 1500) d:=by
 have hw:(a0.take 1500).length≤1500:=by simp; omega
 unfold law16_Hide;rw[show law11_Cut a0 1500=_ from cut11_eq a0 1500,bnd_some'];generalize a0.take 1500=w at h hw ⊢;obtain⟨t,t1,t2⟩:=begun_ok w (by omega) h;obtain⟨D,d1,d2,d3,d4⟩:=begD w (by omega) h;rw[d3] at t1;rw[t2,bnd_some',d4];dsimp only;rw[if_pos rfl];generalize tailE w (rs w)=tl;generalize firstE w (rs w)=e;obtain⟨q,q1,r,D',rfl,q3,q4,q5⟩:=loop_ind (f:=law16_Hide.l1 bits) (fun s:Int × (Option NP) × Bool × Int × (List ref08_Row) × Bool × Int=>∃ (i:Nat) (r:Option NP) (D':List Dr),s=((i:Int),r,tl,e,D'.map (dW w),tl,e)∧IsT ⟨r⟩ (D'.map (dR w))∧D'.length=D.length∧(∀ d∈D',okD w d)∧i≤64) (fun s=>64-s.1.toNat) (fun q=>∃ (r:Option NP) (D':List Dr),q=(r,tl,e,D'.map (dW w),tl,e)∧IsT ⟨r⟩ (D'.map (dR w))∧D'.length=D.length∧∀ d∈D',okD w d) (fun s hs=>by
  obtain⟨i,r,D',rfl,s1,s2,s3,s4⟩:=hs;unfold law16_Hide.l1 grid_Grid_Len;dsimp only;have hml:(D'.map (dR w)).length=D'.length:=List.length_map _;have hmw:(D'.map (dW w)).length=D'.length:=List.length_map _;rw[Len_eq _ _ s1,bnd_some',bnd_some',hml];by_cases c:i<D'.length∧i<64
  ·rw[if_pos (by omega),decide_eq_true (by omega),bnd_some',if_pos rfl,wrap64 (by omega),shv_of,bnd_some'];by_cases b:IntKind.wrap .u64 (iand .u64 (bits.fdiv (2 ^ (min i IntKind.u64.bits))) 1)=0
   ·rw[if_pos b,bnd_some'];dsimp only;rw[w64_id ⟨by omega,by omega⟩];refine .inl ⟨_,rfl,⟨i+1,r,D',rfl,s1,s2,s3,by omega⟩,by simp only[Int.toNat_natCast]; omega⟩
   ·rw[if_neg b,gridRow_eq _ _ _ _ s1 (by omega) i (by omega),bnd_some'];dsimp only;rw[List.getElem_map,rowHide_eq w _ (s3 _ (List.getElem_mem c.1)),bnd_some'];obtain⟨u,u1,u2⟩:=gridPut_eq _ tl e _ s1 (by omega) i (by omega) (dR w (hid D'[i]));rw[u1,bnd_some',idx_nat (List.getElem?_eq_getElem (by omega:i<(D'.map (dW w)).length)),bnd_some',List.getElem_map,refPut_eq ⟨D'.map (dW w),tl,e⟩ i (by show i<(D'.map (dW w)).length; omega) (by show (D'.map (dW w)).length≤4000; omega),bnd_some',bnd_some'];dsimp only;rw[w64_id ⟨by omega,by omega⟩];refine .inl ⟨_,rfl,⟨i+1,u.fRoot,D'.set i (hid D'[i]),?_,?_,by rw[List.length_set]; exact s2,set_ok s3 c.1,by omega⟩,by simp only[Int.toNat_natCast]; omega⟩
    ·rw[List.map_set]; rfl
    ·rw[List.map_set]; exact u2
  ·have hc:(if (i:Int)<(D'.length:Int) then some (decide ((i:Int)<64)) else some false:Option Bool)=some false:=by
    by_cases c1:(i:Int)<(D'.length:Int)
    ·rw[if_pos c1,decide_eq_false (by omega)]
    ·rw[if_neg c1]
   rw[hc,bnd_some',if_neg (by simp)];exact .inr ⟨_,rfl,r,D',rfl,s1,s2,s3⟩) (s:=(0,t.fRoot,tl,e,D.map (dW w),tl,e)) ⟨0,t.fRoot,D,rfl,t1,rfl,d2,by omega⟩
 rw[q1,bnd_some'];exact⟨⟨r⟩,D',tl,e,rfl,q3,by omega,q5⟩
theorem hide_bad (a0:List UInt8) (bits:Int) (h:isBad (a0.take 1500)=true):law16_Hide a0 bits=some (.inl (badG,⟨[],false,2⟩,false,[])):=by
 have hw:(a0.take 1500).length≤1500:=by simp; omega
 unfold law16_Hide;rw[show law11_Cut a0 1500=_ from cut11_eq a0 1500,bnd_some',begun_bad _ (by omega) h,bnd_some'];dsimp only;rw[if_neg (by simp)]
def txt (w:List UInt8) (j:Nat):List UInt8:=bytesAt w (fieldF w j).2.1
theorem txt_len (w:List UInt8) (j:Nat) (h:short w j=true):(txt w j).length≤400:=by
 have:=bytesAt_len w (fieldF w j).2.1;have:=of_decide_eq_true h;unfold txt; omega
theorem cellBytes_eq (w:List UInt8) (hw:w.length≤4096) (j:Nat) (hj:j≤w.length) (hs:short w j=true):cell_Cell_Bytes (kc w j) w=some (txt w j):=by
 obtain⟨_,_,_,h4,h5⟩:=fieldF_spec w (by omega) j hj;have hl:=of_decide_eq_true hs;exact CBytes_eq _ _ _ w (fun x hx=>by have:=h4 x hx; omega) (by omega) (by omega)
def sf (p b:Nat→UInt8) (m k i:Nat):Prop:=k≤i∧k≤m∧∀ j,j<k→p j=b (i-k+j)
theorem sf_zero (p b:Nat→UInt8) (m i:Nat):sf p b m 0 i:=⟨by omega,by omega,fun j hj=>by omega⟩
theorem sf_succ {p b:Nat→UInt8} {m k i:Nat}:sf p b m (k+1) (i+1)↔k<m∧sf p b m k i∧p k=b i:=by
 constructor
 ·rintro ⟨h1,h2,h3⟩;refine⟨by omega,⟨by omega,by omega,fun j hj=>?_⟩,?_⟩
  ·have:=h3 j (by omega);rw[this]; congr 1; omega
  ·have:=h3 k (by omega);rw[this]; congr 1; omega
 ·rintro ⟨h1,⟨h2,h3,h4⟩,h5⟩;refine⟨by omega,by omega,fun j hj=>?_⟩;by_cases c:j=k
  ·subst c; rw[h5]; congr 1; omega
  ·rw[h4 j (by omega)]; congr 1; omega
def shf (p:Nat→UInt8):Nat→UInt8:=fun j=>p (j+1)
theorem sf_down {p b:Nat→UInt8} {m k i k':Nat} (h:sf p b m k i) (hk:k'<k):sf p b m k' i↔sf p (shf p) m k' (k-1):=by
 obtain⟨h1,h2,h3⟩:=h;constructor
 ·rintro ⟨g1,g2,g3⟩;refine⟨by omega,by omega,fun j hj=>?_⟩;have a:=g3 j hj;have b':=h3 (k-k'+j) (by omega);unfold shf;rw[a,show k-1-k'+j+1=k-k'+j by omega,b'];congr 1; omega
 ·rintro ⟨g1,g2,g3⟩;refine⟨by omega,by omega,fun j hj=>?_⟩;have a:=g3 j hj;have b':=h3 (k-k'+j) (by omega);unfold shf at a;rw[a,show k-1-k'+j+1=k-k'+j by omega,b'];congr 1; omega
def mxs (p b:Nat→UInt8) (m i k:Nat):Prop:=sf p b m k i∧∀ k',sf p b m k' i→k'≤k
theorem mxs_zero (p b:Nat→UInt8) (m:Nat):mxs p b m 0 0:=⟨sf_zero _ _ _ _,fun k' h=>h.1⟩
def TabOk (p:Nat→UInt8) (m n:Nat) (t:Nat→Nat):Prop:=∀ k,1≤k→k≤n→mxs p (shf p) m (k-1) (t k)
def Dn (p b:Nat→UInt8) (m i:Nat) (c:UInt8) (k:Nat):Prop:=sf p b m k i∧∀ k',sf p b m k' i→k'<m→p k'=c→k'≤k
theorem dn_start {p b:Nat→UInt8} {m i k:Nat} {c:UInt8} (h:mxs p b m i k):Dn p b m i c k:=⟨h.1,fun k' h' _ _=>h.2 k' h'⟩
theorem dn_step {p b:Nat→UInt8} {m n i k:Nat} {c:UInt8} {t:Nat→Nat} (ht:TabOk p m n t) (h:Dn p b m i c k) (h1:1≤k) (hn:k≤n) (hc:k=m∨p k≠c):Dn p b m i c (t k)∧t k<k:=by
 obtain⟨g1,g2⟩:=ht k h1 hn;have hlt:t k<k:=by have:=g1.1; omega
 refine⟨⟨(sf_down h.1 hlt).2 g1,fun k' hs hm hp=>?_⟩,hlt⟩;have:=h.2 k' hs hm hp;by_cases e:k'=k
 ·subst e; rcases hc with hc|hc
  ·omega
  ·exact absurd hp hc
 ·exact g2 k' ((sf_down h.1 (by omega)).1 hs)
theorem dn_fin {p b:Nat→UInt8} {m i k:Nat} (hm:0<m) (h:Dn p b m i (b i) k) (hc:k=0∨(k<m∧p k=b i)):k<m∧mxs p b m (i+1) (if p k=b i then k+1 else k):=by
 refine⟨by omega,?_⟩;by_cases c:p k=b i
 ·rw[if_pos c];refine⟨sf_succ.2 ⟨by omega,h.1,c⟩,fun k' hk'=>?_⟩;cases k' with
  | zero=>omega
  | succ k'=>
   obtain⟨g1,g2,g3⟩:=sf_succ.1 hk';have:=h.2 k' g2 g1 g3;omega
 ·rw[if_neg c];have hk:k=0:=by
   rcases hc with hc|⟨_,hc⟩
   ·exact hc
   ·exact absurd hc c
  subst hk;refine⟨sf_zero _ _ _ _,fun k' hk'=>?_⟩;cases k' with
  | zero=>omega
  | succ k'=>
   obtain⟨g1,g2,g3⟩:=sf_succ.1 hk';have:=h.2 k' g2 g1 g3;have hz:k'=0:=by omega
   subst hz;exact absurd g3 c
theorem tab_snoc {p:Nat→UInt8} {m n:Nat} {t t':Nat→Nat} (ht:TabOk p m n t) (hs:∀ k,k≤n→t' k=t k) (hn:mxs p (shf p) m n (t' (n+1))):TabOk p m (n+1) t':=fun k h1 h2=>by
 by_cases c:k=n+1
 ·subst c; exact hn
 ·rw[hs k (by omega)]; exact ht k h1 (by omega)
def eqAt (p b:Nat→UInt8) (m i:Nat):Prop:=∀ j,j<m→p j=b (i+j)
theorem sf_full {p b:Nat→UInt8} {m i:Nat}:sf p b m m i↔m≤i∧eqAt p b m (i-m):=⟨fun ⟨h1,_,h3⟩=>⟨h1,h3⟩,fun ⟨h1,h3⟩=>⟨h1,Nat.le_refl _,h3⟩⟩
instance (p b:Nat→UInt8) (m i:Nat):Decidable (eqAt p b m i):=by unfold eqAt; infer_instance
def plc (p b:Nat→UInt8) (m n:Nat):List Nat:=(List.range n).filter fun i=>decide (eqAt p b m i)
theorem plc_succ (p b:Nat→UInt8) (m n:Nat):plc p b m (n+1)=plc p b m n++(if eqAt p b m n then [n] else []):=by
 unfold plc;rw[List.range_succ,List.filter_append];congr 1;by_cases c:eqAt p b m n
 ·simp[c]
 ·simp[c]
theorem plc_next {p b:Nat→UInt8} {m i k:Nat} (hm:0<m) (h:mxs p b m (i+1) k):plc p b m (i+1+1-m)=plc p b m (i+1-m)++(if k=m then [i+1-m] else []):=by
 by_cases c:k=m
 ·subst c;obtain⟨h1,h2⟩:=sf_full.1 h.1;rw[if_pos rfl,show i+1+1-k=(i+1-k)+1 by omega,plc_succ,if_pos h2]
 ·rw[if_neg c];by_cases d:m≤i+1
  ·rw[show i+1+1-m=(i+1-m)+1 by omega,plc_succ,if_neg (fun e=>?_)];have:=h.2 m (sf_full.2 ⟨d,e⟩);have:=h.1.2.1;omega
  ·rw[show i+1+1-m=0 by omega,show i+1-m=0 by omega]; simp
def at8 (l:List UInt8) (i:Nat):UInt8:=l.getD i 0
theorem at8_of {l:List UInt8} {i:Nat} {x:UInt8} (h:l[i]? = some x):at8 l i=x:=by unfold at8; rw[List.getD_eq_getElem?_getD,h]; rfl
theorem at8_get {l:List UInt8} {i:Nat} (h:i<l.length):l[i]? = some (at8 l i):=by
 have:=List.getElem?_eq_getElem h;rw[this,at8_of this]
theorem idx8 {l:List UInt8} {i:Nat} (h:i<l.length):idx l (i:Int)=some (at8 l i):=idx_nat (at8_get h)
theorem u8i {x y:UInt8}:((x.toNat:Int)=(y.toNat:Int))↔x=y:=⟨fun h=>UInt8.toNat_inj.1 (by omega),fun h=>by rw[h]⟩
def TabL (p:List UInt8) (n:Nat) (x:List Int):Prop:=x.length=p.length+1∧∃ t:Nat→Nat,TabOk (at8 p) p.length n t∧∀ k,1≤k→k≤n→x[k]? = some ((t k:Nat):Int)
theorem down_table {p:List UInt8} {x:List Int} (k0:Int) {j:Nat} (hj:j+1<p.length) (hx:TabL p (j+1) x) {k:Nat} (hk:Dn (at8 p) (shf (at8 p)) p.length j (at8 p (j+1)) k) :
 ∃ t,loop (find_table.l1 p (k0,((j+1:Nat):Int),x)) (k:Int)=some t∧∃ k':Nat,t=(k':Int)∧Dn (at8 p) (shf (at8 p)) p.length j (at8 p (j+1)) k'∧(k'=0∨at8 p k'=at8 p (j+1)):=by
 obtain⟨hl,t,ht,hx⟩:=hx;refine loop_ind (fun s:Int=>∃ k:Nat,s=(k:Int)∧Dn (at8 p) (shf (at8 p)) p.length j (at8 p (j+1)) k) (fun s=>s.toNat) (fun t=>∃ k':Nat,t=(k':Int)∧Dn (at8 p) (shf (at8 p)) p.length j (at8 p (j+1)) k'∧(k'=0∨at8 p k'=at8 p (j+1))) (fun s hs=>?_) ⟨k,rfl,hk⟩;obtain⟨k,rfl,hd⟩:=hs;have hle:k≤j:=hd.1.1;unfold find_table.l1;dsimp only;by_cases c:k=0
 ·subst c;refine .inr ⟨_,by rw[if_neg (by omega),bnd_some',if_neg (by simp)],0,rfl,hd,.inl rfl⟩
 ·rw[if_pos (by omega),idx8 hj,bnd_some',idx8 (by omega),bnd_some'];by_cases e:at8 p k=at8 p (j+1)
  ·refine .inr ⟨(k:Int),?_,k,rfl,hd,.inr e⟩;rw[e,bnd_some',if_neg (by simp)]
  ·obtain⟨h1,h2⟩:=dn_step ht hd (by omega) (by omega) (.inr e);refine .inl ⟨(t k:Int),?_,⟨t k,rfl,h1⟩,by omega⟩;have hn:¬ ((at8 p (j+1)).toNat:Int)=((at8 p k).toNat:Int):=fun h=>e (u8i.1 h).symm;rw[bnd_some',if_pos (by simpa using hn),idx_nat (hx k (by omega) (by omega)),bnd_some']
theorem down_places {p:List UInt8} {x:List Int} {b:Nat→UInt8} {c:UInt8} {i:Nat} (hx:TabL p p.length x) {k:Nat} (hk:Dn (at8 p) b p.length i c k) :
 ∃ t,loop (find_places_1.l1 p x c) (k:Int)=some t∧∃ k':Nat,t=(k':Int)∧Dn (at8 p) b p.length i c k'∧(k'=0∨(k'<p.length∧at8 p k'=c)):=by
 obtain⟨hl,t,ht,hx⟩:=hx;refine loop_ind (fun s:Int=>∃ k:Nat,s=(k:Int)∧Dn (at8 p) b p.length i c k) (fun s=>s.toNat) (fun t=>∃ k':Nat,t=(k':Int)∧Dn (at8 p) b p.length i c k'∧(k'=0∨(k'<p.length∧at8 p k'=c))) (fun s hs=>?_) ⟨k,rfl,hk⟩;obtain⟨k,rfl,hd⟩:=hs;have hle:k≤p.length:=hd.1.2.1;unfold find_places_1.l1;by_cases c0:k=0
 ·subst c0;refine .inr ⟨_,by rw[if_neg (by omega),bnd_some',if_neg (by simp)],0,rfl,hd,.inl rfl⟩
 ·rw[if_pos (by omega)];by_cases cm:k=p.length
  ·obtain⟨h1,h2⟩:=dn_step ht hd (by omega) hle (.inl cm);refine .inl ⟨(t k:Int),?_,⟨t k,rfl,h1⟩,by omega⟩;rw[if_pos (by omega),bnd_some',if_pos rfl,idx_nat (hx k (by omega) (by omega)),bnd_some']
  ·rw[if_neg (by omega),idx8 (by omega),bnd_some'];by_cases e:at8 p k=c
   ·refine .inr ⟨(k:Int),?_,k,rfl,hd,.inr ⟨by omega,e⟩⟩;rw[e,bnd_some',if_neg (by simp)]
   ·obtain⟨h1,h2⟩:=dn_step ht hd (by omega) hle (.inr e);refine .inl ⟨(t k:Int),?_,⟨t k,rfl,h1⟩,by omega⟩;have hn:¬ (c.toNat:Int)=((at8 p k).toNat:Int):=fun h=>e (u8i.1 h).symm;rw[bnd_some',if_pos (by simpa using hn),idx_nat (hx k (by omega) (by omega)),bnd_some']
theorem table_ok {p:List UInt8} (h1:1≤p.length) (hb:p.length≤100000):∃ x,find_table p=some x∧TabL p p.length x:=by
 unfold find_table;have hw:w64 ((p.length:Int)+1)=((p.length+1:Nat):Int):=by rw[w64_id ⟨by omega,by omega⟩]; omega
 rw[hw,mkz_of ⟨by omega,by omega⟩,bnd_some',Int.toNat_natCast];obtain⟨x,h2,h3⟩:=loop_ind (f:=find_table.l2 p) (fun s:Int × Int × List Int=>∃ (j k:Nat) (x:List Int),s=((k:Int),((j+1:Nat):Int),x)∧j+1≤p.length∧TabL p (j+1) x∧mxs (at8 p) (shf (at8 p)) p.length j k) (fun s=>p.length-s.2.1.toNat) (fun t=>TabL p p.length t) (fun s hs=>by
  obtain⟨j,k,x,rfl,hj,hx,hk⟩:=hs;unfold find_table.l2;dsimp only;by_cases c:j+1=p.length
  ·rw[if_neg (by omega)];exact .inr ⟨x,rfl,by rw[← c]; exact hx⟩
  ·rw[if_pos (by omega)];obtain⟨t',g1,k',rfl,g2,g3⟩:=down_table (k:Int) (by omega) hx (dn_start hk);have hk':k'≤j:=g2.1.1;obtain⟨g4,g5⟩:=dn_fin (b:=shf (at8 p)) (by omega) g2 (g3.imp id fun h=>⟨by omega,h⟩);obtain⟨hl,t,ht,hx⟩:=hx;have hlt:j+2<x.length:=by omega
   have hw1:w64 (((j+1:Nat):Int)+1)=((j+2:Nat):Int):=by rw[w64_id ⟨by omega,by omega⟩]; omega
   rw[g1,bnd_some',idx8 (by omega),bnd_some',idx8 (by omega),bnd_some',hw1];have hif:(if ((at8 p (j+1)).toNat:Int)=((at8 p k').toNat:Int) then some (w64 ((k':Int)+1)) else some (k':Int):Option Int)=some (((if at8 p k'=shf (at8 p) j then k'+1 else k':Nat):Nat):Int):=by
    by_cases e:at8 p k'=at8 p (j+1)
    ·have e':at8 p k'=shf (at8 p) j:=e;rw[if_pos (u8i.2 e.symm),if_pos e',w64_id ⟨by omega,by omega⟩]; rfl
    ·have e':¬ at8 p k'=shf (at8 p) j:=e;rw[if_neg (fun h=>e (u8i.1 h).symm),if_neg e']
   rw[hif,bnd_some',idx_nat (List.getElem?_eq_getElem hlt),bnd_some',Int.toNat_natCast];generalize hq:(if at8 p k'=shf (at8 p) j then k'+1 else k')=q at g5 ⊢;refine .inl ⟨_,rfl,⟨j+1,q,_,rfl,by omega,⟨by simpa using hl,fun i=>if i=j+2 then q else t i,tab_snoc ht (fun i hi=>if_neg (by omega)) (by simpa using g5),fun i hi1 hi2=>?_⟩,g5⟩,?_⟩
   ·by_cases e:i=j+2
    ·subst e; rw[List.getElem?_set_self hlt]; simp
    ·rw[List.getElem?_set_ne (by omega)]; dsimp only; rw[if_neg e,hx i hi1 (by omega)]
   ·simp only[Int.toNat_natCast]; omega) (s:=(0,1,List.replicate (p.length+1) 0)) ⟨0,0,_,rfl,by omega,⟨by simp,fun _=>0,fun k hk1 hk2=>by
    obtain rfl:k=1:=by omega
    exact mxs_zero _ _ _,fun k hk1 hk2=>by
    obtain rfl:k=1:=by omega
    rw[List.getElem?_replicate,if_pos (by omega)]; rfl⟩,mxs_zero _ _ _⟩
 rw[h2,bnd_some'];exact⟨x,rfl,h3⟩
theorem kstep {p b:List UInt8} {x:List Int} (hx:TabL p p.length x) (hp:1≤p.length) (hb:p.length≤100000) {i k:Nat} (hi:i<b.length) (hk:mxs (at8 p) (at8 b) p.length i k) :
 ∃ k':Nat,mxs (at8 p) (at8 b) p.length (i+1) k'∧∀ (β:Type) (R:Int→Option β),(bnd (idx b (i:Int)) fun x16=>bnd (loop (find_places_1.l1 p x x16) (k:Int):Option Int) fun t17=>bnd (idx p t17) fun x32=>bnd (if (x16.toNat:Int)=(x32.toNat:Int) then some (w64 (t17+1)) else some t17:Option Int) R)=R (k':Int):=by
 obtain⟨t,h1,k',rfl,h2,h3⟩:=down_places hx (dn_start hk (c:=at8 b i));obtain⟨h4,h5⟩:=dn_fin (by omega) h2 h3;refine⟨_,h5,fun β R=>?_⟩;rw[idx8 hi,bnd_some',h1,bnd_some',idx8 h4,bnd_some'];by_cases c:at8 p k'=at8 b i
 ·rw[if_pos (u8i.2 c.symm),if_pos c,bnd_some',w64_id ⟨by omega,by omega⟩]; rfl
 ·rw[if_neg (fun h=>c (u8i.1 h).symm),if_neg c,bnd_some']
def ints (l:List Nat):List Int:=l.map fun n:Nat=>(n:Int)
def pl (p b:List UInt8):List Nat:=plc (at8 p) (at8 b) p.length (b.length+1-p.length)
theorem ints_append (l m:List Nat):ints (l++m)=ints l++ints m:=by simp[ints]
theorem plc_add (p b:Nat→UInt8) (m a:Nat):∀ c:Nat,∃ r,plc p b m (a+c)=plc p b m a++r∧∀ x∈r,a≤x∧x<a+c
 | 0=>⟨[],by simp,by simp⟩
 | c+1=>by
  obtain⟨r,h1,h2⟩:=plc_add p b m a c;refine⟨r++(if eqAt p b m (a+c) then [a+c] else []),by rw[← Nat.add_assoc,plc_succ,h1,List.append_assoc],fun x hx=>?_⟩;rcases List.mem_append.1 hx with hx|hx
  ·have:=h2 x hx; omega
  ·split at hx
   ·have:=List.mem_singleton.1 hx; omega
   ·cases hx
theorem plc_le (p b:Nat→UInt8) (m:Nat) {a c:Nat} (h:a≤c):∃ r,plc p b m c=plc p b m a++r∧∀ x∈r,a≤x∧x<c:=by
 obtain⟨r,h1,h2⟩:=plc_add p b m a (c-a);rw[show a+(c-a)=c by omega] at h1 h2;exact⟨r,h1,h2⟩
theorem told {i m:Nat} (h:m≤i+1) (hi:i≤100000):w64 (w64 ((i:Int)+1)-(m:Int))=((i+1-m:Nat):Int):=by
 rw[w64_id (x:=(i:Int)+1) ⟨by omega,by omega⟩,w64_id ⟨by omega,by omega⟩]; omega
theorem wnext {i:Nat} (hi:i≤100000):w64 ((i:Int)+1)=((i+1:Nat):Int):=by rw[w64_id ⟨by omega,by omega⟩]; omega
def mt (p b:List UInt8) (i:Nat):Bool:=decide (1≤p.length∧i+p.length≤b.length∧eqAt (at8 p) (at8 b) p.length i)
def plx (p b:List UInt8) (n:Nat):List Nat:=(List.range n).filter (mt p b)
theorem plx_succ (p b:List UInt8) (n:Nat):plx p b (n+1)=plx p b n++(if mt p b n=true then [n] else []):=by
 unfold plx;rw[List.range_succ,List.filter_append];congr 1;by_cases c:mt p b n=true
 ·simp[c]
 ·simp[c]
theorem plx_len (p b:List UInt8) (n:Nat):(plx p b n).length≤n:=by
 have:=List.length_filter_le (mt p b) (List.range n);unfold plx; simpa using this
def all (p b:List UInt8):List Int:=ints (plx p b b.length)
theorem plx_pl (p b:List UInt8):(if p.length=0 then [] else ints (pl p b))=all p b:=by
 unfold all;by_cases c:p.length=0
 ·rw[if_pos c];have:plx p b b.length=[]:=by
   unfold plx;rw[List.filter_eq_nil_iff];intro a _;unfold mt;simp; omega
  rw[this]; rfl
 ·rw[if_neg c];have key:∀ i,i≤b.length→plx p b i=plc (at8 p) (at8 b) p.length (min i (b.length+1-p.length)):=by
   intro i
   induction i with
   | zero=>intro _; simp[plx,plc]
   | succ i ih=>
    intro hi;rw[plx_succ,ih (by omega)];by_cases d:i+p.length≤b.length
    ·rw[show min (i+1) (b.length+1-p.length)=i+1 by omega,show min i (b.length+1-p.length)=i by omega,plc_succ];congr 1;unfold mt;by_cases e:eqAt (at8 p) (at8 b) p.length i
     ·rw[if_pos e,if_pos (decide_eq_true ⟨by omega,d,e⟩)]
     ·rw[if_neg e,if_neg (fun h=>e (of_decide_eq_true h).2.2)]
    ·rw[show min (i+1) (b.length+1-p.length)=min i (b.length+1-p.length) by omega];unfold mt;rw[if_neg (fun h=>d (of_decide_eq_true h).2.1),List.append_nil]
  rw[key b.length (by omega),show min b.length (b.length+1-p.length)=b.length+1-p.length by omega];rfl
theorem cut_eqAt {p b:List UInt8} {i:Nat} (h:i+p.length≤b.length):(b.take (i+p.length)).drop i=p↔eqAt (at8 p) (at8 b) p.length i:=by
 have hg:∀ j,j<p.length→((b.take (i+p.length)).drop i)[j]? = some (at8 b (i+j)):=fun j hj=>by
  rw[List.getElem?_drop,List.getElem?_take_of_lt (by omega),at8_get (by omega)]
 constructor
 ·intro e j hj;have h1:=hg j hj;rw[e,at8_get hj] at h1;exact Option.some.inj h1
 ·intro e;refine List.ext_getElem? fun j=>?_;by_cases hj:j<p.length
  ·rw[hg j hj,at8_get hj,e j hj]
  ·rw[List.getElem?_eq_none (by simp; omega),List.getElem?_eq_none (by omega)]
theorem refAt_eq {p b:List UInt8} (hb:b.length≤100000) (hp:p.length≤100000) {i:Nat} (hi:i≤100000):ref17_at b p (i:Int)=some (mt p b i):=by
 unfold ref17_at mt;by_cases c:p=[]
 ·rw[if_pos c,bnd_some'];subst c;simp
 ·have hl:1≤p.length:=by cases p with
   | nil=>exact absurd rfl c
   | cons=>simp
  have hw:w64 ((i:Int)+(p.length:Int))=((i+p.length:Nat):Int):=by rw[w64_id ⟨by omega,by omega⟩]; omega
  rw[if_neg c,if_pos (by omega),hw];by_cases d:i+p.length≤b.length
  ·rw[if_pos (by omega),cut_of ⟨by omega,by omega,by omega⟩,bnd_some',bnd_some',Int.toNat_natCast,Int.toNat_natCast];congr 1;by_cases e:eqAt (at8 p) (at8 b) p.length i
   ·rw[(cut_eqAt d).2 e,decide_eq_true ⟨hl,d,e⟩]; simp
   ·rw[decide_eq_false (fun h=>e h.2.2)];exact beq_eq_false_iff_ne.2 fun h=>e ((cut_eqAt d).1 h)
  ·rw[if_neg (by omega),bnd_some',decide_eq_false (fun h=>d h.2.1)]
theorem refEvery_eq {p b:List UInt8} (hb:b.length≤100000) (hp:p.length≤100000):ref17_Every b p=some (all p b):=by
 unfold ref17_Every;have hl:=loop_nat (f:=ref17_Every.l1 b p) (fun i (s:List Int)=>(i,s)) b.length (fun i=>ints (plx p b i)) (t:=all p b) (fun i hi=>by
  unfold ref17_Every.l1;dsimp only;have hlen:=plx_len p b i;rw[if_pos (by omega),refAt_eq hb hp (by omega),bnd_some',plx_succ,w64_id ⟨by omega,by omega⟩];by_cases c:mt p b i=true
  ·rw[if_pos c,if_pos c,app_of (by simp[ints]; omega),bnd_some',bnd_some',ints_append]; rfl
  ·rw[if_neg c,if_neg c,bnd_some',List.append_nil]) (by
  unfold ref17_Every.l1;dsimp only;rw[if_neg (by omega)]; rfl)
 rw[show loop (ref17_Every.l1 b p) (0,[])=_ from hl,bnd_some']
theorem mem_ints {l:List Nat} {x:Int} (h:x∈ints l):∃ n∈l,x=(n:Int):=by
 obtain⟨n,h1,h2⟩:=List.mem_map.1 h;exact⟨n,h1,h2.symm⟩
def fstF (c:Int) (l:List Int):Int:=((l.find? fun x=>decide (c≤x)).getD (-1))
theorem first_eq {p b:List UInt8} (hb:b.length≤100000) (hp:p.length≤100000) (c:Int):find_First b p c=some (fstF c (all p b)):=by
 unfold find_First find_places;rw[bnd_some',← plx_pl];dsimp only;unfold find_places_1;by_cases c0:p.length=0
 ·rw[if_pos (by omega),if_pos c0,bnd_some']; rfl
 ·obtain⟨x,h1,hx⟩:=table_ok (p:=p) (by omega) hp;rw[if_neg (by omega),if_neg c0,h1,bnd_some'];have hl:=loop_eq (f:=find_places_1.l2 c p b 0 x) (t:=(match (ints (pl p b)).find? (fun x=>decide (c≤x)) with|some x=>Ex.ret (Sum.inr x)|none=>Ex.brk ())) (fun s:Int × Int=>∃ i k:Nat,s=((k:Int),(i:Int))∧(ints (plc (at8 p) (at8 b) p.length (i+1-p.length))).find? (fun x=>decide (c≤x))=none∧i≤b.length∧mxs (at8 p) (at8 b) p.length i k) (fun s=>b.length-s.2.toNat) (fun s hs=>by
   obtain⟨i,k,rfl,hf,hi,hk⟩:=hs;unfold find_places_1.l2;dsimp only;by_cases e:i=b.length
   ·rw[if_neg (by omega)];subst e;unfold pl; rw[hf]; exact .inr rfl
   ·rw[if_pos (by omega)];obtain⟨k',g1,g2⟩:=kstep hx (by omega) hp (i:=i) (by omega) hk;rw[show (find_places_1.l1 p x)=find_places_1.l1 p x from rfl,g2];have hn:=plc_next (by omega) g1;have hg:=g1.1.1;by_cases e2:k'=p.length
    ·rw[if_pos e2] at hn;rw[if_pos (by omega)];unfold find_First_r0;rw[e2] at hg ⊢;rw[told hg (by omega)];by_cases f:(((i+1-p.length:Nat):Int))≥c
     ·rw[if_pos f,bnd_some',bnd_some'];refine .inr ?_;obtain⟨r,h2,_⟩:=plc_le (at8 p) (at8 b) p.length (a:=i+1+1-p.length) (c:=b.length+1-p.length) (by omega);have:(ints (pl p b)).find? (fun x=>decide (c≤x))=some ((i+1-p.length:Nat):Int):=by
       unfold pl;rw[h2,hn,ints_append,ints_append,List.find?_append,List.find?_append,hf];simp only[ints,List.map_cons,List.map_nil,Option.none_or];rw[List.find?_cons_of_pos (p:=fun x=>decide (c≤x)) (decide_eq_true f)]; rfl
      rw[this]
     ·rw[if_neg f,bnd_some',bnd_some'];dsimp only;rw[wnext (by omega)];refine .inl ⟨_,rfl,⟨i+1,p.length,rfl,?_,by omega,e2▸g1⟩,?_⟩
      ·rw[hn,ints_append,List.find?_append,hf];simp only[ints,List.map_cons,List.map_nil,Option.none_or];rw[List.find?_cons_of_neg (p:=fun x=>decide (c≤x)) (by simpa using f)]; rfl
      ·simp only[Int.toNat_natCast]; omega
    ·rw[if_neg e2,List.append_nil] at hn;rw[if_neg (by omega),bnd_some'];dsimp only;rw[wnext (by omega)];refine .inl ⟨_,rfl,⟨i+1,k',rfl,by rw[hn]; exact hf,by omega,g1⟩,?_⟩;simp only[Int.toNat_natCast]; omega) (s:=(0,0)) ⟨0,0,rfl,by
    rw[show 0+1-p.length=0 by omega]; rfl,by omega,mxs_zero _ _ _⟩
  rw[hl,bnd_some'];unfold fstF;cases (ints (pl p b)).find? (fun x=>decide (c≤x)) with
  | none=>rfl
  | some x=>rfl
def hasNL (l:List UInt8):Bool:=l.any fun b=>b==13||b==10
def rightB (col op:Int) (arg:List UInt8):Bool:=decide (0≤col∧col<40∧0≤op∧op<7∧arg.length≤100) && !(hasNL arg)&&(!(decide (op=6))||arg==[])
theorem right_eq (t:filter_Test) (h:t.fArg.length≤100000):filter_Right t=some (rightB t.fCol t.fOp t.fArg):=by
 have hsa:sAnyCRLF t.fArg=some (hasNL t.fArg):=by unfold sAnyCRLF; rw[if_pos (by omega)]; rfl
 unfold filter_Right rightB;rw[hsa];by_cases h1:t.fCol<0
 ·rw[if_pos h1,bnd_some',if_pos rfl,decide_eq_false (by omega)]; rfl
 ·rw[if_neg h1,bnd_some'];by_cases h2:t.fCol≥40
  ·rw[decide_eq_true h2,if_pos rfl,decide_eq_false (by omega)]; rfl
  ·rw[decide_eq_false h2,if_neg (by simp)];by_cases h3:t.fOp<0
   ·rw[if_pos h3,bnd_some',if_pos rfl,decide_eq_false (by omega)]; rfl
   ·rw[if_neg h3,bnd_some'];by_cases h4:t.fOp>6
    ·rw[decide_eq_true h4,if_pos rfl,decide_eq_false (by omega)]; rfl
    ·rw[decide_eq_false h4,if_neg (by simp)];by_cases h5:(t.fArg.length:Int)>100
     ·rw[if_pos h5,bnd_some',if_pos rfl,decide_eq_false (by omega)]; rfl
     ·rw[if_neg h5,bnd_some',bnd_some',decide_eq_true (show 0≤t.fCol∧t.fCol<40∧0≤t.fOp∧t.fOp<7∧t.fArg.length≤100 by omega)];cases hasNL t.fArg with
      | true=>rfl
      | false=>
       rw[if_neg (by simp)];by_cases h6:t.fOp=6
       ·rw[if_pos h6,bnd_some',decide_eq_true h6]; simp
       ·rw[if_neg h6,bnd_some',decide_eq_false h6]; rfl
theorem rright_eq (t:ref18_Test) (h:t.fArg.length≤100000):ref18_Right t=some (rightB t.fCol t.fOp t.fArg):=by
 unfold ref18_Right;obtain⟨q,h1,h2⟩:=loop_for (f:=ref18_Right.l1 t) (fun i (_:Unit)=>i) t.fArg (fun pre _=>hasNL pre=false) (fun q=>match q with | .brk _=>hasNL t.fArg=false | .ret v=>v=false∧hasNL t.fArg=true) (fun pre x suf s hs hI=>by
  have hl:t.fArg.length=pre.length+(suf.length+1):=by rw[hs]; simp
  unfold ref18_Right.l1;rw[if_pos (by omega),show idx t.fArg (pre.length:Int)=some x by rw[hs]; exact idx_at _ _ _,bnd_some'];by_cases c1:(x.toNat:Int)=10
  ·rw[if_pos c1,bnd_some',if_pos rfl];refine .inr ⟨_,rfl,rfl,?_⟩;have:x=10:=UInt8.toNat_inj.1 (by simpa using (by omega:x.toNat=10));subst this;unfold hasNL; rw[hs]; simp
  ·rw[if_neg c1,bnd_some'];by_cases c2:(x.toNat:Int)=13
   ·rw[beq_iff_eq.2 c2,if_pos rfl];refine .inr ⟨_,rfl,rfl,?_⟩;have:x=13:=UInt8.toNat_inj.1 (by simpa using (by omega:x.toNat=13));subst this;unfold hasNL; rw[hs]; simp
   ·rw[beq_eq_false_iff_ne.2 c2,if_neg (by simp),w64_id ⟨by omega,by omega⟩];refine .inl ⟨(),rfl,?_⟩;have n1:(x==13)=false:=beq_eq_false_iff_ne.2 fun e=>c2 (by rw[e]; rfl);have n2:(x==10)=false:=beq_eq_false_iff_ne.2 fun e=>c1 (by rw[e]; rfl);unfold hasNL at hI ⊢;rw[List.any_append,hI]; simp[n1,n2]) (fun s hI=>by
  unfold ref18_Right.l1;rw[if_neg (by omega)];exact⟨_,rfl,hI⟩) (s0:=()) rfl
 rw[show loop (ref18_Right.l1 t) 0=some q from h1,bnd_some'];cases q with
 | ret v=>
  obtain⟨rfl,h3⟩:=h2;unfold rightB; rw[h3]; simp
 | brk u=>
  dsimp only at h2 ⊢;unfold rightB;rw[h2];by_cases a1:t.fCol≥0
  ·rw[if_pos a1];by_cases a2:t.fCol<40
   ·rw[if_pos a2];by_cases a3:t.fOp≥0
    ·rw[if_pos a3];by_cases a4:t.fOp<7
     ·rw[if_pos a4];by_cases a5:(t.fArg.length:Int)≤100
      ·rw[if_pos a5,decide_eq_true (show 0≤t.fCol∧t.fCol<40∧0≤t.fOp∧t.fOp<7∧t.fArg.length≤100 by omega)];by_cases h6:t.fOp=6
       ·rw[if_pos h6,bnd_some',decide_eq_true h6]; simp
       ·rw[if_neg h6,bnd_some',decide_eq_false h6]; rfl
      ·rw[if_neg a5,bnd_some',decide_eq_false (by omega)]; rfl
     ·rw[if_neg a4,bnd_some',decide_eq_false (by omega)]; rfl
    ·rw[if_neg a3,bnd_some',decide_eq_false (by omega)]; rfl
   ·rw[if_neg a2,bnd_some',decide_eq_false (by omega)]; rfl
  ·rw[if_neg a1,bnd_some',decide_eq_false (by omega)]; rfl
def dgB (b:UInt8):Bool:=decide (48≤b.toNat∧b.toNat≤57)
def dV (b:UInt8):Nat:=b.toNat-48
def val (l:List UInt8):Nat:=l.foldl (fun n b=>n*10+dV b) 0
theorem val_snoc (l:List UInt8) (b:UInt8):val (l++[b])=val l*10+dV b:=by simp[val,List.foldl_append]
theorem foldl_pos (l:List UInt8):∀ n:Nat,l.foldl (fun n b=>n*10+dV b) n=n*10 ^ l.length+val l:=by
 induction l with
 | nil=>intro n; simp[val]
 | cons b l ih=>
  intro n;have e:val (b::l)=dV b*10 ^ l.length+val l:=by
   unfold val;rw[List.foldl_cons,Nat.zero_mul,Nat.zero_add,ih]; rfl
  rw[List.foldl_cons,ih,e,List.length_cons,Nat.pow_succ,Nat.add_mul,Nat.mul_assoc,Nat.mul_comm 10,Nat.add_assoc]
theorem val_cons (b:UInt8) (l:List UInt8):val (b::l)=dV b*10 ^ l.length+val l:=by
 unfold val;rw[List.foldl_cons,Nat.zero_mul,Nat.zero_add,foldl_pos]; rfl
theorem dV_le {b:UInt8} (h:dgB b=true):dV b≤9:=by
 have:=of_decide_eq_true h;unfold dV; omega
theorem val_lt:∀ {l:List UInt8},l.all dgB=true→val l<10 ^ l.length
 | [],_=>by simp[val]
 | b::l,h=>by
  rw[List.all_cons,Bool.and_eq_true] at h;have h1:=dV_le h.1;have h2:=val_lt h.2;rw[val_cons,List.length_cons,Nat.pow_succ];have:dV b*10 ^ l.length≤9*10 ^ l.length:=Nat.mul_le_mul_right _ h1;omega
theorem val_append_ge (a b:List UInt8):val a≤val (a++b):=by
 induction b using snoc_ind with
 | nil=>simp
 | snoc b x ih=>rw[← List.append_assoc,val_snoc]; omega
theorem digit2_no {b:UInt8} (h:dgB b=false):num_digit b=some (0,false):=by
 have h:=of_decide_eq_false h;unfold num_digit;by_cases c:(b.toNat:Int)<48
 ·rw[if_pos c,bnd_some',if_pos rfl]
 ·rw[if_neg c,bnd_some',decide_eq_true (by omega),if_pos rfl]
theorem digit2_yes {b:UInt8} (h:dgB b=true):num_digit b=some ((dV b:Int),true):=by
 have h:=of_decide_eq_true h;unfold num_digit;rw[if_neg (by omega),bnd_some',decide_eq_false (by omega),if_neg (by simp),ub_toNat];have e:((b.toNat:Int)-48) % 256=(dV b:Int):=by unfold dV; omega
 rw[e];have hw:IntKind.wrap .u64 (dV b:Int)=(dV b:Int):=by
  unfold IntKind.wrap dV;simp only[IntKind.bits,IntKind.signed,Bool.false_and,Bool.false_eq_true,if_false];omega
 rw[hw]
theorem wrapU {x:Int} (h:0≤x∧x<18446744073709551616):IntKind.wrap .u64 x=x:=by
 unfold IntKind.wrap;simp only[IntKind.bits,IntKind.signed,Bool.false_and,Bool.false_eq_true,if_false];omega
theorem quo9 {x:Int} (h:0≤x):quo x 9=x / 10:=by
 show x.tdiv 10=x / 10;exact Int.tdiv_eq_ediv_of_nonneg h
def big:Nat:=9223372036854775808
theorem mag_eq (a:List UInt8) (ha:a.length≤100000):num_magnitude a=some (if a.all dgB=true∧val a≤big then ((val a:Int),decide (0<a.length)) else (0,false)):=by
 unfold num_magnitude;obtain⟨q,h1,h2⟩:=loop_for (f:=num_magnitude.l1 a) (fun i (n:Int)=>(n,i)) a (fun pre n=>n=(val pre:Int)∧pre.all dgB=true∧val pre≤big) (fun q=>match q with | .brk n=>n=(val a:Int)∧a.all dgB=true∧val a≤big | .ret r=>r=(0,false)∧¬ (a.all dgB=true∧val a≤big)) (fun pre x suf n hs hI=>by
  obtain⟨rfl,i2,i3⟩:=hI;have hl:a.length=pre.length+(suf.length+1):=by rw[hs]; simp
  have hg:=val_append_ge (pre++[x]) suf;rw[show pre++[x]++suf=a by rw[hs]; simp,val_snoc] at hg;unfold num_magnitude.l1 big at *;dsimp only;rw[if_pos (by omega),show idx a (pre.length:Int)=some x by rw[hs]; exact idx_at _ _ _,bnd_some'];cases hd:dgB x with
  | false=>
   rw[digit2_no hd,bnd_some'];dsimp only;rw[if_neg (by simp),bnd_some',if_pos rfl];refine .inr ⟨_,rfl,rfl,fun h=>?_⟩;have:=List.all_eq_true.1 h.1 x (by rw[hs]; simp);rw[hd] at this; cases this
  | true=>
   have h9:=dV_le hd;rw[digit2_yes hd,bnd_some'];dsimp only;rw[if_pos rfl,wrapU (x:=9223372036854775808-(dV x:Int)) ⟨by omega,by omega⟩,quo9 (by omega),wrapU ⟨by omega,by omega⟩,bnd_some',bnd_some'];by_cases c:(val pre:Int)>(9223372036854775808-(dV x:Int)) / 10
   ·rw[decide_eq_true c,if_pos rfl];refine .inr ⟨_,rfl,rfl,fun h=>?_⟩;omega
   ·rw[decide_eq_false c,if_neg (by simp),wrapU (x:=(val pre:Int)*10) ⟨by omega,by omega⟩,wrapU ⟨by omega,by omega⟩,w64_id ⟨by omega,by omega⟩];refine .inl ⟨_,rfl,by rw[val_snoc]; omega,by rw[List.all_append,i2]; simp[hd],by rw[val_snoc]; omega⟩) (fun n hI=>by
  unfold num_magnitude.l1;dsimp only;rw[if_neg (by omega)];exact⟨_,rfl,hI⟩) (s0:=0) ⟨by simp[val],rfl,by simp[val,big]⟩
 rw[show loop (num_magnitude.l1 a) (0,0)=some q from h1,bnd_some'];cases q with
 | brk n=>
  obtain⟨rfl,h3⟩:=h2;dsimp only;rw[if_pos h3];congr 2;exact decide_eq_decide.2 (by omega)
 | ret r=>
  obtain⟨rfl,h3⟩:=h2;dsimp only;rw[if_neg h3]
def sg:List UInt8→Bool × List UInt8
| []=>(false,[])
| b::l=>if b=45 then (true,l) else if b=43 then (false,l) else (false,b::l)
theorem u8q {x:UInt8} {n:Nat} (hn:n<256):((x.toNat:Int)=(n:Int))↔x=UInt8.ofNat n:=by
 constructor
 ·intro h;refine UInt8.toNat_inj.1 ?_;rw[UInt8.toNat_ofNat_of_lt' (by show n<256; omega)]; omega
 ·intro h;rw[h,UInt8.toNat_ofNat_of_lt' (by show n<256; omega)]
theorem c45 {b:UInt8}:((b.toNat:Int)=45)↔b=45:=u8q (n:=45) (by omega)
theorem c43 {b:UInt8}:((b.toNat:Int)=43)↔b=43:=u8q (n:=43) (by omega)
theorem c48 {b:UInt8}:((b.toNat:Int)=48)↔b=48:=u8q (n:=48) (by omega)
theorem sign_eq (a:List UInt8) (ha:a.length≤100000):num_sign a=some (sg a):=by
 unfold num_sign;cases a with
 | nil=>rfl
 | cons b l=>
  rw[if_neg (by simp only[List.length_cons]; omega),show idx (b::l) 0=some b from rfl,bnd_some'];have hc:cut (b::l) 1 ((b::l).length:Int)=some l:=by
   rw[cut_of ⟨by omega,by simp only[List.length_cons]; omega,by omega⟩,Int.toNat_natCast,List.take_length]; rfl
  rw[show sg (b::l)=(if b=45 then (true,l) else if b=43 then (false,l) else (false,b::l)) from rfl];by_cases c:b=45
  ·rw[if_pos (c45.2 c),if_pos c,hc,bnd_some']
  ·rw[if_neg (fun h=>c (c45.1 h)),if_neg c];by_cases d:b=43
   ·rw[if_pos (c43.2 d),if_pos d,hc,bnd_some']
   ·rw[if_neg (fun h=>d (c43.1 h)),if_neg d]
theorem sg_len (a:List UInt8):(sg a).2.length≤a.length:=by
 cases a with
 | nil=>simp[sg]
 | cons b l=>
  rw[show sg (b::l)=(if b=45 then (true,l) else if b=43 then (false,l) else (false,b::l)) from rfl];split
  ·simp
  ·split <;> simp
def isN (neg:Bool) (r:List UInt8):Prop:=r.all dgB=true∧r≠[]∧val r≤(if neg=true then big else big-1)
instance (neg:Bool) (r:List UInt8):Decidable (isN neg r):=by unfold isN; infer_instance
def pz (a:List UInt8):Int × Bool:=if isN (sg a).1 (sg a).2 then ((if (sg a).1=true then -(val (sg a).2:Int) else (val (sg a).2:Int)),true) else (0,false)
theorem w64_neg {v:Nat} (h:v≤big):w64 (IntKind.wrap .u64 (0-(v:Int))) = -(v:Int):=by
 unfold big at h;unfold w64 IntKind.wrap;simp only[IntKind.bits,IntKind.signed,Bool.false_and,Bool.false_eq_true,if_false,Bool.true_and,decide_eq_true_eq,ge_iff_le];split <;> omega
theorem nparse_eq (a:List UInt8) (ha:a.length≤100000):num_Parse a=some (pz a):=by
 have hl:=sg_len a;unfold num_Parse pz;rw[sign_eq a ha,bnd_some',mag_eq _ (by omega),bnd_some'];generalize sg a=q at hl ⊢;obtain⟨neg,r⟩:=q;dsimp only at hl ⊢;by_cases c:r.all dgB=true∧val r≤big
 ·rw[if_pos c];dsimp only;cases r with
  | nil=>
   rw[show decide (0<([]:List UInt8).length)=false from rfl,if_neg (by simp),bnd_some',show (!false)=true from rfl,if_pos rfl,if_neg (fun h=>h.2.1 rfl)]
  | cons b l=>
   rw[show decide (0<(b::l).length)=true by simp,if_pos rfl];cases neg with
   | true=>
    rw[if_pos rfl,bnd_some',if_neg (by simp),if_pos rfl,w64_neg c.2,if_pos ⟨c.1,by simp,by simpa using c.2⟩,if_pos rfl]
   | false=>
    rw[if_neg (by simp),bnd_some'];by_cases d:((val (b::l):Nat):Int)=9223372036854775808
    ·rw[beq_iff_eq.2 d,if_pos rfl,if_neg (fun h=>?_)];have:=h.2.2;rw[if_neg (by simp)] at this;unfold big at this; omega
    ·have hv:=c.2;unfold big at hv;rw[beq_eq_false_iff_ne.2 d,if_neg (by simp),if_neg (by simp),w64_id ⟨by omega,by omega⟩,if_pos ⟨c.1,by simp,by rw[if_neg (by simp)]; unfold big; omega⟩,if_neg (by simp)]
 ·rw[if_neg c];dsimp only;rw[if_neg (by simp),bnd_some',show (!false)=true from rfl,if_pos rfl,if_neg (fun h=>c ⟨h.1,?_⟩)];have:=h.2.2;split at this
  ·exact this
  ·unfold big at *; omega
def bwL:List UInt8→List UInt8→Int
| [],_=>0
| _::_,[]=>1
| x::a,y::b=>if x=y then bwL a b else if x<y then -1 else 1
theorem cmpB {x y:UInt8}:cmp_Compare_byte x y=some (if x<y then -1 else if y<x then 1 else 0):=by
 unfold cmp_Compare_byte cmp_isNaN_byte;rw[bnd_some',bnd_some',if_neg (by simp),if_neg (by simp)];by_cases c:x<y
 ·rw[if_pos (by have:=UInt8.lt_iff_toNat_lt.1 c; omega),if_pos c]
 ·rw[if_neg (fun h=>c (UInt8.lt_iff_toNat_lt.2 (by omega))),if_neg c];by_cases d:y<x
  ·rw[if_pos (by have:=UInt8.lt_iff_toNat_lt.1 d; omega),if_pos d]
  ·rw[if_neg (fun h=>d (UInt8.lt_iff_toNat_lt.2 (by omega))),if_neg d]
theorem cmpI (x y:Int):cmp_Compare_int x y=some (if x<y then -1 else if x>y then 1 else 0):=by
 unfold cmp_Compare_int cmp_isNaN_int;rw[bnd_some',bnd_some',if_neg (by simp),if_neg (by simp)];by_cases c:x<y
 ·rw[if_pos c,if_pos c]
 ·rw[if_neg c,if_neg c];by_cases d:x>y
  ·rw[if_pos d,if_pos d]
  ·rw[if_neg d,if_neg d]
theorem bw_pre:∀ (pre a b:List UInt8),bwL (pre++a) (pre++b)=bwL a b
 | [],a,b=>rfl
 | x::pre,a,b=>by rw[List.cons_append,List.cons_append,bwL,if_pos rfl,bw_pre]
theorem bwise_eq (a b:List UInt8) (ha:a.length≤100000):num_bytewise a b=some (if bwL a b=0∧a.length<b.length then -1 else bwL a b):=by
 obtain⟨t,h1,h2⟩:=loop_for (f:=num_bytewise.l1 a b) (fun i (_:Unit)=>i) a (fun pre _=>b.take pre.length=pre) (fun t=>t=bwL a b) (fun pre x suf s hs hI=>by
  have hl:a.length=pre.length+(suf.length+1):=by rw[hs]; simp
  have hpl:pre.length≤b.length:=by
   have:=congrArg List.length hI;rw[List.length_take] at this; omega
  have hb:b=pre++b.drop pre.length:=by
   conv=>lhs; rw[← List.take_append_drop pre.length b]
   rw[hI]
  unfold num_bytewise.l1;rw[if_pos (by omega),show idx a (pre.length:Int)=some x by rw[hs]; exact idx_at _ _ _,bnd_some'];have hbw:bwL a b=bwL (x::suf) (b.drop pre.length):=by
   conv=>lhs; rw[hs,hb]
   exact bw_pre _ _ _
  by_cases c:pre.length=b.length
  ·rw[if_pos (by omega)];refine .inr ⟨_,rfl,?_⟩;rw[hbw,List.drop_of_length_le (by omega)]; rfl
  ·have hlt:pre.length<b.length:=by omega
   rw[if_neg (by omega),idx_nat (List.getElem?_eq_getElem hlt),bnd_some'];rw[List.drop_eq_getElem_cons hlt,bwL] at hbw;by_cases d:x=b[pre.length]
   ·rw[if_pos (by rw[d]),w64_id ⟨by omega,by omega⟩];refine .inl ⟨(),rfl,?_⟩;simp only[List.length_append,List.length_cons,List.length_nil,Nat.zero_add];rw[List.take_succ_eq_append_getElem hlt,hI,← d]
   ·rw[if_neg (fun h=>d (UInt8.toNat_inj.1 (by omega))),cmpB,bnd_some'];refine .inr ⟨_,rfl,?_⟩;rw[if_neg d] at hbw;rw[hbw];by_cases e:x<b[pre.length]
    ·rw[if_pos e,if_pos e]
    ·have:b[pre.length]<x:=UInt8.lt_iff_toNat_lt.2 (by
      have h1:¬ x.toNat<b[pre.length].toNat:=fun h=>e (UInt8.lt_iff_toNat_lt.2 h);have h2:x.toNat≠b[pre.length].toNat:=fun h=>d (UInt8.toNat_inj.1 h);omega)
     rw[if_neg e,if_pos this,if_neg e]) (fun s hI=>by
  unfold num_bytewise.l1;rw[if_neg (by omega)];refine⟨_,rfl,?_⟩;have hb:b=a++b.drop a.length:=by
   conv=>lhs; rw[← List.take_append_drop a.length b]
   rw[hI]
  have:=bw_pre a [] (b.drop a.length);rw[List.append_nil,← hb] at this;rw[this]; rfl) (s0:=()) (by simp)
 subst h2;unfold num_bytewise;refine loop_done ?_;unfold num_bytewise.l2;rw[show loop (num_bytewise.l1 a b) 0=_ from h1,bnd_some'];by_cases c:bwL a b=0
 ·rw[if_pos c,bnd_some'];by_cases d:a.length<b.length
  ·rw[decide_eq_true (by omega),if_pos rfl,if_pos ⟨c,d⟩]
  ·rw[decide_eq_false (by omega),if_neg (by simp),if_neg (fun h=>d h.2)]
 ·rw[if_neg c,bnd_some',if_neg (by simp),if_neg (fun h=>c h.1)]
theorem ult {x y:UInt8}:(x<y)↔x.toNat<y.toNat:=UInt8.lt_iff_toNat_lt
def byW (a b:List UInt8):Int:=if Op.bytesLess a b=true then -1 else if Op.bytesLess b a=true then 1 else 0
theorem byW_eq:∀ a b:List UInt8,(if bwL a b=0∧a.length<b.length then -1 else bwL a b)=byW a b
 | [],[]=>rfl
 | [],y::b=>by simp[bwL,byW,Op.bytesLess]
 | x::a,[]=>by simp[bwL,byW,Op.bytesLess]
 | x::a,y::b=>by
  have ih:=byW_eq a b;unfold byW at ih ⊢;unfold bwL Op.bytesLess;by_cases c:x=y
  ·subst c;have hx:decide (x<x)=false:=decide_eq_false (by rw[ult]; omega);rw[if_pos rfl,hx];simp only[List.length_cons,Nat.add_lt_add_iff_right,beq_self_eq_true,Bool.true_and,Bool.false_or];exact ih
  ·have hne:(x==y)=false:=beq_eq_false_iff_ne.2 c;have hne':(y==x)=false:=beq_eq_false_iff_ne.2 (Ne.symm c);rw[if_neg c,hne,hne'];by_cases d:x<y
   ·simp[d]
   ·have d':y<x:=by
     rw[ult] at d ⊢;have:x.toNat≠y.toNat:=fun h=>c (UInt8.toNat_inj.1 h);omega
    simp[d,d']
def cmpT (a b:List UInt8):Int:=if (pz a).2=true then (if (pz b).2=true then (if (pz a).1<(pz b).1 then -1 else if (pz a).1>(pz b).1 then 1 else 0) else -1) else if (pz b).2=true then 1 else byW a b
theorem compare_eq (a b:List UInt8) (ha:a.length≤100000) (hb:b.length≤100000):num_Compare a b=some (cmpT a b):=by
 unfold num_Compare cmpT;rw[nparse_eq a ha,bnd_some',nparse_eq b hb,bnd_some',bwise_eq a b ha,byW_eq];generalize pz a=p;generalize pz b=q;obtain⟨x,p2⟩:=p;obtain⟨y,q2⟩:=q;cases p2 <;> cases q2 <;> simp[cmpI]
def bareL:List UInt8→List UInt8
| []=>[]
| [b]=>[b]
| b::c::l=>if b=48 then bareL (c::l) else b::c::l
theorem bareLoop:∀ s:List UInt8,s.length≤100000→loop ref02_bare.l1 s=some (bareL s)
 | [],_=>loop_done rfl
 | [b],_=>loop_done rfl
 | b::c::l,h=>by
  have hs:ref02_bare.l1 (b::c::l)=if b=48 then some (.next (c::l)) else some (.done (b::c::l)):=by
   unfold ref02_bare.l1;rw[if_pos (by simp only[List.length_cons]; omega),show idx (b::c::l) 0=some b from rfl,bnd_some',bnd_some'];by_cases d:b=48
   ·rw[beq_iff_eq.2 (c48.2 d),if_pos rfl,if_pos d,cut_of ⟨by omega,by simp only[List.length_cons]; omega,by omega⟩,bnd_some',Int.toNat_natCast,List.take_length]; rfl
   ·rw[beq_eq_false_iff_ne.2 (fun h=>d (c48.1 h)),if_neg (by simp),if_neg d]
  rw[bareL];by_cases d:b=48
  ·rw[if_pos d] at hs ⊢;exact loop_next hs (bareLoop (c::l) (by simp at h ⊢; omega))
  ·rw[if_neg d] at hs ⊢;exact loop_done hs
theorem bare_eq (s:List UInt8) (h:s.length≤100000):ref02_bare s=some (bareL s):=by
 unfold ref02_bare;rw[bareLoop s h,bnd_some']
theorem bare_val:∀ s:List UInt8,val (bareL s)=val s
 | []=>rfl
 | [b]=>rfl
 | b::c::l=>by
  rw[bareL];split
  ·rename_i d;rw[bare_val (c::l),val_cons b,d,show dV 48=0 from rfl]; omega
  ·rfl
theorem bare_all:∀ s:List UInt8,s.all dgB=true→(bareL s).all dgB=true
 | [],h=>h
 | [b],h=>h
 | b::c::l,h=>by
  rw[bareL];split
  ·rw[List.all_cons,Bool.and_eq_true] at h;exact bare_all (c::l) h.2
  ·exact h
theorem bare_len:∀ s:List UInt8,(bareL s).length≤s.length
 | []=>Nat.le_refl _
 | [b]=>Nat.le_refl _
 | b::c::l=>by
  rw[bareL];split
  ·have:=bare_len (c::l);simp only[List.length_cons] at this ⊢; omega
  ·exact Nat.le_refl _
theorem bare_ne:∀ s:List UInt8,s≠[]→bareL s≠[]
 | [],h=>absurd rfl h
 | [b],_=>by simp[bareL]
 | b::c::l,_=>by
  rw[bareL];split
  ·exact bare_ne (c::l) (by simp)
  ·simp
def NoLead (s:List UInt8):Prop:=∀ b c l,s=b::c::l→b≠48
theorem bare_lead:∀ s:List UInt8,NoLead (bareL s)
 | []=>fun b c l h=>by simp[bareL] at h
 | [x]=>fun b c l h=>by simp[bareL] at h
 | x::y::m=>by
  rw[bareL];split
  ·exact bare_lead (y::m)
  ·rename_i d;intro b c l h;simp only[List.cons.injEq] at h;rw[← h.1]; exact d
theorem less_same:∀ a b:List UInt8,a.length=b.length→a.all dgB=true→b.all dgB=true→(Op.bytesLess a b=true↔val a<val b)
 | [],[],_,_,_=>by simp[Op.bytesLess,val]
 | [],y::b,h,_,_=>by simp at h
 | x::a,[],h,_,_=>by simp at h
 | x::a,y::b,h,ha,hb=>by
  rw[List.all_cons,Bool.and_eq_true] at ha hb;have hl:a.length=b.length:=by simpa using h
  have ih:=less_same a b hl ha.2 hb.2;have va:=val_lt ha.2;have vb:=val_lt hb.2;have dx:=of_decide_eq_true ha.1;have dy:=of_decide_eq_true hb.1;rw[val_cons,val_cons,← hl];rw[← hl] at vb;unfold Op.bytesLess;generalize 10 ^ a.length=P at *;by_cases c:x=y
  ·subst c;have hx:decide (x<x)=false:=decide_eq_false (by rw[ult]; omega);rw[hx];simp only[beq_self_eq_true,Bool.true_and,Bool.false_or];rw[ih]; omega
  ·have hne:(x==y)=false:=beq_eq_false_iff_ne.2 c;rw[hne];simp only[Bool.false_and,Bool.or_false,decide_eq_true_eq];rw[ult];have hn:x.toNat≠y.toNat:=fun h=>c (UInt8.toNat_inj.1 h);unfold dV;constructor
   ·intro h1;have:=Nat.mul_le_mul_right P (show x.toNat-48+1≤y.toNat-48 by omega);rw[Nat.add_mul] at this;omega
   ·intro h1;by_cases h2:x.toNat<y.toNat
    ·exact h2
    ·have:=Nat.mul_le_mul_right P (show y.toNat-48+1≤x.toNat-48 by omega);rw[Nat.add_mul] at this;omega
theorem less_len {a b:List UInt8} (h:a.length<b.length) (ha:a.all dgB=true) (hb:b.all dgB=true) (hn:NoLead b) (hne:a≠[]):val a<val b:=by
 have va:=val_lt ha;cases b with
 | nil=>simp at h
 | cons y b=>
  cases b with
  | nil=>
   simp at h;exact absurd h hne
  | cons z b=>
   have hy:=hn y z b rfl;rw[List.all_cons,Bool.and_eq_true] at hb;have dy:=of_decide_eq_true hb.1;have h1:1≤dV y:=by
    unfold dV;have:y.toNat≠48:=fun e=>hy (UInt8.toNat_inj.1 (by rw[e]; rfl));omega
   rw[val_cons];have h2:10 ^ a.length≤10 ^ (z::b).length:=Nat.pow_le_pow_right (by omega) (by simp only[List.length_cons] at h ⊢; omega);have h3:=Nat.mul_le_mul_right (10 ^ (z::b).length) h1;omega
theorem rless_eq (a b:List UInt8) (ha:a.all dgB=true) (hb:b.all dgB=true) (na:NoLead a) (nb:NoLead b) (ea:a≠[]) (eb:b≠[]):ref02_less a b=some (decide (val a<val b)):=by
 unfold ref02_less;by_cases c:a.length<b.length
 ·rw[if_pos (by omega),bnd_some',decide_eq_true (less_len c ha hb nb ea)]
 ·rw[if_neg (by omega)];by_cases d:a.length=b.length
  ·rw[if_pos (by omega),bnd_some'];have h:=less_same a b d ha hb;congr 1;by_cases e:val a<val b
   ·rw[decide_eq_true e,h.2 e]
   ·rw[decide_eq_false e];cases hq:Op.bytesLess a b with
    | true=>exact absurd (h.1 hq) e
    | false=>rfl
  ·have:=less_len (show b.length<a.length by omega) hb ha na eb;rw[if_neg (by omega),bnd_some',decide_eq_false (by omega)]
theorem rdigit_eq (x:UInt8):ref02_Digit x=some (dgB x):=by
 unfold ref02_Digit dgB;by_cases c:(x.toNat:Int)≥48
 ·rw[if_pos c,bnd_some'];congr 1;exact decide_eq_decide.2 (by omega)
 ·rw[if_neg c,bnd_some',decide_eq_false (by omega)]
def limP:List UInt8:=[57,50,50,51,51,55,50,48,51,54,56,53,52,55,55,53,56,48,55]
def limN:List UInt8:=[57,50,50,51,51,55,50,48,51,54,56,53,52,55,55,53,56,48,56]
theorem limP_val:val limP=big-1:=by decide
theorem limN_val:val limN=big:=by decide
theorem w64_back {y:Int} (h : -9223372036854775808≤y∧y≤9223372036854775807):w64 (w64 (y+48)-48)=y:=by
 by_cases c:y+48≤9223372036854775807
 ·rw[w64_id (x:=y+48) ⟨by omega,by omega⟩,w64_id ⟨by omega,by omega⟩]; omega
 ·have:w64 (y+48)=y+48-18446744073709551616:=by
   unfold w64 IntKind.wrap;simp only[IntKind.bits,IntKind.signed,Bool.true_and,decide_eq_true_eq,ge_iff_le];split <;> omega
  rw[this];unfold w64 IntKind.wrap;simp only[IntKind.bits,IntKind.signed,Bool.true_and,decide_eq_true_eq,ge_iff_le];split <;> omega
def pzr (neg:Bool) (r:List UInt8):Int × Bool:=if isN neg r then ((if neg=true then -(val r:Int) else (val r:Int)),true) else (0,false)
theorem rloop2 (r:List UInt8) (t:List UInt8) (neg:Bool) (hr:r.length≤100000) (hd:r.all dgB=true) (hv:val r≤(if neg=true then big else big-1)):loop (ref02_Parse.l2 (t,neg) r) (0,0)=some (if neg=true then -(val r:Int) else (val r:Int)):=by
 have hl:=loop_fold (f:=ref02_Parse.l2 (t,neg) r) (fun i (n:Int)=>(n,i)) r (fun pre=>if neg=true then -(val pre:Int) else (val pre:Int)) (t:=if neg=true then -(val r:Int) else (val r:Int)) (fun pre x suf hs=>by
  have hl:r.length=pre.length+(suf.length+1):=by rw[hs]; simp
  have hg:=val_append_ge (pre++[x]) suf;rw[show pre++[x]++suf=r by rw[hs]; simp,val_snoc] at hg;have hx:=List.all_eq_true.1 hd x (by rw[hs]; simp);have h9:=dV_le hx;have hdx:=of_decide_eq_true hx;have hdv:(x.toNat:Int)=(dV x:Int)+48:=by unfold dV; omega
  unfold ref02_Parse.l2;dsimp only;rw[if_pos (by omega),show idx r (pre.length:Int)=some x by rw[hs]; exact idx_at _ _ _];unfold big at hv;cases neg with
  | true=>
   rw[if_pos rfl] at hv;rw[if_pos rfl,if_pos rfl,if_pos rfl,bnd_some',hdv,bnd_some',w64_id (x:=-(val pre:Int)*10) ⟨by omega,by omega⟩,w64_id (x:=(dV x:Int)+48-48) ⟨by omega,by omega⟩,w64_id (x:=-(val pre:Int)*10-((dV x:Int)+48-48)) ⟨by omega,by omega⟩,w64_id ⟨by omega,by omega⟩,val_snoc];congr 3;omega
  | false=>
   rw[if_neg (by simp)] at hv;rw[if_neg (by simp),if_neg (by simp),if_neg (by simp),bnd_some',hdv,bnd_some',w64_id (x:=(val pre:Int)*10) ⟨by omega,by omega⟩,show (val pre:Int)*10+((dV x:Int)+48)=((val pre:Int)*10+(dV x:Int))+48 by omega,w64_back ⟨by omega,by omega⟩,w64_id ⟨by omega,by omega⟩,val_snoc];congr 3) (by
  unfold ref02_Parse.l2;dsimp only;rw[if_neg (by omega)])
 rw[show (if neg=true then -((val []:Nat):Int) else ((val []:Nat):Int))=0 by cases neg <;> rfl] at hl;exact hl
theorem rrest_eq (r:List UInt8) (neg:Bool) (hr:r.length≤100000):(if r=[] then some ((0:Int),false) else bnd (loop (ref02_Parse.l1 (r,neg)) 0:Option (Ex Unit (Int × Bool))) fun t10=>match t10 with
 | .brk u11=>
  bnd (ref02_bare r) fun x24=>
  bnd (if neg=true then some limN else some limP:Option (List UInt8)) fun t25=>
  bnd (ref02_less t25 x24) fun x27=>
  if x27=true then some (0,false) else
   bnd (loop (ref02_Parse.l2 (r,neg) x24) (0,0):Option Int) fun t29=>some (t29,true)
 | .ret u11=>some u11)=some (pzr neg r):=by
 unfold pzr;by_cases e:r=[]
 ·rw[if_pos e,if_neg (fun h=>h.2.1 e)]
 ·rw[if_neg e];obtain⟨q,h1,h2⟩:=loop_for (f:=ref02_Parse.l1 (r,neg)) (fun i (_:Unit)=>i) r (fun pre _=>pre.all dgB=true) (fun q=>match q with | .brk _=>r.all dgB=true | .ret v=>v=(0,false)∧¬ r.all dgB=true) (fun pre x suf s hs hI=>by
   have hl:r.length=pre.length+(suf.length+1):=by rw[hs]; simp
   unfold ref02_Parse.l1;dsimp only;rw[if_pos (by omega),show idx r (pre.length:Int)=some x by rw[hs]; exact idx_at _ _ _,bnd_some',rdigit_eq,bnd_some'];cases hd:dgB x with
   | true=>
    rw[if_pos rfl,w64_id ⟨by omega,by omega⟩];exact .inl ⟨(),rfl,by rw[List.all_append,hI]; simp[hd]⟩
   | false=>
    rw[if_neg (by simp)];refine .inr ⟨_,rfl,rfl,fun h=>?_⟩;have:=List.all_eq_true.1 h x (by rw[hs]; simp);rw[hd] at this; cases this) (fun s hI=>by
   unfold ref02_Parse.l1;dsimp only;rw[if_neg (by omega)];exact⟨_,rfl,hI⟩) (s0:=()) rfl
  rw[show loop (ref02_Parse.l1 (r,neg)) 0=some q from h1,bnd_some'];cases q with
  | ret v=>
   obtain⟨rfl,h3⟩:=h2;dsimp only;rw[if_neg (fun h=>h3 h.1)]
  | brk u=>
   dsimp only at h2 ⊢;have hb:=bare_len r;have hN:(if neg=true then some limN else some limP:Option (List UInt8))=some (if neg=true then limN else limP):=by cases neg <;> rfl
   have hlv:val (if neg=true then limN else limP)=(if neg=true then big else big-1):=by
    cases neg with
    | true=>exact limN_val
    | false=>exact limP_val
   have hla:(if neg=true then limN else limP).all dgB=true:=by cases neg <;> decide
   have hll:NoLead (if neg=true then limN else limP):=by
    intro b c l h;cases neg with
    | true=>
     rw[if_pos rfl] at h;unfold limN at h;simp only[List.cons.injEq] at h;rw[← h.1]; decide
    | false=>
     rw[if_neg (by simp)] at h;unfold limP at h;simp only[List.cons.injEq] at h;rw[← h.1]; decide
   have hle:(if neg=true then limN else limP)≠[]:=by cases neg <;> simp[limN,limP]
   rw[bare_eq r hr,bnd_some',hN,bnd_some',rless_eq _ _ hla (bare_all r h2) hll (bare_lead r) hle (bare_ne r e),bnd_some',hlv,bare_val];by_cases c:(if neg=true then big else big-1)<val r
   ·rw[decide_eq_true c,if_pos rfl,if_neg (fun h=>by have:=h.2.2; omega)]
   ·rw[decide_eq_false c,if_neg (by simp),rloop2 (bareL r) r neg (by omega) (bare_all r h2) (by rw[bare_val]; omega),bnd_some',bare_val,if_pos (show isN neg r from ⟨h2,e,by omega⟩)]
theorem rparse2_eq (a:List UInt8) (ha:a.length≤100000):ref02_Parse a=some (pz a):=by
 unfold ref02_Parse;have ht:(bnd (if (a.length:Int)>0 then bnd (idx a 0) fun x3=>if (x3.toNat:Int)=43 then some true else some ((x3.toNat:Int)==45) else some false:Option Bool) fun t1=>(if t1=true then bnd (idx a 0) fun x7=>bnd (cut a 1 (a.length:Int)) fun x8=>some (x8,((x7.toNat:Int)==45)) else some (a,false):Option ((List UInt8) × Bool)))=some ((sg a).2,(sg a).1):=by
  cases a with
  | nil=>rfl
  | cons b l=>
   have hc:cut (b::l) 1 ((b::l).length:Int)=some l:=by
    rw[cut_of ⟨by omega,by simp only[List.length_cons]; omega,by omega⟩,Int.toNat_natCast,List.take_length]; rfl
   rw[if_pos (by simp only[List.length_cons]; omega),show idx (b::l) 0=some b from rfl,bnd_some'];rw[show sg (b::l)=(if b=45 then (true,l) else if b=43 then (false,l) else (false,b::l)) from rfl];by_cases c:b=45
   ·have n43:¬ (b.toNat:Int)=43:=by rw[c]; decide
    rw[if_neg n43,beq_iff_eq.2 (c45.2 c),bnd_some',if_pos rfl,bnd_some',hc,bnd_some',if_pos c,beq_iff_eq.2 (c45.2 c)]
   ·have n45:((b.toNat:Int)==45)=false:=beq_eq_false_iff_ne.2 fun h=>c (c45.1 h);rw[if_neg c];by_cases d:b=43
    ·rw[if_pos (c43.2 d),bnd_some',if_pos rfl,bnd_some',hc,bnd_some',n45,if_pos d]
    ·rw[if_neg (fun h=>d (c43.1 h)),n45,bnd_some',if_neg (by simp),if_neg d]
 have key:∀ (R:(List UInt8) × Bool→Option (Int × Bool)),(bnd (if (a.length:Int)>0 then bnd (idx a 0) fun x3=>if (x3.toNat:Int)=43 then some true else some ((x3.toNat:Int)==45) else some false:Option Bool) fun t1=>bnd (if t1=true then bnd (idx a 0) fun x7=>bnd (cut a 1 (a.length:Int)) fun x8=>some (x8,((x7.toNat:Int)==45)) else some (a,false):Option ((List UInt8) × Bool)) R)=R ((sg a).2,(sg a).1):=fun R=>by
  cases hq:(if (a.length:Int)>0 then bnd (idx a 0) fun x3=>if (x3.toNat:Int)=43 then some true else some ((x3.toNat:Int)==45) else some false:Option Bool) with
  | none=>rw[hq] at ht; cases ht
  | some q=>rw[hq,bnd_some'] at ht; rw[bnd_some',ht,bnd_some']
 rw[key];have hl:=sg_len a;exact rrest_eq (sg a).2 (sg a).1 (by omega)
theorem rcompare_eq (a b:List UInt8) (ha:a.length≤100000) (hb:b.length≤100000):ref02_Compare a b=some (cmpT a b):=by
 unfold ref02_Compare cmpT;rw[rparse2_eq a ha,bnd_some',rparse2_eq b hb,bnd_some'];unfold byW;generalize pz a=p;generalize pz b=q;obtain⟨x,p2⟩:=p;obtain⟨y,q2⟩:=q;cases p2 <;> cases q2 <;> simp only[bnd_some',Bool.false_eq_true,if_false,if_true,beq_self_eq_true,decide_eq_true_eq,show (true==false)=false from rfl,show (false==true)=false from rfl]
 ·split
  ·rfl
  ·split <;> rfl
 ·split
  ·rfl
  ·split <;> rfl
theorem fst0_ge (l:List Int) (h:∀ x∈l,0≤x):decide (fstF 0 l≥0)=decide (l≠[]):=by
 cases l with
 | nil=>rfl
 | cons x l=>
  have hx:=h x (by simp);unfold fstF;rw[List.find?_cons_of_pos (p:=fun x=>decide ((0:Int)≤x)) (decide_eq_true hx)];simp[hx]
def txtAt (w:List UInt8) (d:Dr) (c:Int):List UInt8:=if 0≤c then (match d.1[c.toNat]? with|some j=>txt w j|none=>[]) else []
theorem txtAt_len {w:List UInt8} {d:Dr} (hd:okD w d) (c:Int):(txtAt w d c).length≤400:=by
 unfold txtAt;split
 ·cases hq:d.1[c.toNat]? with
  | none=>simp
  | some j=>exact txt_len w j (hd.1 j (List.mem_of_getElem? hq)).2
 ·simp
theorem none_bytes (w:List UInt8):cell_Cell_Bytes ⟨⟨[],0⟩,⟨0,0⟩,false⟩ w=some []:=by
 unfold cell_Cell_Bytes piece_Text_Flat;dsimp only;rw[loop_done (t:=[]) (by unfold piece_Text_Flat.l1; rfl),bnd_some',bnd_some']
theorem at_bytes {w:List UInt8} (hw:w.length≤4096) {d:Dr} (hd:okD w d) (c:Int):∃ x,row_Row_At (dR w d) c=some x∧cell_Cell_Bytes x.1 w=some (txtAt w d c):=by
 have h40:=hd.2;have hml:(dR w d).fCells.length=d.1.length:=List.length_map _;unfold row_Row_At row_Row_has txtAt;by_cases h0:0≤c
 ·rw[if_pos (show c≥0 from h0),bnd_some',bnd_some',if_pos h0];by_cases h1:c<(d.1.length:Int)
  ·have hlt:c.toNat<d.1.length:=by omega
   have hj:=hd.1 d.1[c.toNat] (List.getElem_mem hlt);rw[decide_eq_true (by omega),if_pos rfl,show idx (dR w d).fCells c=some (kc w d.1[c.toNat]) by
    unfold idx; rw[if_pos h0]; show (d.1.map (kc w))[c.toNat]? = _; rw[List.getElem?_map,List.getElem?_eq_getElem hlt]; rfl,bnd_some',List.getElem?_eq_getElem hlt]
   exact⟨_,rfl,cellBytes_eq w hw _ hj.1 hj.2⟩
  ·rw[decide_eq_false (by omega),if_neg (by simp),List.getElem?_eq_none (by omega)];exact⟨_,rfl,none_bytes w⟩
 ·rw[if_neg (show ¬ c≥0 from h0),bnd_some',bnd_some',if_neg (by simp),if_neg h0];exact⟨_,rfl,none_bytes w⟩
def pfx (s a:List UInt8):Bool:=decide (a.length≤s.length)&&(s.take a.length==a)
def sfx (s a:List UInt8):Bool:=decide (a.length≤s.length)&&(s.drop (s.length-a.length)==a)
def plB (s:List UInt8) (op:Int) (a:List UInt8):Bool:=
 if op=0 then (a==[]||decide (all a s≠[]))
else if op=1 then s==a
else if op=2 then decide (cmpT s a<0)
else if op=3 then decide (cmpT s a>0)
else if op=4 then pfx s a
else if op=5 then sfx s a
else s==[]
theorem pre_eq (s a:List UInt8) (hs:s.length≤100000) (ha:a.length≤100000):(if (s.length:Int)≥(a.length:Int) then bnd (cut s 0 (a.length:Int)) fun x15=>some (x15==a) else some false:Option Bool)=some (pfx s a):=by
 unfold pfx;by_cases c:a.length≤s.length
 ·rw[if_pos (by omega),cut_of ⟨by omega,by omega,by omega⟩,bnd_some',decide_eq_true c,Int.toNat_natCast]; rfl
 ·rw[if_neg (by omega),decide_eq_false c]; rfl
theorem suf_eq (s a:List UInt8) (hs:s.length≤100000) (ha:a.length≤100000):(if (s.length:Int)≥(a.length:Int) then bnd (cut s (w64 ((s.length:Int)-(a.length:Int))) (s.length:Int)) fun x15=>some (x15==a) else some false:Option Bool)=some (sfx s a):=by
 unfold sfx;by_cases c:a.length≤s.length
 ·rw[if_pos (by omega),w64_id ⟨by omega,by omega⟩,show (s.length:Int)-(a.length:Int)=((s.length-a.length:Nat):Int) by omega,cut_of ⟨by omega,by omega,by omega⟩,bnd_some',decide_eq_true c,Int.toNat_natCast,Int.toNat_natCast,List.take_length]; rfl
 ·rw[if_neg (by omega),decide_eq_false c]; rfl
theorem has1_eq (s a:List UInt8) (hs:s.length≤100000) (ha:a.length≤100000):filter_of_1 s a=some (a==[]||decide (all a s≠[])):=by
 unfold filter_of_1;cases a with
 | nil=>rfl
 | cons b l=>
  rw[if_neg (by simp only[List.length_cons]; omega),first_eq hs ha,bnd_some',bnd_some',fst0_ge _ (fun x hx=>by
   obtain⟨n,_,rfl⟩:=mem_ints hx;omega)]
  rfl
theorem holds_eq {w:List UInt8} (hw:w.length≤4096) {d:Dr} (hd:okD w d) (t:filter_Test) (ha:t.fArg.length≤1000):filter_Holds (dR w d) t w=some (!(plB (txtAt w d t.fCol) t.fOp t.fArg==t.fNot)):=by
 have hl:=txtAt_len hd t.fCol;obtain⟨x,h1,h2⟩:=at_bytes hw hd t.fCol;unfold filter_Holds filter_of;rw[h1,bnd_some',h2];generalize txtAt w d t.fCol=s at hl ⊢;unfold plB;by_cases c0:t.fOp=0
 ·rw[if_pos c0,if_pos c0,bnd_some'];dsimp only;rw[bnd_some',has1_eq s _ (by omega) (by omega),bnd_some']
 ·rw[if_neg c0,if_neg c0];by_cases c1:t.fOp=1
  ·rw[if_pos c1,if_pos c1,bnd_some'];dsimp only;unfold bytes_Equal;rw[bnd_some',bnd_some']
  ·rw[if_neg c1,if_neg c1];by_cases c2:t.fOp=2
   ·rw[if_pos c2,if_pos c2,bnd_some'];dsimp only;unfold filter_of_2;rw[bnd_some',compare_eq _ _ (by omega) (by omega),bnd_some',bnd_some']
   ·rw[if_neg c2,if_neg c2];by_cases c3:t.fOp=3
    ·rw[if_pos c3,if_pos c3,bnd_some'];dsimp only;unfold filter_of_3;rw[bnd_some',compare_eq _ _ (by omega) (by omega),bnd_some',bnd_some']
    ·rw[if_neg c3,if_neg c3];by_cases c4:t.fOp=4
     ·rw[if_pos c4,if_pos c4,bnd_some'];dsimp only;unfold bytes_HasPrefix bytes_Equal;rw[bnd_some'];have:=pre_eq s t.fArg (by omega) (by omega);simp only[bnd_some'] at this ⊢;rw[this,bnd_some',bnd_some']
     ·rw[if_neg c4,if_neg c4];by_cases c5:t.fOp=5
      ·rw[if_pos c5,if_pos c5,bnd_some'];dsimp only;unfold bytes_HasSuffix bytes_Equal;rw[bnd_some'];have:=suf_eq s t.fArg (by omega) (by omega);simp only[bnd_some'] at this ⊢;rw[this,bnd_some',bnd_some']
      ·rw[if_neg c5,if_neg c5,bnd_some'];dsimp only;unfold filter_of_4;rw[bnd_some',bnd_some'];cases s <;> rfl
theorem rplain_eq (s:List UInt8) (hs:s.length≤100000) (t:ref18_Test) (ha:t.fArg.length≤1000):ref18_plain s t=some (plB s t.fOp t.fArg):=by
 unfold ref18_plain plB;by_cases c0:t.fOp=0
 ·rw[if_pos c0,if_pos c0];cases hq:t.fArg with
  | nil=>rfl
  | cons b l=>
   rw[hq] at ha;rw[if_neg (by simp),refEvery_eq hs (by omega),bnd_some',bnd_some'];cases all (b::l) s with
   | nil=>rfl
   | cons y m=>simp
 ·rw[if_neg c0,if_neg c0];by_cases c1:t.fOp=1
  ·rw[if_pos c1,if_pos c1]
  ·rw[if_neg c1,if_neg c1];by_cases c2:t.fOp=2
   ·rw[if_pos c2,if_pos c2,rcompare_eq _ _ hs (by omega),bnd_some']
   ·rw[if_neg c2,if_neg c2];by_cases c3:t.fOp=3
    ·rw[if_pos c3,if_pos c3,rcompare_eq _ _ hs (by omega),bnd_some']
    ·rw[if_neg c3,if_neg c3];by_cases c4:t.fOp=4
     ·rw[if_pos c4,if_pos c4,pre_eq s _ hs (by omega),bnd_some']
     ·rw[if_neg c4,if_neg c4];by_cases c5:t.fOp=5
      ·rw[if_pos c5,if_pos c5,suf_eq s _ hs (by omega),bnd_some']
      ·rw[if_neg c5,if_neg c5]
theorem rholds_eq {w:List UInt8} {d:Dr} (hd:okD w d) (t:ref18_Test) (ha:t.fArg.length≤1000):ref18_Holds (dW w d) t=some (!(plB (txtAt w d t.fCol) t.fOp t.fArg==t.fNot)):=by
 have hl:=txtAt_len hd t.fCol;have hml:(dW w d).fCells.length=d.1.length:=List.length_map _;unfold ref18_Holds;have ht:∃ q:(List UInt8) × (List UInt8) × Bool,(bnd (if t.fCol≥0 then some (decide (t.fCol<((dW w d).fCells.length:Int))) else some false:Option Bool) fun t2=>(if t2=true then bnd (idx (dW w d).fCells t.fCol) fun x6=>some (x6.fS,x6.fRaw,x6.fKept) else some ([],[],false):Option ((List UInt8) × (List UInt8) × Bool)))=some q∧q.1=txtAt w d t.fCol:=by
  unfold txtAt;by_cases h0:0≤t.fCol
  ·rw[if_pos (show t.fCol≥0 from h0),bnd_some',if_pos h0];by_cases h1:t.fCol<(d.1.length:Int)
   ·have hlt:t.fCol.toNat<d.1.length:=by omega
    rw[decide_eq_true (by omega),if_pos rfl,show idx (dW w d).fCells t.fCol=some (pc w d.1[t.fCol.toNat]) by
     unfold idx; rw[if_pos h0]; show (d.1.map (pc w))[t.fCol.toNat]? = _; rw[List.getElem?_map,List.getElem?_eq_getElem hlt]; rfl,bnd_some',List.getElem?_eq_getElem hlt]
    exact⟨_,rfl,rfl⟩
   ·rw[decide_eq_false (by omega),if_neg (by simp),List.getElem?_eq_none (by omega)];exact⟨_,rfl,rfl⟩
  ·rw[if_neg (show ¬ t.fCol≥0 from h0),bnd_some',if_neg (by simp),if_neg h0];exact⟨_,rfl,rfl⟩
 obtain⟨q,h1,h2⟩:=ht;have key:∀ (R:(List UInt8) × (List UInt8) × Bool→Option Bool),(bnd (if t.fCol≥0 then some (decide (t.fCol<((dW w d).fCells.length:Int))) else some false:Option Bool) fun t2=>bnd (if t2=true then bnd (idx (dW w d).fCells t.fCol) fun x6=>some (x6.fS,x6.fRaw,x6.fKept) else some ([],[],false):Option ((List UInt8) × (List UInt8) × Bool)) R)=R q:=fun R=>by
  cases hq:(if t.fCol≥0 then some (decide (t.fCol<((dW w d).fCells.length:Int))) else some false:Option Bool) with
  | none=>rw[hq] at h1; cases h1
  | some v=>rw[hq,bnd_some'] at h1; rw[bnd_some',h1,bnd_some']
 rw[key,h2,rplain_eq _ (by omega) t ha];cases plB (txtAt w d t.fCol) t.fOp t.fArg <;> cases t.fNot <;> rfl
def allB (w:List UInt8) (d:Dr) (ts:List filter_Test):Bool:=ts.all fun t=>!(plB (txtAt w d t.fCol) t.fOp t.fArg==t.fNot)
def fine (ts:List filter_Test):Prop:=ts.length≤1000∧∀ t∈ts,t.fArg.length≤1000
theorem allT_eq {w:List UInt8} (hw:w.length≤4096) {d:Dr} (hd:okD w d) {ts:List filter_Test} (hf:fine ts):filter_all (dR w d) ts w=some (allB w d ts):=by
 unfold filter_all;obtain⟨q,h1,h2⟩:=loop_for (f:=filter_all.l1 (dR w d) ts w) (fun i (_:Unit)=>i) ts (fun pre _=>allB w d pre=true) (fun q=>match q with | .brk _=>allB w d ts=true | .ret v=>v=false∧allB w d ts=false) (fun pre x suf s hs hI=>by
  have hl:ts.length=pre.length+(suf.length+1):=by rw[hs]; simp
  have hfl:=hf.1;unfold filter_all.l1;rw[if_pos (by omega),show idx ts (pre.length:Int)=some x by rw[hs]; exact idx_at _ _ _,bnd_some',holds_eq hw hd x (hf.2 x (by rw[hs]; simp)),bnd_some'];cases hv:(!(plB (txtAt w d x.fCol) x.fOp x.fArg==x.fNot)) with
  | true=>
   rw[if_pos rfl,w64_id ⟨by omega,by omega⟩];refine .inl ⟨(),rfl,?_⟩;unfold allB at hI ⊢;rw[List.all_append,hI];simp only[List.all_cons,List.all_nil,hv,Bool.and_self]
  | false=>
   rw[if_neg (by simp)];refine .inr ⟨_,rfl,rfl,?_⟩;unfold allB;rw[hs,List.all_append,List.all_cons,hv];simp) (fun s hI=>by
  unfold filter_all.l1;rw[if_neg (by omega)];exact⟨_,rfl,hI⟩) (s0:=()) rfl
 rw[show loop (filter_all.l1 (dR w d) ts w) 0=some q from h1,bnd_some'];cases q with
 | brk u=>dsimp only at h2 ⊢; rw[h2]
 | ret v=>obtain⟨rfl,h3⟩:=h2; dsimp only; rw[h3]
def hidD (d:Dr) (b:Bool):Dr:=(d.1,d.2.1,b)
theorem rowHid_eq (w:List UInt8) (d:Dr) (hd:okD w d) (b:Bool):row_Row_Hide (dR w d) b=some (dR w (hidD d b)):=by
 unfold row_Row_Hide slices_Clone_cell_Cell_cell_Cell;have:(dR w d).fCells.length≤40:=by have:=hd.2; simp only[dR,List.length_map]; omega
 rw[app_of (by simp; omega),bnd_some',bnd_some'];rfl
def shD (w:List UInt8) (ts:List filter_Test) (d:Dr):Dr:=hidD d (!(allB w d ts))
def naD (w:List UInt8) (ts:List filter_Test) (d:Dr):Dr:=hidD d (d.2.2 || !(allB w d ts))
theorem show1_eq {w:List UInt8} (hw:w.length≤4096) {d:Dr} (hd:okD w d) {ts:List filter_Test} (hf:fine ts) (i:Int):filter_hide_1 i (dR w d) ts w=some (dR w (shD w ts d)):=by
 unfold filter_hide_1 filter_Show_1;rw[allT_eq hw hd hf,bnd_some',bnd_some',rowHid_eq w d hd,bnd_some'];rfl
theorem narrow1_eq {w:List UInt8} (hw:w.length≤4096) {d:Dr} (hd:okD w d) {ts:List filter_Test} (hf:fine ts) (i:Int):filter_hide_1_4 i (dR w d) ts w=some (dR w (naD w ts d)):=by
 unfold filter_hide_1_4 filter_Narrow_1 naD;rw[show (dR w d).fHidden=d.2.2 from rfl];cases d.2.2 with
 | true=>rw[if_pos rfl,bnd_some',bnd_some',rowHid_eq w d hd,bnd_some']; rfl
 | false=>rw[if_neg (by simp),allT_eq hw hd hf,bnd_some',bnd_some',bnd_some',rowHid_eq w d hd,bnd_some']; rfl
theorem mapT_eq {w:List UInt8} (hw:w.length≤4096) {D:List Dr} (hD:∀ d∈D,okD w d) (hl:D.length≤400) {t:tTr} (ht:IsT t (D.map (dR w))) {ts:List filter_Test} (hf:fine ts):∃ u,walk_Map_row_Row t ts w=some u∧IsT u ((D.map (shD w ts)).map (dR w)):=by
 have hml:(D.map (dR w)).length=D.length:=List.length_map _;obtain⟨u,h1,h2⟩:=Of_eq ((D.map (shD w ts)).map (dR w)) (by simp; omega);refine⟨u,?_,h2⟩;unfold walk_Map_row_Row slices_Clone_row_Row_row_Row;rw[wAll_eq t _ ht (by omega),bnd_some',app_of (by rw[hml]; simp; omega),bnd_some',bnd_some',List.nil_append];have key:loop (walk_Map_row_Row.l1 ts w (D.map (dR w))) (0,D.map (dR w))=some ((D.map (shD w ts)).map (dR w)):=by
  have hlp:=loop_nat (f:=walk_Map_row_Row.l1 ts w (D.map (dR w))) (fun i (s:List row_Row)=>(i,s)) D.length (fun k=>(D.take k).map (fun d=>dR w (shD w ts d))++(D.drop k).map (dR w)) (t:=(D.map (shD w ts)).map (dR w)) (fun i hi=>by
   have hd:D.drop i=D[i]::D.drop (i+1):=List.drop_eq_getElem_cons hi;have hlen:((D.take i).map (fun d=>dR w (shD w ts d))).length=i:=by rw[List.length_map,List.length_take]; omega
   unfold walk_Map_row_Row.l1;dsimp only;have hx:idx ((D.take i).map (fun d=>dR w (shD w ts d))++(D.drop i).map (dR w)) (i:Int)=some (dR w D[i]):=by
    rw[hd,List.map_cons];have:=idx_at ((D.take i).map (fun d=>dR w (shD w ts d))) (dR w D[i]) ((D.drop (i+1)).map (dR w));rwa[hlen] at this
   rw[if_pos (by omega),hx,bnd_some',show1_eq hw (hD _ (List.getElem_mem hi)) hf,bnd_some',w64_id ⟨by omega,by omega⟩,Int.toNat_natCast,hd,List.map_cons,List.set_append_right _ _ (by omega),hlen,Nat.sub_self,List.set_cons_zero,List.take_succ_eq_append_getElem hi,List.map_append,List.append_assoc];rfl) (by
   unfold walk_Map_row_Row.l1;dsimp only;rw[if_neg (by omega),List.take_length,List.drop_length,List.map_nil,List.append_nil,List.map_map]; rfl)
  exact hlp
 rw[key,bnd_some',h1,bnd_some']
theorem mapN_eq {w:List UInt8} (hw:w.length≤4096) {D:List Dr} (hD:∀ d∈D,okD w d) (hl:D.length≤400) {t:tTr} (ht:IsT t (D.map (dR w))) {ts:List filter_Test} (hf:fine ts):∃ u,walk_Map_row_Row_4 t ts w=some u∧IsT u ((D.map (naD w ts)).map (dR w)):=by
 have hml:(D.map (dR w)).length=D.length:=List.length_map _;obtain⟨u,h1,h2⟩:=Of_eq ((D.map (naD w ts)).map (dR w)) (by simp; omega);refine⟨u,?_,h2⟩;unfold walk_Map_row_Row_4 slices_Clone_row_Row_row_Row;rw[wAll_eq t _ ht (by omega),bnd_some',app_of (by rw[hml]; simp; omega),bnd_some',bnd_some',List.nil_append];have key:loop (walk_Map_row_Row_4.l1 ts w (D.map (dR w))) (0,D.map (dR w))=some ((D.map (naD w ts)).map (dR w)):=by
  have hlp:=loop_nat (f:=walk_Map_row_Row_4.l1 ts w (D.map (dR w))) (fun i (s:List row_Row)=>(i,s)) D.length (fun k=>(D.take k).map (fun d=>dR w (naD w ts d))++(D.drop k).map (dR w)) (t:=(D.map (naD w ts)).map (dR w)) (fun i hi=>by
   have hd:D.drop i=D[i]::D.drop (i+1):=List.drop_eq_getElem_cons hi;have hlen:((D.take i).map (fun d=>dR w (naD w ts d))).length=i:=by rw[List.length_map,List.length_take]; omega
   unfold walk_Map_row_Row_4.l1;dsimp only;have hx:idx ((D.take i).map (fun d=>dR w (naD w ts d))++(D.drop i).map (dR w)) (i:Int)=some (dR w D[i]):=by
    rw[hd,List.map_cons];have:=idx_at ((D.take i).map (fun d=>dR w (naD w ts d))) (dR w D[i]) ((D.drop (i+1)).map (dR w));rwa[hlen] at this
   rw[if_pos (by omega),hx,bnd_some',narrow1_eq hw (hD _ (List.getElem_mem hi)) hf,bnd_some',w64_id ⟨by omega,by omega⟩,Int.toNat_natCast,hd,List.map_cons,List.set_append_right _ _ (by omega),hlen,Nat.sub_self,List.set_cons_zero,List.take_succ_eq_append_getElem hi,List.map_append,List.append_assoc];rfl) (by
   unfold walk_Map_row_Row_4.l1;dsimp only;rw[if_neg (by omega),List.take_length,List.drop_length,List.map_nil,List.append_nil,List.map_map]; rfl)
  exact hlp
 rw[key,bnd_some',h1,bnd_some']
def wrongB (ts:List filter_Test):Bool:=ts.any fun t=>!(rightB t.fCol t.fOp t.fArg)
theorem wrong_eq {ts:List filter_Test} (hf:fine ts):filter_wrong ts=some (wrongB ts):=by
 unfold filter_wrong;obtain⟨q,h1,h2⟩:=loop_for (f:=filter_wrong.l1 ts) (fun i (_:Unit)=>i) ts (fun pre _=>wrongB pre=false) (fun q=>match q with | .brk _=>wrongB ts=false | .ret v=>v=true∧wrongB ts=true) (fun pre x suf s hs hI=>by
  have hl:ts.length=pre.length+(suf.length+1):=by rw[hs]; simp
  have hfl:=hf.1;have hx:=hf.2 x (by rw[hs]; simp);unfold filter_wrong.l1;rw[if_pos (by omega),show idx ts (pre.length:Int)=some x by rw[hs]; exact idx_at _ _ _,bnd_some',right_eq x (by omega),bnd_some'];cases hv:rightB x.fCol x.fOp x.fArg with
  | true=>
   rw[if_pos rfl,w64_id ⟨by omega,by omega⟩];refine .inl ⟨(),rfl,?_⟩;unfold wrongB at hI ⊢;rw[List.any_append,hI];simp[hv]
  | false=>
   rw[if_neg (by simp)];refine .inr ⟨_,rfl,rfl,?_⟩;unfold wrongB;rw[hs,List.any_append,List.any_cons,hv];simp) (fun s hI=>by
  unfold filter_wrong.l1;rw[if_neg (by omega)];exact⟨_,rfl,hI⟩) (s0:=()) rfl
 rw[show loop (filter_wrong.l1 ts) 0=some q from h1,bnd_some'];cases q with
 | brk u=>dsimp only at h2 ⊢; rw[h2]
 | ret v=>obtain⟨rfl,h3⟩:=h2; dsimp only; rw[h3]
theorem Show_eq {w:List UInt8} (hw:w.length≤4096) {D:List Dr} (hD:∀ d∈D,okD w d) (hl:D.length≤400) {t:tTr} (ht:IsT t (D.map (dR w))) (tl:Bool) (e:Int) {ts:List filter_Test} (hf:fine ts) (hr:wrongB ts=false):∃ u,filter_Show ⟨t,tl,e⟩ ts w=some (⟨u,tl,e⟩,0)∧IsT u ((D.map (shD w ts)).map (dR w)):=by
 obtain⟨u,h1,h2⟩:=mapT_eq hw hD hl ht hf;refine⟨u,?_,h2⟩;unfold filter_Show filter_hide;rw[wrong_eq hf,hr,bnd_some',if_neg (by simp),h1,bnd_some',bnd_some']
theorem Narrow_eq {w:List UInt8} (hw:w.length≤4096) {D:List Dr} (hD:∀ d∈D,okD w d) (hl:D.length≤400) {t:tTr} (ht:IsT t (D.map (dR w))) (tl:Bool) (e:Int) {ts:List filter_Test} (hf:fine ts) (hr:wrongB ts=false):∃ u,filter_Narrow ⟨t,tl,e⟩ ts w=some (⟨u,tl,e⟩,0)∧IsT u ((D.map (naD w ts)).map (dR w)):=by
 obtain⟨u,h1,h2⟩:=mapN_eq hw hD hl ht hf;refine⟨u,?_,h2⟩;unfold filter_Narrow filter_hide_4;rw[wrong_eq hf,hr,bnd_some',if_neg (by simp),h1,bnd_some',bnd_some']
def cutT (t:ref18_Test):ref18_Test:=⟨t.fCol,t.fOp,t.fArg.take 110,t.fNot⟩
def mineT (t:ref18_Test):filter_Test:=⟨t.fCol,t.fOp,t.fArg,t.fNot⟩
def fewR (a:List ref18_Test):List ref18_Test:=(a.take 4).map cutT
theorem few18_eq (a:List ref18_Test) (ha:a.length≤maxLen):law18_few a=some ((fewR a).map mineT,fewR a):=by
 have hm:maxLen=9223372036854775807:=by decide
 unfold law18_few;have hlp:=loop_fold (f:=law18_few.l1 a) (fun i (s:List filter_Test × List ref18_Test)=>(i,s)) a (fun pre=>((fewR pre).map mineT,fewR pre)) (t:=((fewR a).map mineT,fewR a)) (fun pre x suf hs=>by
  have hl:a.length=pre.length+(suf.length+1):=by rw[hs]; simp
  unfold law18_few.l1;dsimp only;rw[if_pos (by omega),show idx a (pre.length:Int)=some x by rw[hs]; exact idx_at _ _ _,bnd_some',w64_id ⟨by omega,by omega⟩];have hfl:(fewR pre).length≤4:=by unfold fewR; rw[List.length_map,List.length_take]; omega
  by_cases c:(pre.length:Int)<4
  ·unfold law18_mine;rw[if_pos c,show law11_Cut x.fArg 110=_ from cut11_eq x.fArg 110,bnd_some',bnd_some',app_of (by rw[List.length_map]; simp; omega),bnd_some',app_of (by simp; omega),bnd_some',bnd_some'];have hf:fewR (pre++[x])=fewR pre++[cutT x]:=by
    unfold fewR;rw[List.take_of_length_le (by simp; omega),List.take_of_length_le (by omega),List.map_append]; rfl
   rw[hf,List.map_append];rfl
  ·rw[if_neg c,bnd_some'];have hf:fewR (pre++[x])=fewR pre:=by
    unfold fewR;rw[List.take_append_of_le_length (by omega)]
   rw[hf]) (by
  unfold law18_few.l1;dsimp only;rw[if_neg (by omega)])
 rw[show loop (law18_few.l1 a) (0,[],[])=_ from hlp,bnd_some']
theorem few_fine (a:List ref18_Test):fine ((fewR a).map mineT)∧(fewR a).length≤4∧∀ t∈fewR a,t.fArg.length≤110:=by
 have h1:(fewR a).length≤4:=by unfold fewR; rw[List.length_map,List.length_take]; omega
 have h2:∀ t∈fewR a,t.fArg.length≤110:=fun t ht=>by
  obtain⟨x,_,rfl⟩:=List.mem_map.1 ht;show (x.fArg.take 110).length≤110;rw[List.length_take]; omega
 refine⟨⟨by rw[List.length_map]; omega,fun t ht=>?_⟩,h1,h2⟩;obtain⟨x,hx,rfl⟩:=List.mem_map.1 ht;have:=h2 x hx;show x.fArg.length≤1000;omega
theorem plainR_eq {w:List UInt8} (hw:w.length≤4096) {d:Dr} (hd:okD w d):law08_Plain (dR w d) w=some (dW w d):=by
 have h40:=hd.2;have hml:(dR w d).fCells.length=d.1.length:=List.length_map _;unfold law08_Plain;have hlp:=loop_fold (f:=law08_Plain.l1 (dR w d) w) (fun k (s:List ref07_Cell)=>(k,s)) d.1 (fun pre=>pre.map (pc w)) (t:=d.1.map (pc w)) (fun pre x suf hs=>by
  have hlen:d.1.length=pre.length+(suf.length+1):=by rw[hs]; simp
  have hx:=hd.1 x (by rw[hs]; simp);have hi:idx (dR w d).fCells (pre.length:Int)=some (kc w x):=by
   show idx (d.1.map (kc w)) _=_;rw[hs,List.map_append,List.map_cons];have:=idx_at (pre.map (kc w)) (kc w x) (suf.map (kc w));rwa[List.length_map] at this
  unfold law08_Plain.l1;dsimp only;rw[if_pos (by omega),hi,bnd_some',kc_plain w (by omega) x hx.1,bnd_some',app_of (by simp; omega),bnd_some',w64_id ⟨by omega,by omega⟩];simp) (by
  unfold law08_Plain.l1;dsimp only;rw[if_neg (by omega)])
 rw[show loop (law08_Plain.l1 (dR w d) w) (0,[])=_ from hlp,bnd_some'];rfl
theorem plainG_eq {w:List UInt8} (hw:w.length≤4096) {D:List Dr} (hD:∀ d∈D,okD w d) (hl:D.length≤400) {t:tTr} (ht:IsT t (D.map (dR w))) (tl:Bool) (e:Int):law11_Plain ⟨t,tl,e⟩ w=some ⟨D.map (dW w),tl,e⟩:=by
 have hml:(D.map (dR w)).length=D.length:=List.length_map _;unfold law11_Plain;have hlp:=loop_fold (f:=law11_Plain.l1 ⟨t,tl,e⟩ w) (fun k (s:List ref08_Row)=>(k,s)) D (fun pre=>pre.map (dW w)) (t:=D.map (dW w)) (fun pre x suf hs=>by
  have hlen:D.length=pre.length+(suf.length+1):=by rw[hs]; simp
  have hx:D[pre.length]'(by omega)=x:=by
   have:D[pre.length]? = some x:=by rw[hs]; simp
   rw[List.getElem?_eq_getElem (by omega)] at this;exact Option.some.inj this
  unfold law11_Plain.l1 grid_Grid_Len;dsimp only;rw[Len_eq t _ ht,bnd_some',bnd_some',if_pos (by omega),decide_eq_true (by omega),bnd_some',if_pos rfl,gridRow_eq t tl e _ ht (by omega) pre.length (by omega),bnd_some',List.getElem_map,hx];dsimp only;rw[plainR_eq hw (hD x (by rw[hs]; simp)),bnd_some',app_of (by simp; omega),bnd_some',w64_id ⟨by omega,by omega⟩];simp) (by
  unfold law11_Plain.l1 grid_Grid_Len;dsimp only;rw[Len_eq t _ ht,bnd_some',bnd_some',if_neg (by omega),bnd_some',if_neg (by simp)])
 rw[show loop (law11_Plain.l1 ⟨t,tl,e⟩ w) (0,[])=_ from hlp,bnd_some']
theorem cellsSelf (l:List ref07_Cell) (h:l.length≤4000):ref07_Same l l=some true:=by
 unfold ref07_Same;have hlp:=loop_fold (f:=ref07_Same.l1 l l) (fun k (_:Unit)=>k) l (fun _=>()) (t:=Ex.brk ()) (fun pre x suf hs=>by
  have hlen:l.length=pre.length+(suf.length+1):=by rw[hs]; simp
  have hi:idx l (pre.length:Int)=some x:=by rw[hs]; exact idx_at _ _ _
  unfold ref07_Same.l1;rw[if_pos (by omega),hi,bnd_some',bnd_some',if_pos rfl,w64_id ⟨by omega,by omega⟩]) (by
  unfold ref07_Same.l1;rw[if_neg (by omega)])
 rw[if_pos rfl,show loop (ref07_Same.l1 l l) 0=_ from hlp,bnd_some']
theorem rows18_same (w:List UInt8) {D:List Dr} (hD:∀ d∈D,okD w d) (hl:D.length≤400) (tl:Bool) (e:Int):ref11_Same ⟨D.map (dW w),tl,e⟩ ⟨D.map (dW w),tl,e⟩=some true:=by
 unfold ref11_Same;have hlp:=loop_fold (f:=ref11_Same.l1 ⟨D.map (dW w),tl,e⟩ ⟨D.map (dW w),tl,e⟩) (fun k (_:Unit)=>k) D (fun _=>()) (t:=Ex.brk ()) (fun pre x suf hs=>by
  have hlen:D.length=pre.length+(suf.length+1):=by rw[hs]; simp
  have hml:(D.map (dW w)).length=D.length:=List.length_map _;have hi:idx (D.map (dW w)) (pre.length:Int)=some (dW w x):=by
   rw[hs,List.map_append,List.map_cons];have:=idx_at (pre.map (dW w)) (dW w x) (suf.map (dW w));rwa[List.length_map] at this
  have h40:=(hD x (by rw[hs]; simp)).2;unfold ref11_Same.l1 ref08_Same;dsimp only;rw[if_pos (by omega),hi,bnd_some',bnd_some',if_pos rfl,if_pos (beq_self_eq_true _),cellsSelf (dW w x).fCells (show ((x.1.map (pc w)).length≤4000) by rw[List.length_map]; omega),bnd_some',bnd_some',bnd_some',if_pos rfl,w64_id ⟨by omega,by omega⟩]) (by
  unfold ref11_Same.l1;dsimp only;rw[if_neg (by rw[List.length_map]; omega)])
 dsimp only;rw[if_pos rfl,if_pos (by simp),bnd_some',if_neg (by simp),show loop (ref11_Same.l1 ⟨D.map (dW w),tl,e⟩ ⟨D.map (dW w),tl,e⟩) 0=_ from hlp,bnd_some']
def fD (w:List UInt8) (b:Bool) (ts:List filter_Test) (d:Dr):Dr:=hidD d ((b&&d.2.2) || !(allB w d ts))
theorem rshow1_eq (w:List UInt8) {d:Dr} (hd:okD w d) (A:List ref18_Test) (hl:A.length≤4) (hA:∀ t∈A,t.fArg.length≤110) (b:Bool):loop (ref18_Show.l2 A (dW w d)) (b,0)=some (b || !(allB w d (A.map mineT))):=by
 have hlp:=loop_fold (f:=ref18_Show.l2 A (dW w d)) (fun k (s:Bool)=>(s,k)) A (fun pre=>b || !(allB w d (pre.map mineT))) (t:=b || !(allB w d (A.map mineT))) (fun pre x suf hs=>by
  have hlen:A.length=pre.length+(suf.length+1):=by rw[hs]; simp
  have hi:idx A (pre.length:Int)=some x:=by rw[hs]; exact idx_at _ _ _
  have hx:=hA x (by rw[hs]; simp);unfold ref18_Show.l2;dsimp only;rw[if_pos (by omega),hi,bnd_some',w64_id ⟨by omega,by omega⟩];have e:(if (b || !(allB w d (pre.map mineT)))=true then some true else bnd (ref18_Holds (dW w d) x) fun x47=>some (!x47):Option Bool)=some (b || !(allB w d ((pre++[x]).map mineT))):=by
   have ea:allB w d ((pre++[x]).map mineT)=(allB w d (pre.map mineT) && !(plB (txtAt w d x.fCol) x.fOp x.fArg==x.fNot)):=by
    unfold allB;rw[List.map_append,List.all_append]; simp[mineT]
   rw[ea];by_cases c:(b || !(allB w d (pre.map mineT)))=true
   ·rw[if_pos c];congr 1;revert c;cases b <;> cases allB w d (pre.map mineT) <;> simp
   ·rw[if_neg c,rholds_eq hd x (by omega),bnd_some'];congr 1;revert c;cases b <;> cases allB w d (pre.map mineT) <;> simp
  rw[e,bnd_some']) (by
  unfold ref18_Show.l2;dsimp only;rw[if_neg (by omega)])
 have e0:(b || !(allB w d (([]:List ref18_Test).map mineT)))=b:=by unfold allB; simp
 rw[e0] at hlp;exact hlp
theorem rShow_eq (w:List UInt8) {D:List Dr} (hD:∀ d∈D,okD w d) (hl:D.length≤400) (tl:Bool) (e:Int) (A:List ref18_Test) (h4:A.length≤4) (hA:∀ t∈A,t.fArg.length≤110) (b:Bool):ref18_Show ⟨D.map (dW w),tl,e⟩ A b=some (if wrongB (A.map mineT)=true then (⟨[],false,0⟩,1) else (⟨(D.map (fD w b (A.map mineT))).map (dW w),tl,e⟩,0)):=by
 unfold ref18_Show;obtain⟨q,h1,h2⟩:=loop_for (f:=ref18_Show.l1 A) (fun i (_:Unit)=>i) A (fun pre _=>wrongB (pre.map mineT)=false) (fun q=>match q with | .brk _=>wrongB (A.map mineT)=false | .ret v=>v=(⟨[],false,0⟩,1)∧wrongB (A.map mineT)=true) (fun pre x suf s hs hI=>by
  have hlen:A.length=pre.length+(suf.length+1):=by rw[hs]; simp
  have hx:=hA x (by rw[hs]; simp);unfold ref18_Show.l1;rw[if_pos (by omega),show idx A (pre.length:Int)=some x by rw[hs]; exact idx_at _ _ _,bnd_some',rright_eq x (by omega),bnd_some'];cases hv:rightB x.fCol x.fOp x.fArg with
  | true=>
   rw[if_pos rfl,w64_id ⟨by omega,by omega⟩];refine .inl ⟨(),rfl,?_⟩;unfold wrongB at hI ⊢;rw[List.map_append,List.any_append,hI];simp[mineT,hv]
  | false=>
   rw[if_neg (by simp)];refine .inr ⟨_,rfl,rfl,?_⟩;unfold wrongB;rw[hs,List.map_append,List.any_append,List.map_cons,List.any_cons,show rightB (mineT x).fCol (mineT x).fOp (mineT x).fArg=false from hv];simp) (fun s hI=>by
  unfold ref18_Show.l1;rw[if_neg (by omega)];exact⟨_,rfl,hI⟩) (s0:=()) rfl
 rw[show loop (ref18_Show.l1 A) 0=some q from h1,bnd_some'];cases q with
 | ret v=>obtain⟨rfl,h3⟩:=h2; dsimp only; rw[if_pos h3]
 | brk u=>
  dsimp only at h2 ⊢;rw[if_neg (by rw[h2]; simp)];have hlp:=loop_fold (f:=ref18_Show.l3 ⟨D.map (dW w),tl,e⟩ A b) (fun k (s:List ref08_Row)=>(k,s)) D (fun pre=>(pre.map (fD w b (A.map mineT))).map (dW w)) (t:=(D.map (fD w b (A.map mineT))).map (dW w)) (fun pre x suf hs=>by
   have hlen:D.length=pre.length+(suf.length+1):=by rw[hs]; simp
   have hml:(D.map (dW w)).length=D.length:=List.length_map _;have hi:idx (D.map (dW w)) (pre.length:Int)=some (dW w x):=by
    rw[hs,List.map_append,List.map_cons];have:=idx_at (pre.map (dW w)) (dW w x) (suf.map (dW w));rwa[List.length_map] at this
   unfold ref18_Show.l3;dsimp only;rw[if_pos (by omega),hi,bnd_some',show (if b=true then some (dW w x).fHidden else some false:Option Bool)=some (b&&x.2.2) by cases b <;> rfl,bnd_some',rshow1_eq w (hD x (by rw[hs]; simp)) A h4 hA,bnd_some',app_of (by simp; omega),bnd_some',w64_id ⟨by omega,by omega⟩,List.map_append,List.map_append];rfl) (by
   unfold ref18_Show.l3;dsimp only;rw[if_neg (by rw[List.length_map]; omega)])
  rw[show loop (ref18_Show.l3 ⟨D.map (dW w),tl,e⟩ A b) (0,[])=_ from hlp,bnd_some'];rfl
theorem rNone18_eq (w:List UInt8) {D:List Dr} (hl:D.length≤400) (tl:Bool) (e:Int):ref18_Show_2 ⟨D.map (dW w),tl,e⟩ false=some (⟨(D.map (hidD · false)).map (dW w),tl,e⟩,0):=by
 unfold ref18_Show_2;rw[loop_done (show ref18_Show_2.l1 ()=some (.done ()) from rfl),bnd_some'];have hlp:=loop_fold (f:=ref18_Show_2.l3 ⟨D.map (dW w),tl,e⟩ false) (fun k (s:List ref08_Row)=>(k,s)) D (fun pre=>(pre.map (hidD · false)).map (dW w)) (t:=(D.map (hidD · false)).map (dW w)) (fun pre x suf hs=>by
  have hlen:D.length=pre.length+(suf.length+1):=by rw[hs]; simp
  have hml:(D.map (dW w)).length=D.length:=List.length_map _;have hi:idx (D.map (dW w)) (pre.length:Int)=some (dW w x):=by
   rw[hs,List.map_append,List.map_cons];have:=idx_at (pre.map (dW w)) (dW w x) (suf.map (dW w));rwa[List.length_map] at this
  unfold ref18_Show_2.l3;dsimp only;rw[if_pos (by omega),hi,bnd_some',if_neg (by simp),bnd_some',loop_done (show ref18_Show_2.l2 ()=some (.done ()) from rfl),bnd_some',app_of (by simp; omega),bnd_some',w64_id ⟨by omega,by omega⟩,List.map_append,List.map_append];rfl) (by
  unfold ref18_Show_2.l3;dsimp only;rw[if_neg (by rw[List.length_map]; omega)])
 rw[show loop (ref18_Show_2.l3 ⟨D.map (dW w),tl,e⟩ false) (0,[])=_ from hlp,bnd_some'];rfl
theorem mapA_eq {w:List UInt8} {D:List Dr} (hD:∀ d∈D,okD w d) (hl:D.length≤400) {t:tTr} (ht:IsT t (D.map (dR w))) (tl:Bool) (e:Int):∃ u,filter_All ⟨t,tl,e⟩=some ⟨u,tl,e⟩∧IsT u ((D.map (hidD · false)).map (dR w)):=by
 have hml:(D.map (dR w)).length=D.length:=List.length_map _;obtain⟨u,h1,h2⟩:=Of_eq ((D.map (hidD · false)).map (dR w)) (by simp; omega);refine⟨u,?_,h2⟩;unfold filter_All filter_hide_2 walk_Map_row_Row_2 slices_Clone_row_Row_row_Row;dsimp only;rw[wAll_eq t _ ht (by omega),bnd_some',app_of (by rw[hml]; simp; omega),bnd_some',bnd_some',List.nil_append];have key:loop (walk_Map_row_Row_2.l1 (D.map (dR w))) (0,D.map (dR w))=some ((D.map (hidD · false)).map (dR w)):=by
  have hlp:=loop_nat (f:=walk_Map_row_Row_2.l1 (D.map (dR w))) (fun i (s:List row_Row)=>(i,s)) D.length (fun k=>(D.take k).map (fun d=>dR w (hidD d false))++(D.drop k).map (dR w)) (t:=(D.map (hidD · false)).map (dR w)) (fun i hi=>by
   have hd:D.drop i=D[i]::D.drop (i+1):=List.drop_eq_getElem_cons hi;have hlen:((D.take i).map (fun d=>dR w (hidD d false))).length=i:=by rw[List.length_map,List.length_take]; omega
   unfold walk_Map_row_Row_2.l1;dsimp only;have hx:idx ((D.take i).map (fun d=>dR w (hidD d false))++(D.drop i).map (dR w)) (i:Int)=some (dR w D[i]):=by
    rw[hd,List.map_cons];have:=idx_at ((D.take i).map (fun d=>dR w (hidD d false))) (dR w D[i]) ((D.drop (i+1)).map (dR w));rwa[hlen] at this
   unfold filter_hide_1_2 filter_All_1;rw[if_pos (by omega),hx,bnd_some',bnd_some',rowHid_eq w _ (hD _ (List.getElem_mem hi)),bnd_some',bnd_some',w64_id ⟨by omega,by omega⟩,Int.toNat_natCast,hd,List.map_cons,List.set_append_right _ _ (by omega),hlen,Nat.sub_self,List.set_cons_zero,List.take_succ_eq_append_getElem hi,List.map_append,List.append_assoc];rfl) (by
   unfold walk_Map_row_Row_2.l1;dsimp only;rw[if_neg (by omega),List.take_length,List.drop_length,List.map_nil,List.append_nil,List.map_map]; rfl)
  exact hlp
 rw[key,bnd_some',h1,bnd_some',bnd_some',bnd_some']
theorem okF {w:List UInt8} {D:List Dr} (hD:∀ d∈D,okD w d) (F:Dr→Dr) (hF:∀ d,(F d).1=d.1):∀ d∈D.map F,okD w d:=fun d hd=>by
 obtain⟨x,hx,rfl⟩:=List.mem_map.1 hd;have:=hD x hx;unfold okD at this ⊢;rw[hF]; exact this
theorem both_eq {w:List UInt8} (hw:w.length≤4096) {D:List Dr} (hD:∀ d∈D,okD w d) (hl:D.length≤400) {t:tTr} (ht:IsT t (D.map (dR w))) (tl:Bool) (e:Int) (a:List ref18_Test) (b:Bool):∃ g r c,(if b then filter_Narrow else filter_Show) ⟨t,tl,e⟩ ((fewR a).map mineT) w=some (g,c)∧ref18_Show ⟨D.map (dW w),tl,e⟩ (fewR a) b=some (r,c)∧law11_Plain g w=some r∧ref11_Same r r=some true:=by
 obtain⟨f1,f2,f3⟩:=few_fine a;generalize fewR a=A at f1 f2 f3 ⊢;rw[rShow_eq w hD hl tl e A f2 f3 b];by_cases c:wrongB (A.map mineT)=true
 ·rw[if_pos c];refine⟨⟨⟨none⟩,false,0⟩,⟨[],false,0⟩,1,?_,rfl,plainG_eq (D:=[]) hw (by simp) (by simp) (.inl ⟨rfl,rfl⟩) false 0,rows18_same w (D:=[]) (by simp) (by simp) false 0⟩;cases b with
  | true=>rw[if_pos rfl]; unfold filter_Narrow; rw[wrong_eq f1,bnd_some',if_pos c]
  | false=>rw[if_neg (by simp)]; unfold filter_Show; rw[wrong_eq f1,bnd_some',if_pos c]
 ·rw[if_neg c];have c':wrongB (A.map mineT)=false:=by simpa using c
  generalize A.map mineT=K at f1 c' ⊢;have ok:=okF hD (fD w b K) fun _=>rfl;have hlf:(D.map (fD w b K)).length≤400:=by rw[List.length_map]; exact hl
  cases b with
  | true=>
   obtain⟨u,u1,u2⟩:=Narrow_eq hw hD hl ht tl e f1 c';have e:D.map (fD w true K)=D.map (naD w K):=List.map_congr_left fun d _=>by unfold fD naD; rw[Bool.true_and]
   rw[e] at ok hlf ⊢;exact⟨_,_,0,by rw[if_pos rfl]; exact u1,rfl,plainG_eq hw ok hlf u2 tl _,rows18_same w ok hlf tl _⟩
  | false=>
   obtain⟨u,u1,u2⟩:=Show_eq hw hD hl ht tl e f1 c';have e:D.map (fD w false K)=D.map (shD w K):=List.map_congr_left fun d _=>by unfold fD shD; rw[Bool.false_and,Bool.false_or]
   rw[e] at ok hlf ⊢;exact⟨_,_,0,by rw[if_neg (by simp)]; exact u1,rfl,plainG_eq hw ok hlf u2 tl _,rows18_same w ok hlf tl _⟩
theorem awake18s_eq:law18_awake=some true:=by decide +kernel
theorem FilterShows_holds (a0:List UInt8) (a1:Int) (a2:List ref18_Test) (w0:a0.length≤maxLen) (w1:(Lit.int .u64 a1).wf=true) (w2:a2.length≤maxLen∧∀ a∈a2,(Lit.int .i64 a.fCol).wf=true∧(Lit.int .i64 a.fOp).wf=true∧a.fArg.length≤maxLen∧True):law18_FilterShows a0 a1 a2=some true:=by
 unfold law18_FilterShows;cases hb:isBad (a0.take 1500) with
 | true=>
  rw[hide_bad a0 a1 hb,bnd_some'];dsimp only;rw[if_neg (by simp),awake18s_eq,bnd_some']
 | false=>
  have hw:(a0.take 1500).length≤1500:=by simp; omega
  obtain⟨t,D,tl,e,h1,h2,h3,h4⟩:=hide_ok a0 a1 hb;generalize a0.take 1500=w at hw h1 h2 h4;rw[h1,bnd_some'];dsimp only;rw[if_pos rfl,few18_eq a2 w2.1,bnd_some'];dsimp only;obtain⟨g1,r1,c1,s1,s2,s3,s4⟩:=both_eq (by omega) h4 h3 h2 tl e a2 false;obtain⟨g2,r2,c2,n1,n2,n3,n4⟩:=both_eq (by omega) h4 h3 h2 tl e a2 true;rw[if_neg (by simp)] at s1;rw[if_pos rfl] at n1;obtain⟨u,u1,u2⟩:=mapA_eq h4 h3 h2 tl e;have oka:=okF h4 (hidD · false) fun _=>rfl;have hla:(D.map (hidD · false)).length≤400:=by rw[List.length_map]; exact h3
  rw[s1,bnd_some',s2,bnd_some',n1,bnd_some',n2,bnd_some',rNone18_eq w h3 tl e,bnd_some'];dsimp only;rw[if_pos rfl,s3,bnd_some',s4,bnd_some',if_pos rfl,if_pos rfl,n3,bnd_some',n4,bnd_some',if_pos rfl,u1,bnd_some',plainG_eq (by omega) oka hla u2 tl e,bnd_some',rows18_same w oka hla tl e,bnd_some',if_pos rfl,awake18s_eq,bnd_some',bnd_some']
end Go.Proofs.YtpmhiiemklhbhaaGreat.S
