import Derived.Test.YtpmhiiemklhbhaaGreatG0
import Derived.Test.YtpmhiiemklhbhaaGreatG1xa
import Derived.Test.YtpmhiiemklhbhaaGreatG1xb
import Derived.Test.YtpmhiiemklhbhaaGreatG1xc
import Derived.Test.YtpmhiiemklhbhaaGreatG1xd
import Derived.Test.YtpmhiiemklhbhaaGreatG1xe
import Derived.Test.YtpmhiiemklhbhaaGreatSD
set_option linter.unusedVariables false
namespace Go.Proofs.YtpmhiiemklhbhaaGreat.S
open Go Go.Sm
def rangeI (a:Int) (n:Nat):List Int:=(List.range n).map fun i:Nat=>a+(i:Int)
theorem rangeI_succ (a:Int) (n:Nat):rangeI a (n+1)=rangeI a n++[a+(n:Int)]:=by simp[rangeI,List.range_succ]
theorem rangeI_len (a:Int) (n:Nat):(rangeI a n).length=n:=by simp[rangeI]
theorem rangeI_add (a:Int) (m:Nat):∀ n:Nat,rangeI a (m+n)=rangeI a m++rangeI (a+(m:Int)) n
 | 0=>by simp[rangeI]
 | n+1=>by rw[← Nat.add_assoc,rangeI_succ,rangeI_add a m n,rangeI_succ,List.append_assoc]; congr 2; simp; omega
def exp1 (s:arena_Span):List Int:=rangeI s.fAt s.fN.toNat
def expand (L:List arena_Span):List Int:=L.flatMap exp1
theorem expand_append (L M:List arena_Span):expand (L++M)=expand L++expand M:=by simp[expand]
theorem expand_one (s:arena_Span):expand [s]=exp1 s:=by simp[expand]
def addS (L:List arena_Span) (s:arena_Span):List arena_Span:=
 if s.fN<1 then L else match L.getLast? with
| none=>[s]
| some k=>if k.fAt+k.fN=s.fAt then L.dropLast++[⟨k.fAt,k.fN+s.fN⟩] else L++[s]
theorem addS_nil {s:arena_Span} (h:¬ s.fN<1):addS [] s=[s]:=by simp[addS,h]
theorem addS_less {L:List arena_Span} {s:arena_Span} (h:s.fN<1):addS L s=L:=by simp[addS,h]
theorem addS_snoc {L:List arena_Span} {k s:arena_Span} (h:¬ s.fN<1):addS (L++[k]) s=if k.fAt+k.fN=s.fAt then L++[⟨k.fAt,k.fN+s.fN⟩] else L++[k]++[s]:=by simp[addS,h]
def addI (L:List arena_Span) (x:Int):List arena_Span:=addS L ⟨x,1⟩
def canon (r:List Int):List arena_Span:=r.foldl addI []
theorem snoc_cases (L:List arena_Span):L=[]∨∃ M k,L=M++[k]:=by
 rcases List.eq_nil_or_concat L with h|⟨M,k,h⟩
 ·exact .inl h
 ·exact .inr ⟨M,k,by simpa using h⟩
theorem addI_range (a:Int) (L:List arena_Span):∀ n:Nat,(rangeI a n).foldl addI L=addS L ⟨a,n⟩
 | 0=>by rw[addS_less (by simp)]; rfl
 | n+1=>by
  rw[rangeI_succ,List.foldl_append,addI_range a L n];simp only[List.foldl_cons,List.foldl_nil,addI];have h1:¬ ((1:Int)<1):=by omega
  have h2:¬ ((((n+1:Nat):Int))<1):=by omega
  cases n with
  | zero=>rw[addS_less (L:=L) (s:=⟨a,((0:Nat):Int)⟩) (by simp)]; simp
  | succ n=>
   have h3:¬ ((((n+1:Nat):Int))<1):=by omega
   rcases snoc_cases L with rfl|⟨M,k,rfl⟩
   ·rw[addS_nil h3,addS_nil h2,show [(⟨a,((n+1:Nat):Int)⟩:arena_Span)]=[]++[⟨a,((n+1:Nat):Int)⟩] from rfl,addS_snoc h1];simp only[List.nil_append];rw[if_pos trivial]; simp
   ·rw[addS_snoc h3,addS_snoc h2];by_cases hk:k.fAt+k.fN=a
    ·rw[if_pos hk,if_pos hk,addS_snoc h1];simp only;rw[if_pos (by omega)];simp; omega
    ·rw[if_neg hk,if_neg hk,addS_snoc h1];simp only;rw[if_pos trivial]; simp
theorem addS_exp (L:List arena_Span) (s:arena_Span):addS L s=(exp1 s).foldl addI L:=by
 unfold exp1;rw[addI_range];by_cases h:s.fN<1
 ·rw[addS_less h,addS_less (by simp; omega)]
 ·rw[Int.toNat_of_nonneg (by omega)]
def Good (s:arena_Span):Prop:=0≤s.fAt∧1≤s.fN∧s.fAt+s.fN≤2097152
theorem addS_good {L:List arena_Span} {s:arena_Span} (hL:∀ k∈L,Good k) (hs:1≤s.fN→Good s):∀ k∈addS L s,Good k:=by
 by_cases h:s.fN<1
 ·rw[addS_less h]; exact hL
 ·have hs':=hs (by omega);rcases snoc_cases L with rfl|⟨M,k,rfl⟩
  ·rw[addS_nil h]; simpa using hs'
  ·rw[addS_snoc h];split
   ·rename_i hk;intro x hx;rcases List.mem_append.1 hx with hx|hx
    ·exact hL x (List.mem_append_left _ hx)
    ·have:=hL k (by simp);simp at hx; subst hx;simp only[Good] at this hs' ⊢;omega
   ·intro x hx;rcases List.mem_append.1 hx with hx|hx
    ·exact hL x hx
    ·simp at hx; subst hx; exact hs'
theorem addS_expand {L:List arena_Span} {s:arena_Span} (hL:∀ k∈L,Good k):expand (addS L s)=expand L++exp1 s:=by
 by_cases h:s.fN<1
 ·rw[addS_less h]; simp[exp1,rangeI,show s.fN.toNat=0 by omega]
 ·rcases snoc_cases L with rfl|⟨M,k,rfl⟩
  ·rw[addS_nil h,expand_one]; rfl
  ·rw[addS_snoc h];split
   ·rename_i hk;have:=hL k (by simp);simp only[Good] at this;simp only[expand_append,expand_one,List.append_assoc];congr 1;simp only[exp1];rw[show (k.fN+s.fN).toNat=k.fN.toNat+s.fN.toNat by omega,rangeI_add];congr 2; omega
   ·rw[expand_append,expand_one]
theorem canon_snoc (r:List Int) (x:Int):canon (r++[x])=addI (canon r) x:=by simp[canon,List.foldl_append]
def GoodP (r:List Int):Prop:=∀ x∈r,0≤x∧x<2097152
theorem canon_good:∀ (r:List Int),GoodP r→∀ k∈canon r,Good k:=by
 intro r
 induction r using snoc_ind with
 | nil=>intro _ k hk; cases hk
 | snoc r x ih=>
  intro hr;rw[canon_snoc];exact addS_good (ih fun y hy=>hr y (by simp[hy])) (fun _=>by have:=hr x (by simp); simp only[Good]; omega)
theorem canon_expand (r:List Int) (hr:GoodP r):expand (canon r)=r:=by
 induction r using snoc_ind with
 | nil=>rfl
 | snoc r x ih=>
  have hr':GoodP r:=fun y hy=>hr y (by simp[hy]);rw[canon_snoc,addI,addS_expand (canon_good r hr'),ih hr'];simp[exp1,rangeI]
def tOf (r:List Int):piece_Text:=⟨canon r,(r.length:Int)⟩
theorem join_eq (k s:arena_Span) (hk:Good k) (hs:Good s):arena_Join k s=some (if k.fAt+k.fN=s.fAt then (⟨k.fAt,k.fN+s.fN⟩,true) else (⟨0,0⟩,false)):=by
 simp only[Good] at hk hs;unfold arena_Join;rw[if_neg (by omega),if_neg (by omega),bnd_some',w64_id ⟨by omega,by omega⟩];by_cases h:k.fAt+k.fN=s.fAt
 ·have:s=(⟨k.fAt+k.fN,s.fN⟩:arena_Span):=by cases s; simp_all
  rw[if_pos h,if_neg (by simp only[Bool.not_eq_true',beq_eq_false_iff_ne,ne_eq,Classical.not_not]; exact this),w64_id ⟨by omega,by omega⟩]
 ·have:s≠(⟨k.fAt+k.fN,s.fN⟩:arena_Span):=fun e=>h (congrArg arena_Span.fAt e).symm;rw[if_neg h,if_pos (by simpa using this)]
theorem addI_len (L:List arena_Span) (s:arena_Span):(addS L s).length≤L.length+1:=by
 by_cases h:s.fN<1
 ·rw[addS_less h]; omega
 ·rcases snoc_cases L with rfl|⟨M,k,rfl⟩
  ·rw[addS_nil h]; simp
  ·rw[addS_snoc h]; split <;> simp
theorem canon_len:∀ r:List Int,(canon r).length≤r.length:=by
 intro r
 induction r using snoc_ind with
 | nil=>simp[canon]
 | snoc r x ih=>rw[canon_snoc]; have:=addI_len (canon r) ⟨x,1⟩; simp only[addI,List.length_append,List.length_cons,List.length_nil]; omega
theorem idx_map {α β:Type} (g:α→β) (l:List α) (i:Int):idx (l.map g) i=(idx l i).map g:=by
 unfold idx; split <;> simp
theorem exp_sub {r:List Int} (hr:GoodP r) {pre suf:List arena_Span} (h:canon r=pre++suf):GoodP (expand pre)∧(expand pre).length≤r.length∧r=expand pre++expand suf:=by
 have:=canon_expand r hr;rw[h,expand_append] at this;exact⟨fun x hx=>hr x (by rw[← this]; simp[hx]),by rw[← this]; simp,this.symm⟩
theorem goodP_app {r q:List Int} (hr:GoodP r) (hq:GoodP q):GoodP (r++q):=fun x hx=>(List.mem_append.1 hx).elim (hr x) (hq x)
theorem with_eq (s:arena_Span) (n:Int) (L:List arena_Span) (hL:∀ k∈L,Good k) (hs:1≤s.fN→Good s) (hn:0≤n∧n≤1073741824) (hlen:L.length≤1073741824) :
 piece_Text_with_2 s n L=some (n+(s.fN.toNat:Int),addS L s):=by
 unfold piece_Text_with_2;by_cases h:s.fN<1
 ·rw[if_pos h,addS_less h,show s.fN.toNat=0 by omega]; simp
 ·have hs':=hs (by omega);have hs2:=hs';simp only[Good] at hs2;rw[if_neg h];have e1:w64 (n+s.fN)=n+(s.fN.toNat:Int):=by rw[w64_id ⟨by omega,by omega⟩]; omega
  have happ:∀ M:List arena_Span,M.length≤1073741824→app 16 M [s]=some (M++[s]):=fun M hM=>app_of (by simp; omega);rcases snoc_cases L with rfl|⟨M,k,rfl⟩
  ·rw[addS_nil h];simp[show w64 (-1) = -1 from rfl,happ [] (by simp),e1]
  ·have hlen':M.length+1≤1073741824:=by simpa using hlen
   have e2:w64 (((M++[k]).length:Int)-1)=(M.length:Int):=by simp[w64_id (x:=(M.length:Int)) ⟨by omega,by omega⟩]
   rw[e2,if_pos (by omega),idx_at,bnd_some',join_eq k s (hL k (by simp)) hs',bnd_some',addS_snoc h,e1];by_cases hk:k.fAt+k.fN=s.fAt
   ·rw[if_pos hk,if_pos hk]; simp
   ·rw[if_neg hk,if_neg hk]; simp[happ (M++[k]) (by simpa using hlen)]
theorem made (b:List UInt8) (h:b.length≤1000000000):mkz 1 (b.length:Int) (0:UInt8)=some (List.replicate b.length 0):=by
 rw[mkz_of (by omega)]; simp
theorem made_over (b:List UInt8):over (List.replicate b.length (0:UInt8)) b=b:=over_same (by simp)
theorem New_eq (a:List UInt8) (h:a.length≤4096):arena_New a=some (.inr (0,a)):=by
 unfold arena_New;rw[if_neg (by omega),made a (by omega),bnd_some',made_over]
def rightA (s:arena_Span) (a:List UInt8):Bool:=decide (0≤s.fAt∧0≤s.fN∧s.fAt≤a.length∧s.fN≤a.length-s.fAt)
theorem Right_eq (s:arena_Span) (a:List UInt8) (ha:a.length≤1000000000):arena_Arena_Right s a=some (rightA s a):=by
 unfold arena_Arena_Right rightA;by_cases h1:0≤s.fAt
 ·rw[if_pos h1];by_cases h2:0≤s.fN
  ·rw[if_pos h2];by_cases h3:s.fAt≤(a.length:Int)
   ·rw[if_pos h3,w64_id ⟨by omega,by omega⟩,bnd_some'];simp[h1,h2,h3]
   ·rw[if_neg h3,bnd_some']; simp[h3]
  ·rw[if_neg h2,bnd_some']; simp[h2]
 ·rw[if_neg h1,bnd_some']; simp[h1]
def bytesA (s:arena_Span) (a:List UInt8):List UInt8:=if rightA s a=true then (a.take (s.fAt+s.fN).toNat).drop s.fAt.toNat else []
theorem bytesA_len (s:arena_Span) (a:List UInt8):(bytesA s a).length≤a.length:=by
 unfold bytesA; split <;> simp; omega
theorem Bytes_eq (s:arena_Span) (a:List UInt8) (ha:a.length≤1000000000):arena_Arena_Bytes s a=some (bytesA s a):=by
 have hl:=bytesA_len s a;unfold arena_Arena_Bytes arena_Arena_part;rw[Right_eq s a ha,bnd_some'];cases h:rightA s a with
 | false=>
  rw[if_neg (by simp),bnd_some'];simp only;rw[made [] (by simp),bnd_some',made_over];simp[bytesA,h]
 | true=>
  have hr:=h;unfold rightA at hr;simp only[decide_eq_true_eq] at hr;have hb:bytesA s a=(a.take (s.fAt+s.fN).toNat).drop s.fAt.toNat:=by simp[bytesA,h]
  rw[if_pos rfl,w64_id ⟨by omega,by omega⟩,cut_of ⟨by omega,by omega,by omega⟩,bnd_some',bnd_some'];simp only;rw[cut_of ⟨by omega,by omega,by omega⟩,bnd_some',← hb,made _ (by omega),bnd_some',made_over]
theorem u8n (x:UInt8) (c:UInt8):((x.toNat:Int)=(c.toNat:Int))↔x=c:=⟨fun h=>UInt8.toNat_inj.1 (by omega),fun h=>by rw[h]⟩
theorem u8_44 (x:UInt8):((x.toNat:Int)=44)↔x=44:=u8n x 44
theorem u8_13 (x:UInt8):((x.toNat:Int)=13)↔x=13:=u8n x 13
theorem u8_10 (x:UInt8):((x.toNat:Int)=10)↔x=10:=u8n x 10
theorem u8_34 (x:UInt8):((x.toNat:Int)=34)↔x=34:=u8n x 34
def at_ (b:List UInt8) (c:UInt8) (i:Nat):Bool:=b[i]? == some c
def isMark (x:UInt8):Bool:=x==44||x==13||x==10
def mk (b:List UInt8) (i:Nat):Bool:=match b[i]? with|none=>true|some x=>isMark x
theorem mk_out {b:List UInt8} {i:Nat} (h:b.length≤i):mk b i=true:=by unfold mk; rw[List.getElem?_eq_none h]
theorem mk_in {b:List UInt8} {i:Nat} (h:mk b i=false):i<b.length:=by
 rcases Nat.lt_or_ge i b.length with h'|h'
 ·exact h'
 ·rw[mk_out h'] at h; cases h
theorem at_in {b:List UInt8} {c:UInt8} {i:Nat} (h:at_ b c i=true):i<b.length:=by
 simp only[at_,beq_iff_eq] at h;exact (List.getElem?_eq_some_iff.1 h).1
theorem done_eq (b:List UInt8) (i:Nat):scan_reader_done b (i:Int)=some (decide (b.length≤i)):=by
 unfold scan_reader_done;congr 1;exact decide_eq_decide.2 ⟨fun h=>by omega,fun h=>by omega⟩
theorem is_eq (c:UInt8) (b:List UInt8) (i:Nat):scan_reader_is c b (i:Int)=some (at_ b c i):=by
 unfold scan_reader_is;rw[done_eq,bnd_some'];by_cases h:b.length≤i
 ·rw[decide_eq_true h,if_pos rfl,bnd_some'];simp[at_,List.getElem?_eq_none h]
 ·rw[decide_eq_false h,if_neg (by simp),idx_nat (List.getElem?_eq_getElem (by omega)),bnd_some',bnd_some'];simp only[at_,List.getElem?_eq_getElem (show i<b.length by omega)];congr 1;rw[Bool.eq_iff_iff,beq_iff_eq,beq_iff_eq,u8n,Option.some.injEq]
theorem quote_eq (b:List UInt8) (i:Nat):ref05_quote b (i:Int)=some (at_ b 34 i):=by
 unfold ref05_quote;by_cases h:(i:Int)<(b.length:Int)
 ·have h':i<b.length:=by omega
  rw[if_pos h,idx_nat (List.getElem?_eq_getElem h'),bnd_some',bnd_some'];simp only[at_,List.getElem?_eq_getElem h'];congr 1;rw[Bool.eq_iff_iff,beq_iff_eq,beq_iff_eq,u8_34,Option.some.injEq]
 ·rw[if_neg h,bnd_some'];simp[at_,List.getElem?_eq_none (show b.length≤i by omega)]
theorem marked_eq (b:List UInt8) (i:Nat):scan_reader_marked b (i:Int)=some (mk b i):=by
 unfold scan_reader_marked;rw[done_eq,bnd_some'];by_cases h:b.length≤i
 ·rw[decide_eq_true h,if_pos rfl,mk_out h]
 ·have h':i<b.length:=by omega
  rw[decide_eq_false h,if_neg (by simp),idx_nat (List.getElem?_eq_getElem h'),bnd_some'];simp only[mk,List.getElem?_eq_getElem h',isMark,u8_44,u8_13];by_cases c1:b[i]=44
  ·simp[c1]
  ·by_cases c2:b[i]=13
   ·simp[c2]
   ·have e:(((b[i]).toNat:Int)==10)=(b[i]==10):=by rw[Bool.eq_iff_iff,beq_iff_eq,beq_iff_eq,u8_10]
    rw[if_neg c1,if_neg c2,bnd_some',e];cases hb:b[i]==10 <;> simp[c1,c2]
theorem mark_eq (b:List UInt8) (i:Nat):ref05_mark b (i:Int)=some (mk b i):=by
 unfold ref05_mark;by_cases h:(i:Int)≥(b.length:Int)
 ·rw[if_pos h,bnd_some',mk_out (by omega)]
 ·have h':i<b.length:=by omega
  rw[if_neg h,idx_nat (List.getElem?_eq_getElem h'),bnd_some'];simp only[mk,List.getElem?_eq_getElem h',isMark,u8_44,u8_13];by_cases c1:b[i]=44
  ·simp[c1]
  ·by_cases c2:b[i]=13
   ·simp[c2]
   ·have e:(((b[i]).toNat:Int)==10)=(b[i]==10):=by rw[Bool.eq_iff_iff,beq_iff_eq,beq_iff_eq,u8_10]
    rw[if_neg c1,if_neg c2,bnd_some',e];simp[c1,c2]
def tlF (b:List UInt8):Nat→Nat→Nat
| 0,i=>i
| n+1,i=>if mk b i=true then i else tlF b n (i+1)
def tl (b:List UInt8) (i:Nat):Nat:=tlF b b.length i
theorem tlF_spec (b:List UInt8):∀ n i,b.length≤i+n→i≤tlF b n i∧mk b (tlF b n i)=true∧(∀ k,i≤k→k<tlF b n i→mk b k=false)∧(i≤b.length→tlF b n i≤b.length)
 | 0,i,h=>⟨Nat.le_refl _,mk_out h,fun k h1 h2=>by simp only[tlF] at h2; omega,id⟩
 | n+1,i,h=>by
  simp only[tlF];by_cases c:mk b i=true
  ·rw[if_pos c]; exact⟨Nat.le_refl _,c,fun k h1 h2=>by omega,id⟩
  ·rw[if_neg c];have hi:=mk_in (by simpa using c);obtain⟨h1,h2,h3,h4⟩:=tlF_spec b n (i+1) (by omega);refine⟨by omega,h2,fun k k1 k2=>?_,fun _=>h4 hi⟩;by_cases hk:k=i
   ·subst hk; simpa using c
   ·exact h3 k (by omega) k2
theorem tl_spec (b:List UInt8) (i:Nat):i≤tl b i∧mk b (tl b i)=true∧(∀ k,i≤k→k<tl b i→mk b k=false)∧(i≤b.length→tl b i≤b.length):=tlF_spec b b.length i (by omega)
def aq (b:List UInt8) (i n:Nat):Bool:=(List.range n).any fun k=>at_ b 34 (i+k)
theorem aq_succ (b:List UInt8) (i n:Nat):aq b i (n+1)=(aq b i n||at_ b 34 (i+n)):=by simp[aq,List.range_succ]
theorem plain_eq (b:List UInt8) (i:Nat) (hi:i≤b.length) (hb:b.length≤2000000):scan_reader_plain b (i:Int)=some (aq b i (tl b i-i),((tl b i:Nat):Int)):=by
 obtain⟨h1,h2,h3,h4⟩:=tl_spec b i;have h4':=h4 hi;have h:=loop_nat (f:=scan_reader_plain.l1 b) (fun k (s:Bool)=>(s,(i:Int)+k)) (tl b i-i) (fun n=>aq b i n) (t:=(aq b i (tl b i-i),((tl b i:Nat):Int)))
  (fun k hk=>by
   unfold scan_reader_plain.l1;simp only;rw[show (i:Int)+(k:Int)=((i+k:Nat):Int) by omega,marked_eq,bnd_some',h3 (i+k) (by omega) (by omega),if_neg (by simp),is_eq,bnd_some',aq_succ];have e:(if aq b i k=true then some true else some (at_ b 34 (i+k)):Option Bool)=some (aq b i k||at_ b 34 (i+k)):=by cases aq b i k <;> rfl
   rw[e,bnd_some',w64_id ⟨by omega,by omega⟩];congr 3)
  (by
   unfold scan_reader_plain.l1;simp only;rw[show (i:Int)+((tl b i-i:Nat):Int)=((tl b i:Nat):Int) by omega,marked_eq,bnd_some',h2,if_pos rfl])
 unfold scan_reader_plain;have h':loop (scan_reader_plain.l1 b) (false,(i:Int))=some (aq b i (tl b i-i),((tl b i:Nat):Int)):=by simpa [aq] using h
 rw[h',bnd_some']
theorem till_eq (b:List UInt8) (i:Nat) (hi:i≤b.length) (hb:b.length≤2000000):ref05_till b (i:Int)=some ((tl b i:Nat):Int):=by
 obtain⟨h1,h2,h3,h4⟩:=tl_spec b i;have h4':=h4 hi;have h:=loop_nat (f:=ref05_till.l1 b) (fun k (_:Unit)=>(i:Int)+k) (tl b i-i) (fun _=>()) (t:=((tl b i:Nat):Int))
  (fun k hk=>by
   unfold ref05_till.l1;rw[show (i:Int)+(k:Int)=((i+k:Nat):Int) by omega,mark_eq,bnd_some',h3 (i+k) (by omega) (by omega),if_neg (by simp),w64_id ⟨by omega,by omega⟩];congr 2)
  (by
   unfold ref05_till.l1;rw[show (i:Int)+((tl b i-i:Nat):Int)=((tl b i:Nat):Int) by omega,mark_eq,bnd_some',h2,if_pos rfl])
 unfold ref05_till;have h':loop (ref05_till.l1 b) (i:Int)=some ((tl b i:Nat):Int):=by simpa using h
 rw[h',bnd_some']
theorem places2_eq (i j:Nat) (L:List Int) (hij:i≤j) (hj:j≤2000000) (hL:L.length≤2000000):ref05_places_2 (i:Int) (j:Int) L=some (L++rangeI (i:Int) (j-i)):=by
 have h:=loop_nat (f:=ref05_places_2.l1 (j:Int)) (fun k (s:List Int)=>((i:Int)+k,s)) (j-i) (fun n=>L++rangeI (i:Int) n) (t:=L++rangeI (i:Int) (j-i))
  (fun k hk=>by
   unfold ref05_places_2.l1;simp only;rw[if_pos (by omega),app_of (by simp[rangeI_len]; omega),bnd_some',w64_id ⟨by omega,by omega⟩,rangeI_succ,List.append_assoc];congr 3)
  (by
   unfold ref05_places_2.l1;simp only;rw[if_neg (by omega)])
 unfold ref05_places_2;have h':loop (ref05_places_2.l1 (j:Int)) ((i:Int),L)=some (L++rangeI (i:Int) (j-i)):=by simpa [rangeI] using h
 rw[h',bnd_some']
theorem places_eq (i j:Nat) (hij:i≤j) (hj:j≤2000000):ref05_places (i:Int) (j:Int)=some (rangeI (i:Int) (j-i)):=by
 have h:=loop_nat (f:=ref05_places.l1 (j:Int)) (fun k (s:List Int)=>((i:Int)+k,s)) (j-i) (fun n=>rangeI (i:Int) n) (t:=rangeI (i:Int) (j-i))
  (fun k hk=>by
   unfold ref05_places.l1;simp only;rw[if_pos (by omega),app_of (by simp[rangeI_len]; omega),bnd_some',w64_id ⟨by omega,by omega⟩,rangeI_succ];congr 3)
  (by
   unfold ref05_places.l1;simp only;rw[if_neg (by omega)])
 unfold ref05_places;have h':loop (ref05_places.l1 (j:Int)) ((i:Int),[])=some (rangeI (i:Int) (j-i)):=by simpa [rangeI] using h
 rw[h',bnd_some']
theorem kind_eq (b:List UInt8) (i j:Nat) (hij:i≤j) (hj:j≤2000000):loop (ref05_field.l2 b (j:Int)) ((i:Int),0)=some (if aq b i (j-i)=true then 2 else 0):=by
 have h:=loop_nat (f:=ref05_field.l2 b (j:Int)) (fun k (s:Int)=>((i:Int)+k,s)) (j-i) (fun n=>if aq b i n=true then 2 else 0) (t:=if aq b i (j-i)=true then 2 else 0)
  (fun k hk=>by
   unfold ref05_field.l2;simp only;rw[if_pos (by omega),show (i:Int)+(k:Int)=((i+k:Nat):Int) by omega,quote_eq,bnd_some',aq_succ];have e:(if at_ b 34 (i+k)=true then some 2 else some (if aq b i k=true then 2 else 0):Option Int)=some (if (aq b i k||at_ b 34 (i+k))=true then 2 else 0):=by
    cases aq b i k <;> cases at_ b 34 (i+k) <;> rfl
   rw[e,bnd_some',w64_id ⟨by omega,by omega⟩];congr 3)
  (by
   unfold ref05_field.l2;simp only;rw[if_neg (by omega)])
 simpa [aq] using h
theorem addS_canon (p:List Int) (i:Int) (n:Nat):addS (canon p) ⟨i,n⟩=canon (p++rangeI i n):=by
 rw[← addI_range]; simp[canon,List.foldl_append]
theorem add2_eq (i j:Nat) (p:List Int) (hp:GoodP p) (hpl:p.length≤2000000) (hij:i≤j) (hj:j≤2000000):scan_parts_add_2 (i:Int) (j:Int) (canon p)=some (canon (p++rangeI (i:Int) (j-i))):=by
 have hc:=canon_len p;have hg:=canon_good p hp;unfold scan_parts_add_2;by_cases h:(j:Int)≤(i:Int)
 ·rw[if_pos h,show j-i=0 by omega]; simp[rangeI]
 ·have hs':Good (⟨(i:Int),((j-i:Nat):Int)⟩:arena_Span):=by simp only[Good]; omega
  have hlt:¬ ((⟨(i:Int),((j-i:Nat):Int)⟩:arena_Span).fN<1):=by simp only; omega
  rw[if_neg h,← addS_canon,w64_id (x:=(j:Int)-(i:Int)) ⟨by omega,by omega⟩,show (j:Int)-(i:Int)=((j-i:Nat):Int) by omega];generalize hL:canon p=L at *;have happ:∀ M:List arena_Span,M.length≤2000000→app 16 M [(⟨(i:Int),((j-i:Nat):Int)⟩:arena_Span)]=some (M++[⟨(i:Int),((j-i:Nat):Int)⟩]):=fun M hM=>app_of (by simp; omega);rcases snoc_cases L with rfl|⟨M,k,rfl⟩
  ·rw[addS_nil hlt];simp[show w64 (-1) = -1 from rfl,happ [] (by simp)]
  ·have hlen':M.length+1≤2000000:=by simp at hc; omega
   have e2:w64 (((M++[k]).length:Int)-1)=(M.length:Int):=by simp[w64_id (x:=(M.length:Int)) ⟨by omega,by omega⟩]
   rw[e2,if_pos (by omega),idx_at,bnd_some',join_eq k _ (hg k (by simp)) hs',bnd_some',addS_snoc hlt];by_cases hk:k.fAt+k.fN=(i:Int)
   ·rw[if_pos hk,if_pos hk]; simp
   ·rw[if_neg hk,if_neg hk]; simp[happ (M++[k]) (by simp; omega)]
theorem add_eq (i j:Nat) (hij:i≤j) (hj:j≤2000000):scan_parts_add (i:Int) (j:Int)=some (canon (rangeI (i:Int) (j-i))):=by
 unfold scan_parts_add;by_cases h:(j:Int)≤(i:Int)
 ·rw[if_pos h,show j-i=0 by omega]; rfl
 ·rw[if_neg h,if_neg (by simp[show w64 (-1) = -1 from rfl]),app_of (by simp),bnd_some',w64_id ⟨by omega,by omega⟩];have:=addS_canon [] (i:Int) (j-i);rw[List.nil_append] at this;rw[← this,show canon []=[] from rfl,addS_nil (by simp only; omega)];simp only[List.nil_append];congr 3; omega
def rq (b:List UInt8):Nat→Nat→List Int→Nat × List Int
| 0,i,acc=>(i,acc)
| n+1,i,acc=>if i<b.length∧(at_ b 34 i=false∨at_ b 34 (i+1)=true) then rq b n (i+(if at_ b 34 i=true then 2 else 1)) (acc++[(i:Int)]) else (i,acc)
theorem rq_spec (b:List UInt8):∀ n i acc,b.length≤i+n→i≤b.length→acc.length≤i→(∀ x∈acc,0≤x∧x<(i:Int)) →
 let r:=rq b n i acc
 i≤r.1∧r.1≤b.length∧r.2.length≤r.1∧(∀ x∈r.2,0≤x∧x<(r.1:Int))∧(r.1<b.length→at_ b 34 r.1=true)
 | 0,i,acc,h,hi,hl,ha=>⟨Nat.le_refl _,hi,hl,ha,fun h'=>by simp only[rq] at h'; omega⟩
 | n+1,i,acc,h,hi,hl,ha=>by
  simp only[rq];by_cases c:i<b.length∧(at_ b 34 i=false∨at_ b 34 (i+1)=true)
  ·rw[if_pos c];have h2:i+(if at_ b 34 i=true then 2 else 1)≤b.length:=by
    split
    ·rename_i hq;rcases c.2 with h'|h'
     ·rw[hq] at h'; cases h'
     ·have:=at_in h'; omega
    ·omega
   have h1:i+1≤i+(if at_ b 34 i=true then 2 else 1):=by split <;> omega
   obtain⟨g1,g2,g3,g4,g5⟩:=rq_spec b n (i+(if at_ b 34 i=true then 2 else 1)) (acc++[(i:Int)]) (by omega) h2 (by simp; omega) (by
    intro x hx;rcases List.mem_append.1 hx with hx|hx
    ·have:=ha x hx; omega
    ·simp at hx; omega)
   exact⟨by omega,g2,g3,g4,g5⟩
  ·rw[if_neg c];refine⟨Nat.le_refl _,hi,hl,ha,fun h'=>?_⟩;cases hq:at_ b 34 i with
   | true=>rfl
   | false=>exact absurd ⟨h',.inl hq⟩ c
theorem rqLoop_eq (b : List UInt8) (hb : b.length ≤ 2000000) : ∀ n (i : Nat) acc, b.length ≤ i + n → i ≤ b.length → acc.length ≤ i → loop (ref05_field.l1 b) ((i : Int), acc) = some (((rq b n i acc).1 : Int), (rq b n i acc).2) := by
  intro n
  induction n with
  | zero =>
    intro i acc h hi hl
    refine loop_done ?_
    unfold ref05_field.l1
    simp only
    rw [if_neg (by omega), bnd_some', if_neg (by simp)]
    rfl
  | succ n ih =>
    intro i acc h hi hl
    simp only [rq]
    by_cases hlt : i < b.length
    · by_cases c : at_ b 34 i = false ∨ at_ b 34 (i + 1) = true
      · rw [if_pos ⟨hlt, c⟩]
        have h2 : i + (if at_ b 34 i = true then 2 else 1) ≤ b.length := by
          split
          · rename_i hq
            rcases c with h' | h'
            · rw [hq] at h'; cases h'
            · have := at_in h'; omega
          · omega
        have h1 : i + 1 ≤ i + (if at_ b 34 i = true then 2 else 1) := by split <;> omega
        refine loop_next (s' := (((i + (if at_ b 34 i = true then 2 else 1) : Nat) : Int), acc ++ [(i : Int)])) ?_ (ih _ _ (by omega) h2 (by simp; omega))
        unfold ref05_field.l1
        simp only
        rw [if_pos (by omega), quote_eq, bnd_some', w64_id (x := (i : Int) + 1) ⟨by omega, by omega⟩]
        rw [show (i : Int) + 1 = ((i + 1 : Nat) : Int) by omega, quote_eq, bnd_some']
        have e : (if at_ b 34 i = true then some (at_ b 34 (i + 1)) else some true : Option Bool) = some true := by
          cases hq : at_ b 34 i with
          | false => rfl
          | true => rcases c with h' | h'
                    · rw [hq] at h'; cases h'
                    · simp [h']
        rw [e, bnd_some', if_pos rfl, app_of (by simp; omega), bnd_some', bnd_some']
        cases hq : at_ b 34 i with
        | true =>
          rw [if_pos rfl, bnd_some', w64_id ⟨by omega, by omega⟩]
          simp; omega
        | false =>
          rw [if_neg (by simp), bnd_some', w64_id ⟨by omega, by omega⟩]
          simp
      · rw [if_neg (fun h' => c h'.2)]
        have hq : at_ b 34 i = true := by
          cases hq : at_ b 34 i with
          | true => rfl
          | false => exact absurd (.inl hq) c
        have hq2 : at_ b 34 (i + 1) = false := by
          cases hq2 : at_ b 34 (i + 1) with
          | false => rfl
          | true => exact absurd (.inr hq2) c
        refine loop_done ?_
        unfold ref05_field.l1
        simp only
        rw [if_pos (by omega), quote_eq, bnd_some', hq, if_pos rfl, w64_id (x := (i : Int) + 1) ⟨by omega, by omega⟩, show (i : Int) + 1 = ((i + 1 : Nat) : Int) by omega, quote_eq, bnd_some', hq2, bnd_some', if_neg (by simp)]
    · rw [if_neg (fun h' => hlt h'.1)]
      refine loop_done ?_
      unfold ref05_field.l1
      simp only
      rw [if_neg (by omega), bnd_some', if_neg (by simp)]
theorem rq_fuel (b:List UInt8):∀ n m i acc,b.length≤i+n→b.length≤i+m→rq b n i acc=rq b m i acc
 | 0,0,i,acc,_,_=>rfl
 | 0,m+1,i,acc,h,_=>by simp only[rq]; rw[if_neg (fun h'=>by omega)]
 | n+1,0,i,acc,_,h=>by simp only[rq]; rw[if_neg (fun h'=>by omega)]
 | n+1,m+1,i,acc,h,h'=>by
  simp only[rq];split
  ·have h1:i+1≤i+(if at_ b 34 i=true then 2 else 1):=by split <;> omega
   exact rq_fuel b n m _ _ (by omega) (by omega)
  ·rfl
theorem rq_skip (b:List UInt8) (i:Nat) (acc:List Int) (n:Nat) (hn:b.length≤i+n):∀ k,i+k≤b.length→(∀ j,i≤j→j<i+k→at_ b 34 j=false)→rq b n i acc=rq b n (i+k) (acc++rangeI (i:Int) k)
 | 0,_,_=>by simp[rangeI]
 | k+1,hk,hq=>by
  rw[rq_skip b i acc n hn k (by omega) (fun j h1 h2=>hq j h1 (by omega)),rq_fuel b n (n+1) (i+k) _ (by omega) (by omega)];simp only[rq];have h0:=hq (i+k) (by omega) (by omega);rw[if_pos ⟨by omega,.inl h0⟩,h0,if_neg (by simp),rangeI_succ,List.append_assoc,show i+(k+1)=i+k+1 from rfl,show ((i+k:Nat):Int)=(i:Int)+(k:Int) by omega]
def nqF (b:List UInt8):Nat→Nat→Nat
| 0,i=>i
| n+1,i=>if i<b.length∧at_ b 34 i=false then nqF b n (i+1) else i
theorem nqF_spec (b:List UInt8):∀ n i,b.length≤i+n→i≤b.length→i≤nqF b n i∧nqF b n i≤b.length∧(∀ j,i≤j→j<nqF b n i→at_ b 34 j=false)∧(nqF b n i<b.length→at_ b 34 (nqF b n i)=true)
 | 0,i,h,hi=>⟨Nat.le_refl _,hi,fun j h1 h2=>by simp only[nqF] at h2; omega,fun h'=>by simp only[nqF] at h'; omega⟩
 | n+1,i,h,hi=>by
  simp only[nqF];by_cases c:i<b.length∧at_ b 34 i=false
  ·rw[if_pos c];obtain⟨h1,h2,h3,h4⟩:=nqF_spec b n (i+1) (by omega) (by omega);refine⟨by omega,h2,fun j j1 j2=>?_,h4⟩;by_cases hj:j=i
   ·subst hj; exact c.2
   ·exact h3 j (by omega) j2
  ·rw[if_neg c];refine⟨Nat.le_refl _,hi,fun j h1 h2=>by omega,fun h'=>?_⟩;cases hq:at_ b 34 i with
   | true=>rfl
   | false=>exact absurd ⟨h',hq⟩ c
theorem skip_eq (b:List UInt8) (hb:b.length≤2000000):∀ n (i:Nat),b.length≤i+n→i≤b.length→loop (scan_reader_quoted.l1 b) (i:Int)=some ((nqF b n i:Nat):Int):=by
 have stop:∀ i:Nat,¬ (i<b.length∧at_ b 34 i=false)→scan_reader_quoted.l1 b (i:Int)=some (.done (i:Int)):=fun i c=>by
  unfold scan_reader_quoted.l1;rw[done_eq,bnd_some'];by_cases h:b.length≤i
  ·rw[decide_eq_true h,if_pos rfl,bnd_some',if_neg (by simp)]
  ·have:at_ b 34 i=true:=by
    cases hq:at_ b 34 i with
    | true=>rfl
    | false=>exact absurd ⟨by omega,hq⟩ c
   rw[decide_eq_false h,if_neg (by simp),is_eq,bnd_some',this,bnd_some',if_neg (by simp)]
 intro n
 induction n with
 | zero=>intro i h hi; exact loop_done (stop i (fun h'=>by omega))
 | succ n ih=>
  intro i h hi;simp only[nqF];by_cases c:i<b.length∧at_ b 34 i=false
  ·rw[if_pos c];refine loop_next (s':=((i+1:Nat):Int)) ?_ (ih _ (by omega) (by omega));unfold scan_reader_quoted.l1;rw[done_eq,bnd_some',decide_eq_false (by omega),if_neg (by simp),is_eq,bnd_some',c.2,bnd_some',if_pos (by rfl),w64_id ⟨by omega,by omega⟩];congr 2
  ·rw[if_neg c]; exact loop_done (stop i c)
def qEnd (b:List UInt8) (r:Nat × List Int):Int × List Int × Nat:=
 if b.length≤r.1 then (4,r.2,r.1) else (if r.1+1<tl b (r.1+1) then 3 else 1,r.2++rangeI ((r.1+1:Nat):Int) (tl b (r.1+1)-(r.1+1)),tl b (r.1+1))
theorem goodP_of {p:List Int} {m:Nat} (h:∀ x∈p,0≤x∧x<(m:Int)) (hm:m≤2000000):GoodP p:=fun x hx=>by have:=h x hx; omega
theorem goodP_range {i n:Nat} (h:i+n≤2000000):GoodP (rangeI (i:Int) n):=fun x hx=>by
 simp only[rangeI,List.mem_map,List.mem_range] at hx;obtain⟨k,hk,rfl⟩:=hx; omega
theorem label_eq (b:List UInt8) (hb:b.length≤2000000):∀ n (i:Nat) acc,b.length≤i+n→i≤b.length→acc.length≤i→(∀ x∈acc,0≤x∧x<(i:Int)) →
 loop (scan_reader_quoted.l2 b) ((i:Int),(i:Int),canon acc)=some ((qEnd b (rq b n i acc)).1,canon (qEnd b (rq b n i acc)).2.1,(((qEnd b (rq b n i acc)).2.2:Nat):Int)):=by
 intro n
 induction n using Nat.strongRecOn with
 | _ n ih=>
  intro i acc h hi hl ha;obtain⟨g1,g2,g3,g4⟩:=nqF_spec b b.length i (by omega) hi;have hsk:=skip_eq b hb b.length i (by omega) hi;generalize nqF b b.length i=t at *;have hskip:rq b n i acc=rq b n t (acc++rangeI (i:Int) (t-i)):=by
   have:=rq_skip b i acc n h (t-i) (by omega) (fun j h1 h2=>g3 j h1 (by omega));rwa[show i+(t-i)=t by omega] at this
  have hga:=goodP_of ha (by omega);have hr:GoodP (rangeI (i:Int) (t-i)):=goodP_range (by omega);by_cases ht:b.length≤t
  ·refine loop_done ?_;unfold scan_reader_quoted.l2;simp only;rw[hsk,bnd_some',done_eq,bnd_some',decide_eq_true ht,if_pos rfl,add2_eq i t acc hga (by omega) g1 (by omega),bnd_some',hskip];have e:rq b n t (acc++rangeI (i:Int) (t-i))=(t,acc++rangeI (i:Int) (t-i)):=by
    cases n with
    | zero=>rfl
    | succ n=>simp only[rq]; rw[if_neg (fun h'=>by omega)]
   rw[e,qEnd,if_pos ht]
  ·have htl:t<b.length:=by omega
   have hqt:=g4 htl;cases hn:at_ b 34 (t+1) with
   | true=>
    have h2:=at_in hn;obtain⟨m,rfl⟩:∃ m,n=m+1:=⟨n-1,by omega⟩;have e:rq b (m+1) t (acc++rangeI (i:Int) (t-i))=rq b m (t+2) (acc++rangeI (i:Int) (t+1-i)):=by
     simp only[rq];rw[if_pos ⟨htl,.inr hn⟩,hqt,if_pos rfl,show t+1-i=(t-i)+1 by omega,rangeI_succ,List.append_assoc];congr 4; omega
    refine loop_next (s':=(((t+2:Nat):Int),((t+2:Nat):Int),canon (acc++rangeI (i:Int) (t+1-i)))) ?_ ?_
    ·unfold scan_reader_quoted.l2;simp only;rw[hsk,bnd_some',done_eq,bnd_some',decide_eq_false ht,if_neg (by simp),w64_id (x:=(t:Int)+1) ⟨by omega,by omega⟩,show (t:Int)+1=((t+1:Nat):Int) by omega,is_eq,bnd_some',hn,if_pos rfl,add2_eq i (t+1) acc hga (by omega) (by omega) (by omega),bnd_some',w64_id ⟨by omega,by omega⟩];congr 4
    ·rw[hskip,e];refine ih m (by omega) (t+2) _ (by omega) (by omega) (by simp[rangeI_len]; omega) (fun x hx=>?_);rcases List.mem_append.1 hx with hx|hx
     ·have:=ha x hx; omega
     ·simp only[rangeI,List.mem_map,List.mem_range] at hx;obtain⟨k,hk,rfl⟩:=hx; omega
   | false=>
    have e:rq b n t (acc++rangeI (i:Int) (t-i))=(t,acc++rangeI (i:Int) (t-i)):=by
     cases n with
     | zero=>rfl
     | succ n=>
      simp only[rq];rw[if_neg];rintro ⟨_,h'|h'⟩
      ·rw[hqt] at h'; cases h'
      ·rw[hn] at h'; cases h'
    obtain⟨t1,t2,t3,t4⟩:=tl_spec b (t+1);have t4':=t4 (by omega);refine loop_done ?_;unfold scan_reader_quoted.l2;simp only;rw[hsk,bnd_some',done_eq,bnd_some',decide_eq_false ht,if_neg (by simp),w64_id (x:=(t:Int)+1) ⟨by omega,by omega⟩,show (t:Int)+1=((t+1:Nat):Int) by omega,is_eq,bnd_some',hn,if_neg (by simp),
     w64_id (x:=((t+1:Nat):Int)-1) ⟨by omega,by omega⟩,show ((t+1:Nat):Int)-1=(t:Int) by omega,add2_eq i t acc hga (by omega) g1 (by omega),bnd_some',plain_eq b (t+1) (by omega) hb,bnd_some']
    simp only;rw[add2_eq (t+1) (tl b (t+1)) _ (goodP_app hga hr) (by simp[rangeI_len]; omega) t1 (by omega),bnd_some',hskip,e,qEnd,if_neg ht];by_cases c:t+1<tl b (t+1)
    ·rw[if_pos (by omega),if_pos c]
    ·rw[if_neg (by omega),if_neg c]
def fieldF (b:List UInt8) (i:Nat):Int × List Int × Nat:=
 if at_ b 34 i=true then qEnd b (rq b b.length (i+1) []) else (if aq b i (tl b i-i)=true then 2 else 0,rangeI (i:Int) (tl b i-i),tl b i)
theorem fieldF_spec (b:List UInt8) (hb:b.length≤2000000) (i:Nat) (hi:i≤b.length):i≤(fieldF b i).2.2∧(fieldF b i).2.2≤b.length∧mk b (fieldF b i).2.2=true∧(∀ x∈(fieldF b i).2.1,0≤x∧x<(b.length:Int))∧(fieldF b i).2.1.length≤b.length:=by
 unfold fieldF;have hr:∀ {p m:Nat},p+m≤b.length→∀ x∈rangeI (p:Int) m,0≤x∧x<(b.length:Int):=fun {p m} h x hx=>by
  simp only[rangeI,List.mem_map,List.mem_range] at hx;obtain⟨k,hk,rfl⟩:=hx; omega
 by_cases c:at_ b 34 i=true
 ·rw[if_pos c];have hi':=at_in c;obtain⟨g1,g2,g3,g4,g5⟩:=rq_spec b b.length (i+1) [] (by omega) (by omega) (by simp) (by simp);generalize rq b b.length (i+1) []=r at *;unfold qEnd;by_cases d:b.length≤r.1
  ·rw[if_pos d];exact⟨by simp only; omega,g2,mk_out d,fun x hx=>by have:=g4 x hx; omega,by simp only; omega⟩
  ·rw[if_neg d];obtain⟨t1,t2,t3,t4⟩:=tl_spec b (r.1+1);have t4':=t4 (by omega);refine⟨by simp only; omega,t4',t2,fun x hx=>?_,by simp[rangeI_len]; omega⟩;rcases List.mem_append.1 hx with hx|hx
   ·have:=g4 x hx; omega
   ·exact hr (by omega) x hx
 ·rw[if_neg c];obtain⟨t1,t2,t3,t4⟩:=tl_spec b i;have t4':=t4 hi;exact⟨t1,t4',t2,hr (by omega),by simp[rangeI_len]; omega⟩
def sField (b:List UInt8) (i:Nat):scan_Field:=⟨⟨(i:Int),(((fieldF b i).2.2-i:Nat):Int)⟩,(fieldF b i).1,canon (fieldF b i).2.1⟩
def rField (b:List UInt8) (i:Nat):ref05_Field:=⟨⟨(i:Int),(((fieldF b i).2.2-i:Nat):Int)⟩,(fieldF b i).1,(fieldF b i).2.1⟩
theorem sField_eq (b:List UInt8) (hb:b.length≤2000000) (i:Nat) (hi:i≤b.length):scan_reader_field b (i:Int)=some (sField b i,(((fieldF b i).2.2:Nat):Int)):=by
 obtain⟨s1,s2,s3,s4,s5⟩:=fieldF_spec b hb i hi;have key:(if at_ b 34 i=true then bnd (scan_reader_quoted b (i:Int)) fun x6=>some (x6.2.2,x6.1,x6.2.1) else bnd (scan_reader_bare b (i:Int)) fun x7=>some (x7.2.2,x7.1,x7.2.1):Option (Int × Int × (List arena_Span)))=some ((((fieldF b i).2.2:Nat):Int),(fieldF b i).1,canon (fieldF b i).2.1):=by
  unfold fieldF;by_cases c:at_ b 34 i=true
  ·have hi':=at_in c;rw[if_pos c,if_pos c];unfold scan_reader_quoted;rw[w64_id ⟨by omega,by omega⟩,show (i:Int)+1=((i+1:Nat):Int) by omega];have:=label_eq b hb b.length (i+1) [] (by omega) (by omega) (by simp) (by simp);rw[show canon []=[] from rfl] at this;rw[this,bnd_some']
  ·rw[if_neg c,if_neg c];obtain⟨t1,t2,t3,t4⟩:=tl_spec b i;have t4':=t4 hi;unfold scan_reader_bare;rw[plain_eq b i hi hb,bnd_some'];simp only;rw[add_eq i (tl b i) t1 (by omega),bnd_some'];cases aq b i (tl b i-i) <;> rfl
 unfold scan_reader_field;rw[is_eq,bnd_some',key,bnd_some',w64_id ⟨by omega,by omega⟩];unfold sField;congr 4; omega
theorem rField_eq (b:List UInt8) (hb:b.length≤2000000) (i:Nat) (hi:i≤b.length):ref05_field b (i:Int)=some (rField b i):=by
 obtain⟨s1,s2,s3,s4,s5⟩:=fieldF_spec b hb i hi;unfold ref05_field;rw[quote_eq,bnd_some'];unfold rField;unfold fieldF at *;by_cases c:at_ b 34 i=true
 ·have hi':=at_in c;simp only[if_pos c] at *;rw[w64_id (x:=(i:Int)+1) ⟨by omega,by omega⟩,show (i:Int)+1=((i+1:Nat):Int) by omega,rqLoop_eq b hb b.length (i+1) [] (by omega) (by omega) (by simp),bnd_some'];obtain⟨g1,g2,g3,g4,g5⟩:=rq_spec b b.length (i+1) [] (by omega) (by omega) (by simp) (by simp);generalize rq b b.length (i+1) []=r at *;unfold qEnd at *;by_cases d:b.length≤r.1
  ·simp only[if_pos d] at *;rw[if_pos (by omega),w64_id ⟨by omega,by omega⟩];congr 3; omega
  ·simp only[if_neg d] at *;obtain⟨t1,t2,t3,t4⟩:=tl_spec b (r.1+1);have t4':=t4 (by omega);rw[if_neg (by omega),w64_id (x:=(r.1:Int)+1) ⟨by omega,by omega⟩,show (r.1:Int)+1=((r.1+1:Nat):Int) by omega,till_eq b (r.1+1) (by omega) hb,bnd_some'];have e:(if ((tl b (r.1+1):Nat):Int)>((r.1+1:Nat):Int) then some 3 else some 1:Option Int)=some (if r.1+1<tl b (r.1+1) then 3 else 1):=by
    by_cases h:r.1+1<tl b (r.1+1)
    ·rw[if_pos h,if_pos (by omega)]
    ·rw[if_neg h,if_neg (by omega)]
   rw[e,bnd_some',places2_eq _ _ _ t1 (by omega) (by omega),bnd_some',w64_id ⟨by omega,by omega⟩];congr 3; omega
 ·simp only[if_neg c] at *;obtain⟨t1,t2,t3,t4⟩:=tl_spec b i;have t4':=t4 hi;rw[till_eq b i hi hb,bnd_some',places_eq _ _ t1 (by omega),bnd_some',kind_eq _ _ _ t1 (by omega),bnd_some',w64_id ⟨by omega,by omega⟩];congr 3; omega
abbrev fe (b:List UInt8) (i:Nat):Nat:=(fieldF b i).2.2
def fsF (b:List UInt8):Nat→Nat→List Nat × Nat
| 0,i=>([i],fe b i)
| n+1,i=>if at_ b 44 (fe b i)=true then (i::(fsF b n (fe b i+1)).1,(fsF b n (fe b i+1)).2) else ([i],fe b i)
def fs (b:List UInt8) (i:Nat):List Nat × Nat:=fsF b b.length i
theorem fsF_spec (b:List UInt8) (hb:b.length≤2000000):∀ n i,b.length≤i+n→i≤b.length→i≤(fsF b n i).2∧(fsF b n i).2≤b.length∧mk b (fsF b n i).2=true∧at_ b 44 (fsF b n i).2=false∧(∀ j∈(fsF b n i).1,j≤b.length)∧(fsF b n i).1.length≤b.length+1-i:=by
 intro n
 induction n with
 | zero=>
  intro i h hi;obtain⟨s1,s2,s3,s4,s5⟩:=fieldF_spec b hb i hi;have:at_ b 44 (fe b i)=false:=by
   cases hc:at_ b 44 (fe b i) with
   | false=>rfl
   | true=>have:=at_in hc; simp only[fe] at this; omega
  exact⟨s1,s2,s3,this,by simp only[fsF]; simpa using hi,by simp only[fsF,List.length_cons,List.length_nil]; omega⟩
 | succ n ih=>
  intro i h hi;obtain⟨s1,s2,s3,s4,s5⟩:=fieldF_spec b hb i hi;simp only[fsF];by_cases c:at_ b 44 (fe b i)=true
  ·have hlt:=at_in c;simp only[if_pos c];have h0:i≤fe b i:=s1;obtain⟨h1,h2,h3,h4,h5,h6⟩:=ih (fe b i+1) (by omega) (by omega);refine⟨by omega,h2,h3,h4,fun j hj=>?_,by simp only[List.length_cons]; omega⟩;rcases List.mem_cons.1 hj with rfl|hj
   ·exact hi
   ·exact h5 j hj
  ·simp only[if_neg c];exact⟨s1,s2,s3,by simpa using c,by simpa using hi,by simp only[List.length_cons,List.length_nil]; omega⟩
def endF (b:List UInt8) (e:Nat):Int × Nat:=if at_ b 10 e=true then (1,e+1) else if at_ b 13 e=true then (if at_ b 10 (e+1)=true then (2,e+2) else (3,e+1)) else (0,e)
theorem end_eq (b:List UInt8) (hb:b.length≤2000000) (e:Nat) (he:e≤b.length):scan_reader_end b (e:Int)=some ((endF b e).1,(((endF b e).2:Nat):Int)):=by
 unfold scan_reader_end endF;rw[is_eq,bnd_some',w64_id (x:=(e:Int)+1) ⟨by omega,by omega⟩,show (e:Int)+1=((e+1:Nat):Int) by omega,is_eq,bnd_some',is_eq,bnd_some',w64_id (x:=((e+1:Nat):Int)+1) ⟨by omega,by omega⟩];cases at_ b 10 e <;> cases at_ b 13 e <;> cases at_ b 10 (e+1) <;> simp <;> omega
theorem endF_spec (b:List UInt8) (e:Nat) (he:e≤b.length):e≤(endF b e).2∧(endF b e).2≤b.length∧((mk b e=true)→at_ b 44 e=false→e<b.length→e<(endF b e).2):=by
 unfold endF;by_cases c1:at_ b 10 e=true
 ·have:=at_in c1;rw[if_pos c1]; exact⟨by simp,by simp only; omega,fun _ _ _=>by simp⟩
 ·rw[if_neg c1];by_cases c2:at_ b 13 e=true
  ·have:=at_in c2;rw[if_pos c2];by_cases c3:at_ b 10 (e+1)=true
   ·have:=at_in c3;rw[if_pos c3]; exact⟨by simp,by simp only; omega,fun _ _ _=>by simp⟩
   ·rw[if_neg c3]; exact⟨by simp,by simp only; omega,fun _ _ _=>by simp⟩
  ·rw[if_neg c2];refine⟨Nat.le_refl _,he,fun hm h44 hlt=>?_⟩;exfalso;simp only[at_,List.getElem?_eq_getElem hlt,mk,isMark] at *;simp at c1 c2 hm h44;rcases hm with (h|h)|h
   ·exact h44 h
   ·exact c2 h
   ·exact c1 h
def sRow (b:List UInt8) (i:Nat):scan_Row:=⟨(fs b i).1.map (sField b),(endF b (fs b i).2).1⟩
def rRow (b:List UInt8) (i:Nat):ref05_Row:=⟨(fs b i).1.map (rField b),(endF b (fs b i).2).1⟩
def nx (b:List UInt8) (i:Nat):Nat:=(endF b (fs b i).2).2
theorem sRowLoop (b:List UInt8) (hb:b.length≤2000000):∀ n i acc,b.length≤i+n→i≤b.length→acc.length≤i→loop (scan_reader_row.l1 b) (((fe b i:Nat):Int),acc++[sField b i])=some ((((fsF b n i).2:Nat):Int),acc++(fsF b n i).1.map (sField b)):=by
 have stop:∀ i acc,at_ b 44 (fe b i)=false→scan_reader_row.l1 b (((fe b i:Nat):Int),acc)=some (.done (((fe b i:Nat):Int),acc)):=fun i acc h=>by
  unfold scan_reader_row.l1;simp only;rw[is_eq,bnd_some',h,if_neg (by simp)]
 intro n
 induction n with
 | zero=>
  intro i acc h hi hl;obtain⟨s1,s2,s3,s4,s5⟩:=fieldF_spec b hb i hi;refine loop_done (stop i _ ?_);cases hc:at_ b 44 (fe b i) with
  | false=>rfl
  | true=>have:=at_in hc; simp only[fe] at this; omega
 | succ n ih=>
  intro i acc h hi hl;obtain⟨s1,s2,s3,s4,s5⟩:=fieldF_spec b hb i hi;have h0:i≤fe b i:=s1;simp only[fsF];by_cases c:at_ b 44 (fe b i)=true
  ·have hlt:=at_in c;rw[if_pos c];refine loop_next (s':=(((fe b (fe b i+1):Nat):Int),(acc++[sField b i])++[sField b (fe b i+1)])) ?_ ?_
   ·unfold scan_reader_row.l1;simp only;rw[is_eq,bnd_some',c,if_pos rfl,w64_id ⟨by omega,by omega⟩,show ((fe b i:Nat):Int)+1=((fe b i+1:Nat):Int) by omega,sField_eq b hb _ (by omega),bnd_some',app_of (by simp; omega),bnd_some']
   ·rw[ih (fe b i+1) (acc++[sField b i]) (by omega) (by omega) (by simp; omega)];simp
  ·rw[if_neg c];exact loop_done (stop i _ (by simpa using c))
theorem sRow_eq (b:List UInt8) (hb:b.length≤2000000) (i:Nat) (hi:i≤b.length):scan_reader_row b (i:Int)=some (sRow b i,((nx b i:Nat):Int)):=by
 obtain⟨h1,h2,h3,h4,h5,h6⟩:=fsF_spec b hb b.length i (by omega) hi;unfold scan_reader_row;rw[sField_eq b hb i hi,bnd_some'];have:=sRowLoop b hb b.length i [] (by omega) hi (by simp);simp only[List.nil_append] at this;simp only;rw[this,bnd_some'];simp only;rw[end_eq b hb _ h2,bnd_some'];rfl
theorem rRowLoop (b:List UInt8) (hb:b.length≤2000000):∀ n i acc,b.length≤i+n→i≤b.length→acc.length≤i→loop (ref05_One.l1 b) ((i:Int),acc)=some ((((fsF b n i).2:Nat):Int),acc++(fsF b n i).1.map (rField b)):=by
 have one:∀ (i:Nat) acc,i≤b.length→acc.length≤i→ref05_One.l1 b ((i:Int),acc)=some (if at_ b 44 (fe b i)=true then .next (((fe b i+1:Nat):Int),acc++[rField b i]) else .done (((fe b i:Nat):Int),acc++[rField b i])):=fun i acc hi hl=>by
  obtain⟨s1,s2,s3,s4,s5⟩:=fieldF_spec b hb i hi;unfold ref05_One.l1;simp only;rw[rField_eq b hb i hi,bnd_some',app_of (by simp; omega),bnd_some'];have e:w64 ((rField b i).fRaw.fAt+(rField b i).fRaw.fN)=((fe b i:Nat):Int):=by
   simp only[rField,fe];rw[w64_id ⟨by omega,by omega⟩]; omega
  rw[e];have e2:(if ((fe b i:Nat):Int)≥(b.length:Int) then some true else bnd (idx b ((fe b i:Nat):Int)) fun x23=>some (!((x23.toNat:Int)==44)):Option Bool)=some (!(at_ b 44 (fe b i))):=by
   by_cases h:b.length≤fe b i
   ·rw[if_pos (by omega)];simp[at_,List.getElem?_eq_none h]
   ·have h':fe b i<b.length:=by omega
    rw[if_neg (by omega),idx_nat (List.getElem?_eq_getElem h'),bnd_some'];simp only[at_,List.getElem?_eq_getElem h'];congr 2;rw[Bool.eq_iff_iff,beq_iff_eq,beq_iff_eq,u8_44,Option.some.injEq]
  rw[e2,bnd_some'];cases hc:at_ b 44 (fe b i) with
  | true=>
   have:=at_in hc;rw[if_neg (by simp),if_pos rfl,w64_id ⟨by omega,by omega⟩];congr 3
  | false=>rw[if_pos (by rfl),if_neg (by simp)]
 intro n
 induction n with
 | zero=>
  intro i acc h hi hl;obtain⟨s1,s2,s3,s4,s5⟩:=fieldF_spec b hb i hi;refine loop_done ?_;rw[one i acc hi hl,if_neg]
  ·rfl
  ·intro hc; have:=at_in hc; simp only[fe] at this; omega
 | succ n ih=>
  intro i acc h hi hl;obtain⟨s1,s2,s3,s4,s5⟩:=fieldF_spec b hb i hi;have h0:i≤fe b i:=s1;simp only[fsF];by_cases c:at_ b 44 (fe b i)=true
  ·have hlt:=at_in c;rw[if_pos c];refine loop_next (by rw[one i acc hi hl,if_pos c]) ?_;rw[ih (fe b i+1) (acc++[rField b i]) (by omega) (by omega) (by simp; omega)];simp
  ·rw[if_neg c];exact loop_done (by rw[one i acc hi hl,if_neg c]; rfl)
theorem rRow_eq (b:List UInt8) (hb:b.length≤2000000) (i:Nat) (hi:i<b.length):ref05_One b (i:Int)=some (rRow b i,((nx b i:Nat):Int)):=by
 obtain⟨h1,h2,h3,h4,h5,h6⟩:=fsF_spec b hb b.length i (by omega) (by omega);unfold ref05_One;rw[if_neg (by omega),decide_eq_false (by omega),bnd_some',if_neg (by simp)];have:=rRowLoop b hb b.length i [] (by omega) (by omega) (by simp);simp only[List.nil_append] at this;rw[this,bnd_some'];unfold rRow nx;rw[show fs b i=fsF b b.length i from rfl];generalize fsF b b.length i=r at *;obtain⟨L,e⟩:=r;simp only at *;unfold endF;have q:∀ (c:UInt8) (n:Nat),(c.toNat=n)→∀ x:UInt8,((x.toNat:Int)==(n:Int))=(x==c):=fun c n hc x=>by
  rw[Bool.eq_iff_iff,beq_iff_eq,beq_iff_eq,← u8n,hc]
 have e10:(if (e:Int)<(b.length:Int) then bnd (idx b (e:Int)) fun x27=>some ((x27.toNat:Int)==10) else some false:Option Bool)=some (at_ b 10 e):=by
  by_cases h:e<b.length
  ·rw[if_pos (by omega),idx_nat (List.getElem?_eq_getElem h),bnd_some'];simp only[at_,List.getElem?_eq_getElem h];rw[show ((10:Int))=((10:Nat):Int) from rfl,q 10 10 rfl];simp
  ·rw[if_neg (by omega)]; simp[at_,List.getElem?_eq_none (show b.length≤e by omega)]
 rw[e10,bnd_some'];by_cases c1:at_ b 10 e=true
 ·rw[if_pos c1,if_pos c1,w64_id ⟨by omega,by omega⟩]; rfl
 ·rw[if_neg c1,if_neg c1,w64_id (x:=(e:Int)+1) ⟨by omega,by omega⟩];have e13:(if (e:Int)+1<(b.length:Int) then bnd (idx b (e:Int)) fun x31=>if (x31.toNat:Int)=13 then bnd (idx b ((e:Int)+1)) fun x33=>some ((x33.toNat:Int)==10) else some false else some false:Option Bool)=some (at_ b 13 e&&at_ b 10 (e+1)):=by
   by_cases h:e+1<b.length
   ·have h':e<b.length:=by omega
    rw[if_pos (by omega),idx_nat (List.getElem?_eq_getElem h'),bnd_some',show (e:Int)+1=((e+1:Nat):Int) by omega,idx_nat (List.getElem?_eq_getElem h),bnd_some'];simp only[at_,List.getElem?_eq_getElem h,List.getElem?_eq_getElem h'];rw[show ((10:Int))=((10:Nat):Int) from rfl,q 10 10 rfl];simp only[u8_13];by_cases c:b[e]=13
    ·simp[c]
    ·simp[c]
   ·rw[if_neg (by omega)];have:at_ b 10 (e+1)=false:=by simp[at_,List.getElem?_eq_none (show b.length≤e+1 by omega)]
    rw[this]; simp
  rw[e13,bnd_some'];by_cases c2:at_ b 13 e=true
  ·have:=at_in c2;rw[if_pos c2,c2];by_cases c3:at_ b 10 (e+1)=true
   ·rw[if_pos c3,c3,if_pos (by rfl),w64_id ⟨by omega,by omega⟩]; rfl
   ·rw[if_neg c3,if_neg (by simpa using c3),if_pos (by omega)]; rfl
  ·have hlt:¬ e<b.length:=by
    intro hlt;simp only[at_,List.getElem?_eq_getElem hlt,mk,isMark] at *;simp at c1 c2 h3 h4;rcases h3 with (h|h)|h
    ·exact h4 h
    ·exact c2 h
    ·exact c1 h
   rw[if_neg c2,if_neg (by simp[c2]),if_neg (by omega)]
theorem nx_lt (b:List UInt8) (hb:b.length≤2000000) (i:Nat) (hi:i<b.length):i<nx b i∧nx b i≤b.length:=by
 obtain⟨h1,h2,h3,h4,h5,h6⟩:=fsF_spec b hb b.length i (by omega) (by omega);obtain⟨g1,g2,g3⟩:=endF_spec b (fs b i).2 h2;refine⟨?_,g2⟩;rcases Nat.lt_or_ge (fs b i).2 b.length with h|h
 ·have:=g3 h3 h4 h;have h1':i≤(fs b i).2:=h1;simp only[nx]; omega
 ·simp only[nx]; omega
def rsF (b:List UInt8):Nat→Nat→List Nat
| 0,_=>[]
| n+1,i=>if i<b.length then i::rsF b n (nx b i) else []
theorem sAllLoop (b:List UInt8) (hb:b.length≤2000000):∀ n i acc,b.length≤i+n→i≤b.length→acc.length≤i→loop (scan_All.l1 b) (acc,(i:Int))=some (acc++(rsF b n i).map (sRow b)):=by
 have stop:∀ (i:Nat) acc,b.length≤i→scan_All.l1 b (acc,(i:Int))=some (.done acc):=fun i acc h=>by
  unfold scan_All.l1;simp only;rw[done_eq,bnd_some',decide_eq_true h,if_pos rfl]
 intro n
 induction n with
 | zero=>intro i acc h hi hl; rw[show acc++(rsF b 0 i).map (sRow b)=acc by simp[rsF]]; exact loop_done (stop i acc (by omega))
 | succ n ih=>
  intro i acc h hi hl;simp only[rsF];by_cases c:i<b.length
  ·rw[if_pos c];obtain⟨n1,n2⟩:=nx_lt b hb i c;refine loop_next (s':=(acc++[sRow b i],((nx b i:Nat):Int))) ?_ ?_
   ·unfold scan_All.l1;simp only;rw[done_eq,bnd_some',decide_eq_false (by omega),if_neg (by simp),sRow_eq b hb i hi,bnd_some',app_of (by simp; omega),bnd_some']
   ·rw[ih _ _ (by omega) n2 (by simp; omega)]; simp
  ·rw[if_neg c,show acc++List.map (sRow b) []=acc by simp]; exact loop_done (stop i acc (by omega))
def rs (b:List UInt8):List Nat:=rsF b b.length 0
theorem sAll_eq (b:List UInt8) (hb:b.length≤2000000):scan_All b=some ((rs b).map (sRow b)):=by
 unfold scan_All;have:=sAllLoop b hb b.length 0 [] (by omega) (by omega) (by simp);rw[show ((0:Nat):Int)=0 from rfl] at this;rw[this,bnd_some']; rfl
theorem starts_spec (b : List UInt8) (hb : b.length ≤ 2000000) (i : Nat) (hi : i ≤ b.length) : (∀ j ∈ (fs b i).1, j ≤ b.length) ∧ (fs b i).1.length ≤ 2000001 := by
  obtain ⟨h1, h2, h3, h4, h5, h6⟩ := fsF_spec b hb b.length i (by omega) hi
  exact ⟨h5, by have : (fs b i).1.length ≤ b.length + 1 - i := h6
                omega⟩
def bytesAt (b:List UInt8) (p:List Int):List UInt8:=p.filterMap fun x=>b[x.toNat]?
theorem bytesAt_append (b:List UInt8) (p r:List Int):bytesAt b (p++r)=bytesAt b p++bytesAt b r:=by simp[bytesAt]
theorem bytesAt_len (b:List UInt8) (p:List Int):(bytesAt b p).length≤p.length:=List.length_filterMap_le _ _
theorem take_one (b:List UInt8) (n:Nat) (h:n<b.length):b.take (n+1)=b.take n++[b[n]]:=List.take_succ_eq_append_getElem h
theorem bytes_range (b:List UInt8) (a:Nat):∀ n,a+n≤b.length→(b.take (a+n)).drop a=bytesAt b (rangeI (a:Int) n)
 | 0,h=>by rw[List.drop_eq_nil_of_le (by simp; omega)]; rfl
 | n+1,h=>by
  rw[← Nat.add_assoc,take_one b (a+n) (by omega),List.drop_append_of_le_length (by simp; omega),bytes_range b a n (by omega),rangeI_succ,bytesAt_append];congr 1;simp only[bytesAt,List.filterMap_cons,List.filterMap_nil];rw[show ((a:Int)+(n:Int)).toNat=a+n by omega,List.getElem?_eq_getElem (by omega)]
theorem text_eq (b:List UInt8) (hb:b.length≤2000000) (p:List Int) (hp:∀ x∈p,0≤x∧x<(b.length:Int)) (hl:p.length≤2000000):ref05_Text b p=some (bytesAt b p):=by
 have h:=loop_fold (f:=ref05_Text.l1 b p) (fun i (s:List UInt8)=>(s,i)) p (fun pre=>bytesAt b pre) (t:=bytesAt b p)
  (fun pre x suf hs=>by
   have hx:=hp x (by rw[hs]; simp);have hpl:pre.length+1≤p.length:=by rw[hs]; simp
   have hbl:=bytesAt_len b pre;unfold ref05_Text.l1;simp only;rw[if_pos (by omega),show idx p (pre.length:Int)=some x by rw[hs]; exact idx_at pre x suf,bnd_some',w64_id (x:=x+1) ⟨by omega,by omega⟩,cut_of ⟨by omega,by omega,by omega⟩,bnd_some',w64_id ⟨by omega,by omega⟩];have e:(b.take (x+1).toNat).drop x.toNat=bytesAt b [x]:=by
    have:=bytes_range b x.toNat 1 (by omega);rw[show (x+1).toNat=x.toNat+1 by omega,this,show rangeI ((x.toNat:Nat):Int) 1=[x] by simp[rangeI]; omega]
   rw[e,bytesAt_append];have hl1:=bytesAt_len b [x];simp only[List.length_cons,List.length_nil] at hl1;rw[catS,if_pos (by omega),bnd_some'])
  (by
   unfold ref05_Text.l1;simp only;rw[if_neg (by omega)])
 unfold ref05_Text;have h':loop (ref05_Text.l1 b p) ([],0)=some (bytesAt b p):=by simpa [bytesAt] using h
 rw[h',bnd_some']
theorem rAllLoop (b:List UInt8) (hb:b.length≤2000000):∀ n i acc,b.length≤i+n→i≤b.length→acc.length≤i→loop (ref05_All.l1 b) ((i:Int),acc)=some (acc++(rsF b n i).map (rRow b)):=by
 have stop:∀ (i:Nat) acc,b.length≤i→ref05_All.l1 b ((i:Int),acc)=some (.done acc):=fun i acc h=>by
  unfold ref05_All.l1;simp only;rw[if_neg (by omega)]
 intro n
 induction n with
 | zero=>intro i acc h hi hl; rw[show acc++(rsF b 0 i).map (rRow b)=acc by simp[rsF]]; exact loop_done (stop i acc (by omega))
 | succ n ih=>
  intro i acc h hi hl;simp only[rsF];by_cases c:i<b.length
  ·rw[if_pos c];obtain⟨n1,n2⟩:=nx_lt b hb i c;refine loop_next (s':=(((nx b i:Nat):Int),acc++[rRow b i])) ?_ ?_
   ·unfold ref05_All.l1;simp only;rw[if_pos (by omega),rRow_eq b hb i c,bnd_some',app_of (by simp; omega),bnd_some']
   ·rw[ih _ _ (by omega) n2 (by simp; omega)]; simp
  ·rw[if_neg c,show acc++List.map (rRow b) []=acc by simp]; exact loop_done (stop i acc (by omega))
theorem rAll_eq (b:List UInt8) (hb:b.length≤2000000):ref05_All b=some ((rs b).map (rRow b)):=by
 unfold ref05_All;have:=rAllLoop b hb b.length 0 [] (by omega) (by omega) (by simp);rw[show ((0:Nat):Int)=0 from rfl] at this;rw[this,bnd_some']; rfl
def InA (r:List Int) (a:List UInt8):Prop:=∀ x∈r,0≤x∧x<(a.length:Int)
theorem inA_good {r:List Int} {a:List UInt8} (h:InA r a) (ha:a.length≤2000000):GoodP r:=fun x hx=>by have:=h x hx; omega
theorem bytesA_range {s:arena_Span} {a:List UInt8} (h0:0≤s.fAt) (h1:0≤s.fN) (h2:s.fAt+s.fN≤a.length):bytesA s a=bytesAt a (exp1 s)∧rightA s a=true:=by
 have hr:rightA s a=true:=by unfold rightA; simp only[decide_eq_true_eq]; omega
 refine⟨?_,hr⟩;unfold bytesA;rw[if_pos hr];have:=bytes_range a s.fAt.toNat s.fN.toNat (by omega);rw[show (s.fAt+s.fN).toNat=s.fAt.toNat+s.fN.toNat by omega,this,exp1,show ((s.fAt.toNat:Nat):Int)=s.fAt by omega]
theorem exp1_last {x:arena_Span} (h:1≤x.fN):x.fAt+((x.fN.toNat-1:Nat):Int)∈exp1 x:=by
 simp only[exp1,rangeI,List.mem_map,List.mem_range];exact⟨x.fN.toNat-1,by omega,rfl⟩
theorem Flat_eq (t:piece_Text) (r:List Int) (a:List UInt8) (ht:t.fL=canon r) (hr:InA r a) (ha:a.length≤2000000) (hl:r.length≤2000000):piece_Text_Flat t a=some (bytesAt a r):=by
 have p1:=inA_good hr ha;have hc:=canon_len r;have hg:=canon_good r p1;have h:=loop_fold (f:=piece_Text_Flat.l1 t a) (fun k (s:List UInt8)=>(k,s)) (canon r) (fun pre=>bytesAt a (expand pre)) (t:=bytesAt a r)
  (fun pre x suf hs=>by
   obtain⟨g1,g2,g3⟩:=exp_sub p1 (show canon r=pre++(x::suf) from hs);have hx:Good x:=hg x (by rw[hs]; simp);simp only[Good] at hx;have hpl:pre.length+1≤(canon r).length:=by rw[hs]; simp
   have hbl:=bytesAt_len a (expand pre);have hin:x.fAt+x.fN≤(a.length:Int):=by
    have:=hr (x.fAt+((x.fN.toNat-1:Nat):Int)) (by
     rw[g3,show x::suf=[x]++suf from rfl,expand_append,expand_one];simp only[List.mem_append];exact .inr (.inl (exp1_last (by omega))))
    omega
   obtain⟨e1,e2⟩:=bytesA_range (s:=x) (a:=a) (by omega) (by omega) hin;have hl1:=bytesAt_len a (exp1 x);have hl2:(exp1 x).length=x.fN.toNat:=rangeI_len _ _;unfold piece_Text_Flat.l1;rw[ht];simp only;rw[if_pos (by omega),show idx (canon r) (pre.length:Int)=some x by rw[hs]; exact idx_at pre x suf,bnd_some',Bytes_eq _ _ (by omega),bnd_some',e1,app_of (by omega),bnd_some',w64_id ⟨by omega,by omega⟩,expand_append,expand_one,bytesAt_append])
  (by
   unfold piece_Text_Flat.l1;rw[ht];simp only;rw[if_neg (by omega),canon_expand r p1])
 unfold piece_Text_Flat;have h':loop (piece_Text_Flat.l1 t a) (0,[])=some (bytesAt a r):=by simpa [bytesAt,expand] using h
 rw[h',bnd_some']
theorem OfG_eq (fa:List arena_Span) (h1:fa.length≤2000000) (h2:∀ s∈fa,1≤s.fN→Good s) (hp:GoodP (expand fa)) (hl:(expand fa).length≤2000000):piece_Of fa=some (tOf (expand fa)):=by
 have h:loop (piece_Of.l1 fa) (0,0,[])=some (((expand fa).length:Int),canon (expand fa)):=by
  refine loop_fold (f:=piece_Of.l1 fa) (fun i (s:Int × List arena_Span)=>(i,s)) fa (fun pre=>(((expand pre).length:Int),canon (expand pre))) (t:=(((expand fa).length:Int),canon (expand fa))) ?_ ?_
  ·intro pre x suf hs;have hpre:GoodP (expand pre)∧(expand pre).length≤(expand fa).length:=by
    have e:expand fa=expand pre++expand (x::suf):=by rw[hs,expand_append]
    exact⟨fun y hy=>hp y (by rw[e]; exact List.mem_append.2 (.inl hy)),by rw[e]; simp⟩
   have h1':pre.length+1≤fa.length:=by rw[hs]; simp
   have hc:=canon_len (expand pre);unfold piece_Of.l1;simp only;rw[if_pos (by omega),show idx fa (pre.length:Int)=some x by rw[hs]; exact idx_at pre x suf,bnd_some',with_eq x _ _ (canon_good _ hpre.1) (h2 x (by rw[hs]; simp)) ⟨by omega,by omega⟩ (by omega),bnd_some',w64_id ⟨by omega,by omega⟩,expand_append,expand_one];simp only[addS_exp];rw[show (exp1 x).foldl addI (canon (expand pre))=canon (expand pre++exp1 x) by simp[canon,List.foldl_append]];simp[exp1,rangeI_len]
  ·unfold piece_Of.l1;simp only;rw[if_neg (by omega)]
 unfold piece_Of;rw[h,bnd_some'];rfl
theorem OfC_eq (r:List Int) (hr:GoodP r) (hl:r.length≤2000000):piece_Of (canon r)=some (tOf r):=by
 have hc:=canon_len r;have he:=canon_expand r hr;have:=OfG_eq (canon r) (by omega) (fun s hs _=>canon_good r hr s hs) (by rw[he]; exact hr) (by rw[he]; exact hl);rw[this,he]
theorem PLen_eq (r:List Int):piece_Text_Len (tOf r)=some (r.length:Int):=rfl
theorem CBytes_eq (r:List Int) (raw:arena_Span) (k:Bool) (a:List UInt8) (hr:InA r a) (ha:a.length≤16384) (hl:r.length≤2000000):cell_Cell_Bytes ⟨tOf r,raw,k⟩ a=some (bytesAt a r):=by
 unfold cell_Cell_Bytes;rw[Flat_eq (tOf r) r a rfl hr (by omega) hl,bnd_some']
theorem Load_eq (r:List Int) (raw:arena_Span) (k:Int) (hr:GoodP r) (hl:r.length≤2000000):cell_Load ⟨raw,k,canon r⟩=some ⟨tOf r,raw,true⟩:=by
 unfold cell_Load;rw[OfC_eq r hr hl,bnd_some']
theorem set_at {α:Type} (l:List α) (x y:α) (r:List α) (n:Nat) (h:n=l.length):(l++x::r).set n y=l++y::r:=by
 subst h
 induction l with
 | nil=>rfl
 | cons a l ih=>simp
def zc:cell_Cell:=⟨⟨[],0⟩,⟨0,0⟩,false⟩
def kc (w:List UInt8) (j:Nat):cell_Cell:=⟨tOf (fieldF w j).2.1,⟨(j:Int),(((fieldF w j).2.2-j:Nat):Int)⟩,true⟩
def pc (w:List UInt8) (j:Nat):ref07_Cell:=⟨bytesAt w (fieldF w j).2.1,(w.take (fieldF w j).2.2).drop j,true⟩
def short (w:List UInt8) (j:Nat):Bool:=decide ((fieldF w j).2.1.length≤400)
theorem kc_eq (w:List UInt8) (hb:w.length≤16384) (j:Nat) (hj:j≤w.length):cell_Load (sField w j)=some (kc w j):=by
 obtain⟨f1,f2,f3,f4,f5⟩:=fieldF_spec w (by omega) j hj;exact Load_eq (fieldF w j).2.1 ⟨(j:Int),(((fieldF w j).2.2-j:Nat):Int)⟩ (fieldF w j).1 (inA_good f4 (by omega)) (by omega)
def ldR (w:List UInt8) (i:Nat):row_Row × Int:=if (fs w i).1.length>40 then (⟨[],0,false⟩,6) else if (fs w i).1.all (short w)=true then (⟨(fs w i).1.map (kc w),(sRow w i).fEnd,false⟩,0) else (⟨[],0,false⟩,7)
def ldP (w:List UInt8) (i:Nat):ref08_Row × Int:=if (fs w i).1.length>40 then (⟨[],0,false⟩,6) else if (fs w i).1.all (short w)=true then (⟨(fs w i).1.map (pc w),(sRow w i).fEnd,false⟩,0) else (⟨[],0,false⟩,7)
theorem rowLoad_eq (w:List UInt8) (hb:w.length≤16384) (i:Nat) (hi:i≤w.length):row_Load (sRow w i)=some (ldR w i):=by
 obtain⟨st1,st2⟩:=starts_spec w (by omega) i hi;unfold row_Load ldR;rw[show (sRow w i).fFields=(fs w i).1.map (sField w) from rfl,List.length_map];by_cases h40:(fs w i).1.length>40
 ·rw[if_pos (by omega),if_pos h40]
 ·rw[if_neg (by omega),if_neg h40,mkz_of (by omega),bnd_some',Int.toNat_natCast];obtain⟨t,t1,t2⟩:=loop_for (f:=row_Load.l1 (sRow w i)) (σ:=List cell_Cell) (fun k s=>(k,s)) (fs w i).1
   (fun pre s=>s=pre.map (kc w)++List.replicate ((fs w i).1.length-pre.length) zc∧pre.all (short w)=true)
   (fun t=>(fs w i).1.all (short w)=true∧t=Ex.brk ((fs w i).1.map (kc w))∨(fs w i).1.all (short w)=false∧t=Ex.ret (⟨[],0,false⟩,7))
   (fun pre j suf s hs hI=>by
    obtain⟨hI1,hI2⟩:=hI;have hlen:(fs w i).1.length=pre.length+(suf.length+1):=by rw[hs]; simp
    have hj:j≤w.length:=st1 j (by rw[hs]; simp);have hidx:idx (fs w i).1 (pre.length:Int)=some j:=by rw[hs]; exact idx_at pre j suf
    rw[show (fs w i).1.length-pre.length=suf.length+1 by omega,List.replicate_succ] at hI1;have hx:idx s (pre.length:Int)=some zc:=by rw[hI1]; exact idx_of (by rw[List.getElem?_append_right (by simp)]; simp)
    have hset:s.set pre.length (kc w j)=pre.map (kc w)++kc w j::List.replicate suf.length zc:=by rw[hI1]; exact set_at _ _ _ _ _ (by simp)
    have hx2:idx (s.set pre.length (kc w j)) (pre.length:Int)=some (kc w j):=by rw[hset]; exact idx_of (by rw[List.getElem?_append_right (by simp)]; simp)
    unfold row_Load.l1;simp only;rw[show (sRow w i).fFields=(fs w i).1.map (sField w) from rfl,if_pos (by simp; omega),idx_map,hidx];simp only[Option.map_some,bnd_some'];rw[kc_eq w hb j hj,bnd_some',hx,bnd_some',Int.toNat_natCast,hx2,bnd_some',show (kc w j).fText=tOf (fieldF w j).2.1 from rfl,PLen_eq,bnd_some'];by_cases hsh:short w j=true
    ·have hsh':=hsh;unfold short at hsh';simp only[decide_eq_true_eq] at hsh';rw[if_neg (by omega),w64_id ⟨by omega,by omega⟩];refine .inl ⟨_,rfl,?_,by simp[hI2,hsh]⟩;rw[hset,show (fs w i).1.length-(pre++[j]).length=suf.length by simp; omega];simp
    ·have hsh':=hsh;unfold short at hsh';simp only[decide_eq_true_eq] at hsh';rw[if_pos (by omega)];refine .inr ⟨_,rfl,.inr ⟨?_,rfl⟩⟩;rw[hs]; simp[hsh])
   (fun s hI=>by
    obtain⟨hI1,hI2⟩:=hI;refine⟨Ex.brk s,?_,.inl ⟨hI2,?_⟩⟩
    ·unfold row_Load.l1;simp only;rw[show (sRow w i).fFields=(fs w i).1.map (sField w) from rfl,if_neg (by simp)]
    ·rw[hI1]; simp) (s0:=List.replicate (fs w i).1.length zc) ⟨by simp,by simp⟩
  rw[show (⟨⟨[],0⟩,⟨0,0⟩,false⟩:cell_Cell)=zc from rfl,t1,bnd_some'];rcases t2 with ⟨q,rfl⟩|⟨q,rfl⟩
  ·dsimp only; rw[if_pos q]
  ·dsimp only; rw[if_neg (by rw[q]; decide)]
theorem refLoad_eq (w:List UInt8) (hb:w.length≤16384) (i:Nat) (hi:i≤w.length):ref08_Load w (rRow w i)=some (ldP w i):=by
 obtain⟨st1,st2⟩:=starts_spec w (by omega) i hi;unfold ref08_Load ldP;rw[show (rRow w i).fFields=(fs w i).1.map (rField w) from rfl,List.length_map];by_cases h40:(fs w i).1.length>40
 ·rw[if_pos (by omega),if_pos h40]
 ·rw[if_neg (by omega),if_neg h40];obtain⟨t,t1,t2⟩:=loop_for (f:=ref08_Load.l1 w (rRow w i)) (σ:=List ref07_Cell) (fun k s=>(k,s)) (fs w i).1
   (fun pre s=>s=pre.map (pc w)∧pre.all (short w)=true)
   (fun t=>(fs w i).1.all (short w)=true∧t=Ex.brk ((fs w i).1.map (pc w))∨(fs w i).1.all (short w)=false∧t=Ex.ret (⟨[],0,false⟩,7))
   (fun pre j suf s hs hI=>by
    obtain⟨hI1,hI2⟩:=hI;have hlen:(fs w i).1.length=pre.length+(suf.length+1):=by rw[hs]; simp
    have hj:j≤w.length:=st1 j (by rw[hs]; simp);have hidx:idx (fs w i).1 (pre.length:Int)=some j:=by rw[hs]; exact idx_at pre j suf
    obtain⟨f1,f2,f3,f4,f5⟩:=fieldF_spec w (by omega) j hj;have hcut:cut w (j:Int) (w64 ((j:Int)+(((fieldF w j).2.2-j:Nat):Int)))=some ((w.take (fieldF w j).2.2).drop j):=by
     rw[w64_id ⟨by omega,by omega⟩,cut_of ⟨by omega,by omega,by omega⟩];rw[show ((j:Int)+(((fieldF w j).2.2-j:Nat):Int)).toNat=(fieldF w j).2.2 by omega,Int.toNat_natCast]
    unfold ref08_Load.l1;simp only;rw[show (rRow w i).fFields=(fs w i).1.map (rField w) from rfl,if_pos (by simp; omega),idx_map,hidx];simp only[Option.map_some,bnd_some'];rw[show (rField w j).fRaw=⟨(j:Int),(((fieldF w j).2.2-j:Nat):Int)⟩ from rfl,show (rField w j).fBytes=(fieldF w j).2.1 from rfl];dsimp only;by_cases hsh:short w j=true
    ·have hsh':=hsh;unfold short at hsh';simp only[decide_eq_true_eq] at hsh';rw[if_neg (by omega),text_eq w (by omega) _ f4 (by omega),bnd_some',hcut,bnd_some',app_of (by rw[hI1]; simp; omega),bnd_some',w64_id ⟨by omega,by omega⟩];refine .inl ⟨_,rfl,?_,by simp[hI2,hsh]⟩;rw[hI1]; simp[pc]
    ·have hsh':=hsh;unfold short at hsh';simp only[decide_eq_true_eq] at hsh';rw[if_pos (by omega)];refine .inr ⟨_,rfl,.inr ⟨?_,rfl⟩⟩;rw[hs]; simp[hsh])
   (fun s hI=>by
    obtain⟨hI1,hI2⟩:=hI;refine⟨Ex.brk s,?_,.inl ⟨hI2,?_⟩⟩
    ·unfold ref08_Load.l1;simp only;rw[show (rRow w i).fFields=(fs w i).1.map (rField w) from rfl,if_neg (by simp)]
    ·rw[hI1]) (s0:=[]) ⟨rfl,rfl⟩
  rw[t1,bnd_some'];rcases t2 with ⟨q,rfl⟩|⟨q,rfl⟩
  ·dsimp only; rw[if_pos q]; rfl
  ·dsimp only; rw[if_neg (by rw[q]; decide)]
theorem cuts_loop {α:Type} {f:List α × Int × List (List α)→Option (Lp (List α × Int × List (List α)) (List (List α)))} {cl:List α→Option (List α)} (hcl:∀ l,l.length≤2000000→cl l=some l)
 (hf:∀ l m out,f (l,m,out)=if m>0 then bnd (dvd (l.length:Int) m) fun x15=>bnd (cut l 0 x15) fun x16=>bnd (cl x16) fun x17=>bnd (app 24 out [x17]) fun x19=>bnd (cut l x15 (l.length:Int)) fun x21=>some (.next (x21,w64 (m-1),x19)) else some (.done out)) :
 ∀ (m:Nat) (l:List α) (out:List (List α)),l.length≤6*m→l.length≤2000000→out.length+m≤2000000 →
  ∃ ps,loop f (l,(m:Int),out)=some (out++ps)∧ps.flatten=l∧ps.length=m∧(∀ p∈ps,p.length≤6)∧∀ c,c*m≤l.length→∀ p∈ps,c≤p.length:=by
 intro m
 induction m with
 | zero=>
  intro l out h1 _ _;obtain rfl:=List.length_eq_zero_iff.1 (show l.length=0 by omega);refine⟨[],?_,rfl,rfl,(fun p hp=>by cases hp),(fun c _ p hp=>by cases hp)⟩;rw[List.append_nil];refine loop_done ?_;rw[hf,if_neg (by simp)]
 | succ m ih=>
  intro l out h1 h2 h3;have hd:(m+1)*(l.length / (m+1))+l.length % (m+1)=l.length:=Nat.div_add_mod _ _;have hr:l.length % (m+1)<m+1:=Nat.mod_lt _ (by omega);have h6:l.length / (m+1)≤6:=Nat.div_le_of_le_mul (by omega);have hlow:∀ c,c*(m+1)≤l.length→c≤l.length / (m+1):=fun c hc=>(Nat.le_div_iff_mul_le (by omega)).2 hc;have hdv:dvd (l.length:Int) ((m+1:Nat):Int)=some (((l.length / (m+1):Nat)):Int):=by
   rw[dvd_of (by omega)];show some (w64 (((l.length / (m+1):Nat)):Int))=_;have h6':=h6;generalize l.length / (m+1)=n at h6' ⊢;rw[w64_id ⟨by omega,by omega⟩]
  generalize l.length / (m+1)=n at *;generalize l.length % (m+1)=r at *;have e1:(m+1)*n=m*n+n:=Nat.succ_mul m n;have hle:n≤l.length:=by omega
  have hs6:(l.drop n).length≤6*m:=by
   rw[List.length_drop];rcases Nat.lt_or_ge n 6 with hn|hn
   ·have:m*n≤m*5:=Nat.mul_le_mul_left m (by omega);omega
   ·have:n=6:=by omega
    omega
  obtain⟨ps,p1,p2,p3,p4,p5⟩:=ih (l.drop n) (out++[l.take n]) hs6 (by rw[List.length_drop]; omega) (by rw[List.length_append]; simp only[List.length_cons,List.length_nil]; omega);refine⟨l.take n::ps,loop_next (s':=(l.drop n,(m:Int),out++[l.take n])) ?_ ?_,?_,by simp[p3],fun p hp=>?_,fun c hc p hp=>?_⟩
  ·rw[hf,if_pos (by omega),hdv,bnd_some',cut_of ⟨by omega,by omega,by omega⟩,bnd_some',hcl _ (by simp; omega),bnd_some',app_of (by simp; omega),bnd_some',cut_of ⟨by omega,by omega,by omega⟩,bnd_some',w64_id ⟨by omega,by omega⟩];simp
  ·rw[p1]; simp
  ·rw[List.flatten_cons,p2,List.take_append_drop]
  ·rcases List.mem_cons.1 hp with rfl|hp
   ·rw[List.length_take]; omega
   ·exact p4 p hp
  ·have hcn:=hlow c hc;rcases List.mem_cons.1 hp with rfl|hp
   ·rw[List.length_take]; omega
   ·refine p5 c ?_ p hp;rw[List.length_drop];have:m*c≤m*n:=Nat.mul_le_mul_left m hcn;have e2:c*m=m*c:=Nat.mul_comm _ _;omega
theorem many_eq (n:Nat) (h:n≤2000000):w64 (quo (w64 ((w64 ((n:Int)+6))-1)) 5)=(((n+5) / 6:Nat):Int):=by
 rw[w64_id (x:=(n:Int)+6) ⟨by omega,by omega⟩,w64_id (x:=(n:Int)+6-1) ⟨by omega,by omega⟩,show (n:Int)+6-1=((n+5:Nat):Int) by omega];have:quo ((n+5:Nat):Int) 5=(((n+5) / 6:Nat):Int):=rfl;rw[this,w64_id ⟨by omega,by omega⟩]
theorem concat_gen {α:Type} {f1:Int × Int→Option (Lp (Int × Int) Int)} {f2:Int × List α→Option (Lp (Int × List α) (List α))} {gr:Int→Option (List α)} (L:List (List α))
 (h1:∀ s,f1 s=if s.2<(L.length:Int) then bnd (idx L s.2) fun x11=>if (w64 (s.1+(x11.length:Int)))<0 then none else some (.next (w64 (s.1+(x11.length:Int)),w64 (s.2+1))) else some (.done s.1)) {by_:Nat} (hby:by_≤100)
 (h2:∀ s,f2 s=if s.1<(L.length:Int) then bnd (idx L s.1) fun x27=>bnd (app by_ s.2 x27) fun x28=>some (.next (w64 (s.1+1),x28)) else some (.done s.2))
 (hg:∀ n:Nat,n≤2000000→gr (n:Int)=some []) (hb:L.flatten.length≤2000000) (hl:L.length≤1000) :
 (bnd (loop f1 (0,0)) fun t1=>bnd (gr t1) fun x13=>bnd (loop f2 (0,x13)) fun t15=>some t15)=some L.flatten:=by
 have hpre:∀ pre x suf,L=pre++x::suf→pre.flatten.length+x.length≤2000000∧pre.length+1≤1000:=fun pre x suf hs=>by
  rw[hs] at hb hl;simp only[List.flatten_append,List.flatten_cons,List.length_append,List.length_cons] at hb hl;omega
 have l1:=loop_fold (f:=f1) (fun k (s:Int)=>(s,k)) L (fun pre=>(pre.flatten.length:Int)) (t:=(L.flatten.length:Int)) (fun pre x suf hs=>by
  obtain⟨b1,b2⟩:=hpre pre x suf hs;have hlen:L.length=pre.length+(suf.length+1):=by rw[hs]; simp
  rw[h1];dsimp only;rw[if_pos (by omega),show idx L (pre.length:Int)=some x by rw[hs]; exact idx_at pre x suf,bnd_some',w64_id ⟨by omega,by omega⟩,if_neg (by omega),w64_id ⟨by omega,by omega⟩];simp) (by rw[h1]; dsimp only; rw[if_neg (by omega)])
 have l2:=loop_fold (f:=f2) (fun k (s:List α)=>(k,s)) L (fun pre=>pre.flatten) (t:=L.flatten) (fun pre x suf hs=>by
  obtain⟨b1,b2⟩:=hpre pre x suf hs;have hlen:L.length=pre.length+(suf.length+1):=by rw[hs]; simp
  rw[h2];dsimp only;rw[if_pos (by omega),show idx L (pre.length:Int)=some x by rw[hs]; exact idx_at pre x suf,bnd_some',app_of (Nat.le_trans (Nat.mul_le_mul b1 (show by_+1≤101 by omega)) (by decide)),bnd_some',w64_id ⟨by omega,by omega⟩];simp) (by rw[h2]; dsimp only; rw[if_neg (by omega)])
 have l1':loop f1 (0,0)=some (L.flatten.length:Int):=by simpa using l1
 have l2':loop f2 (0,[])=some L.flatten:=by simpa using l2
 rw[l1',bnd_some',hg _ hb,bnd_some',l2',bnd_some']
abbrev El:=row_Row
instance:Inhabited row_Row:=⟨⟨[],0,false⟩⟩
abbrev Nd:=tNd
theorem oN (z:Nd):o_tNd (c_tNd z)=some z:=o_tNd_c z
theorem cN_inj (a b:Nd) (h:c_tNd a=c_tNd b):a=b:=Option.some.inj ((oN a).symm.trans ((congrArg o_tNd h).trans (oN b)))
def wd (z:Nd):Nat:=z.fKids.length+z.fItems.length
def T:Nat→Nd→List El→Prop
| 0,z,l=>z=⟨[],l,(l.length:Int)⟩
| h+1,z,l=>z.fItems=[]∧z.fN=(l.length:Int)∧∃ zs:List (Nd × List El),z.fKids=zs.map (fun p=>c_tNd p.1)∧l=zs.flatMap (fun p=>p.2)∧∀ p∈zs,T h p.1 p.2∧3≤wd p.1∧wd p.1≤6
def Fo (lo h:Nat) (xs:List NP) (l:List El):Prop:=∃ zs:List (Nd × List El),xs=zs.map (fun p=>c_tNd p.1)∧l=zs.flatMap (fun p=>p.2)∧∀ p∈zs,T h p.1 p.2∧lo≤wd p.1∧wd p.1≤6
theorem T_succ {h:Nat} {z:Nd} {l:List El}:T (h+1) z l↔z.fItems=[]∧z.fN=(l.length:Int)∧Fo 3 h z.fKids l:=Iff.rfl
theorem T_N {h:Nat} {z:Nd} {l:List El} (ht:T h z l):z.fN=(l.length:Int):=by
 cases h with
 | zero=>rw[show z=⟨[],l,(l.length:Int)⟩ from ht]
 | succ h=>exact ht.2.1
theorem Fo.nil {lo h:Nat}:Fo lo h [] []:=⟨[],rfl,rfl,fun p hp=>by cases hp⟩
theorem Fo.nil_inv {lo h:Nat} {l:List El} (hf:Fo lo h [] l):l=[]:=by
 obtain⟨zs,h1,h2,_⟩:=hf;cases zs with
 | nil=>exact h2
 | cons a b=>simp at h1
theorem Fo.one {lo h:Nat} {z:Nd} {l:List El} (ht:T h z l) (h1:lo≤wd z) (h2:wd z≤6):Fo lo h [c_tNd z] l:=⟨[(z,l)],rfl,by simp,fun p hp=>by simp at hp; subst hp; exact⟨ht,h1,h2⟩⟩
theorem Fo.app {lo h:Nat} {a b:List NP} {l m:List El} (ha:Fo lo h a l) (hb:Fo lo h b m):Fo lo h (a++b) (l++m):=by
 obtain⟨zs,rfl,rfl,h1⟩:=ha;obtain⟨ws,rfl,rfl,h2⟩:=hb;exact⟨zs++ws,by simp,by simp,fun p hp=>(List.mem_append.1 hp).elim (h1 p) (h2 p)⟩
theorem Fo.split {lo h:Nat} {a b:List NP} {l:List El} (hf:Fo lo h (a++b) l):∃ la lb,l=la++lb∧Fo lo h a la∧Fo lo h b lb:=by
 obtain⟨zs,h1,rfl,h2⟩:=hf;obtain⟨xs,ys,rfl,rfl,rfl⟩:=List.map_eq_append_iff.1 h1.symm;exact⟨_,_,by rw[List.flatMap_append],⟨xs,rfl,rfl,fun p hp=>h2 p (List.mem_append.2 (.inl hp))⟩,⟨ys,rfl,rfl,fun p hp=>h2 p (List.mem_append.2 (.inr hp))⟩⟩
theorem Fo.cons_inv {lo h:Nat} {x:NP} {xs:List NP} {l:List El} (hf:Fo lo h (x::xs) l):∃ z m r,x=c_tNd z∧T h z m∧lo≤wd z∧wd z≤6∧l=m++r∧Fo lo h xs r:=by
 obtain⟨zs,h1,rfl,h2⟩:=hf;cases zs with
 | nil=>simp at h1
 | cons p zs=>
  simp only[List.map_cons,List.cons.injEq] at h1;obtain⟨g1,g2,g3⟩:=h2 p (by simp);exact⟨p.1,p.2,_,h1.1,g1,g2,g3,by simp,⟨zs,h1.2,rfl,fun q hq=>h2 q (by simp[hq])⟩⟩
theorem Fo.mono {lo lo' h:Nat} {xs:List NP} {l:List El} (hf:Fo lo h xs l) (hl:lo'≤lo):Fo lo' h xs l:=by
 obtain⟨zs,h1,h2,h3⟩:=hf;exact⟨zs,h1,h2,fun p hp=>⟨(h3 p hp).1,Nat.le_trans hl (h3 p hp).2.1,(h3 p hp).2.2⟩⟩
theorem Fo.at_ {lo h:Nat} {xs:List NP} {l:List El} (hf:Fo lo h xs l) {k:Nat} (hk:k<xs.length):∃ z la m lb,xs[k]? = some (c_tNd z)∧T h z m∧lo≤wd z∧wd z≤6∧l=la++m++lb∧Fo lo h (xs.take k) la∧Fo lo h (xs.drop (k+1)) lb:=by
 have e:xs=xs.take k++xs[k]::xs.drop (k+1):=by rw[← List.drop_eq_getElem_cons hk,List.take_append_drop]
 rw[e] at hf;obtain⟨la,lb,rfl,h1,h2⟩:=hf.split;obtain⟨z,m,r,g1,g2,g3,g4,rfl,g6⟩:=h2.cons_inv;exact⟨z,la,m,r,by rw[List.getElem?_eq_getElem hk,g1],g2,g3,g4,by simp,h1,g6⟩
theorem cloneEl (l:List El) (h:l.length≤2000000):slices_Clone_row_Row_row_Row l=some l:=by
 unfold slices_Clone_row_Row_row_Row;rw[app_of (by simp; omega),bnd_some',List.nil_append]
theorem cloneNP (l:List NP) (h:l.length≤2000000):slices_Clone_tree_Node_row_Row_tree_Node_row_Row l=some l:=by
 unfold slices_Clone_tree_Node_row_Row_tree_Node_row_Row;rw[app_of (by simp; omega),bnd_some',List.nil_append]
theorem cutsEl (l:List El) (h:l.length≤2000000):∃ ps,tree_cuts_row_Row l=some ps∧ps.flatten=l∧ps.length=(l.length+5) / 6∧(∀ p∈ps,p.length≤6)∧∀ c,c*((l.length+5) / 6)≤l.length→∀ p∈ps,c≤p.length:=by
 obtain⟨ps,p1,p2⟩:=cuts_loop (f:=tree_cuts_row_Row.l1) (cl:=slices_Clone_row_Row_row_Row) cloneEl (fun l m out=>rfl) ((l.length+5) / 6) l [] (by omega) h (by simp; omega);refine⟨ps,?_,p2⟩;unfold tree_cuts_row_Row;rw[many_eq _ h,mkc_of ⟨by omega,by omega⟩,bnd_some',p1,bnd_some',List.nil_append]
theorem cutsNP (l:List NP) (h:l.length≤2000000):∃ ps,tree_cuts_tree_Node_row_Row l=some ps∧ps.flatten=l∧ps.length=(l.length+5) / 6∧(∀ p∈ps,p.length≤6)∧∀ c,c*((l.length+5) / 6)≤l.length→∀ p∈ps,c≤p.length:=by
 obtain⟨ps,p1,p2⟩:=cuts_loop (f:=tree_cuts_tree_Node_row_Row.l1) (cl:=slices_Clone_tree_Node_row_Row_tree_Node_row_Row) cloneNP (fun l m out=>rfl) ((l.length+5) / 6) l [] (by omega) h (by simp; omega);refine⟨ps,?_,p2⟩;unfold tree_cuts_tree_Node_row_Row;rw[many_eq _ h,mkc_of ⟨by omega,by omega⟩,bnd_some',p1,bnd_some',List.nil_append]
theorem leaf_fo (p:List El) {lo:Nat} (h1:lo≤p.length) (h2:p.length≤6):Fo lo 0 [c_tNd ⟨[],p,(p.length:Int)⟩] p:=Fo.one rfl (by simpa [wd] using h1) (by simpa [wd] using h2)
theorem leaves_fo {lo:Nat}:∀ (ps:List (List El)),(∀ p∈ps,lo≤p.length∧p.length≤6)→Fo lo 0 (ps.map fun p=>c_tNd ⟨[],p,(p.length:Int)⟩) ps.flatten
 | [],_=>Fo.nil
 | p::ps,h=>by
  have:=(leaf_fo p (h p (by simp)).1 (h p (by simp)).2).app (leaves_fo ps (fun q hq=>h q (by simp[hq])));simpa using this
theorem leaves_eq (l:List El) (h:l.length≤2000000):∃ xs,tree_leaves_row_Row l=some xs∧xs.length=(l.length+5) / 6∧∀ c,c*((l.length+5) / 6)≤l.length→Fo c 0 xs l:=by
 obtain⟨ps,p1,p2,p3,p4,p5⟩:=cutsEl l h;refine⟨ps.map fun p=>c_tNd ⟨[],p,(p.length:Int)⟩,?_,by rw[List.length_map,p3],fun c hc=>?_⟩
 ·unfold tree_leaves_row_Row;rw[p1,bnd_some'];have hh:=loop_fold (f:=tree_leaves_row_Row.l1 ps) (fun k (s:List NP)=>(k,s)) ps (fun pre=>pre.map fun p=>c_tNd ⟨[],p,(p.length:Int)⟩) (t:=ps.map fun p=>c_tNd ⟨[],p,(p.length:Int)⟩)
   (fun pre x suf hs=>by
    have hlen:ps.length=pre.length+(suf.length+1):=by rw[hs]; simp
    unfold tree_leaves_row_Row.l1 tree_leaf_row_Row;dsimp only;rw[if_pos (by omega),show idx ps (pre.length:Int)=some x by rw[hs]; exact idx_at pre x suf,bnd_some',bnd_some',app_of (by simp; omega),bnd_some',w64_id ⟨by omega,by omega⟩,List.map_append];rfl)
   (by
    unfold tree_leaves_row_Row.l1;dsimp only;rw[if_neg (by omega)])
  have h':loop (tree_leaves_row_Row.l1 ps) (0,[])=some (ps.map fun p=>c_tNd ⟨[],p,(p.length:Int)⟩):=by simpa using hh
  rw[h',bnd_some']
 ·have:=leaves_fo (lo:=c) ps (fun p hp=>⟨p5 c hc p hp,p4 p hp⟩);rwa[p2] at this
theorem inner_eq {h:Nat} {ks:List NP} {l:List El} (hf:Fo 3 h ks l) (hk:ks.length≤2000000) (hl:l.length≤2000000):tree_inner_row_Row ks=some (ks,[],(l.length:Int)):=by
 obtain⟨zs,rfl,rfl,h3⟩:=hf;have hh:=loop_fold (f:=tree_inner_row_Row.l1 (zs.map fun p=>c_tNd p.1)) (fun k (s:Int)=>(k,s)) zs (fun pre=>((pre.flatMap (fun p=>p.2)).length:Int)) (t:=((zs.flatMap (fun p=>p.2)).length:Int))
  (fun pre x suf hs=>by
   have hlen:zs.length=pre.length+(suf.length+1):=by rw[hs]; simp
   have hxl:(pre.flatMap (fun p=>p.2)).length+x.2.length≤2000000:=by
    rw[hs] at hl;simp only[List.flatMap_append,List.flatMap_cons,List.length_append] at hl;omega
   have hN:=T_N (h3 x (by rw[hs]; simp)).1;rw[List.length_map] at hk;unfold tree_inner_row_Row.l1;dsimp only;rw[if_pos (by rw[List.length_map]; omega),idx_of (show (zs.map fun p=>c_tNd p.1)[pre.length]? = some (c_tNd x.1) by rw[hs]; simp),bnd_some',oN,bnd_some',hN,w64_id ⟨by omega,by omega⟩,w64_id ⟨by omega,by omega⟩];simp)
  (by
   unfold tree_inner_row_Row.l1;dsimp only;rw[if_neg (by rw[List.length_map]; omega)])
 unfold tree_inner_row_Row;have h':loop (tree_inner_row_Row.l1 (zs.map fun p=>c_tNd p.1)) (0,0)=some ((zs.flatMap (fun p=>p.2)).length:Int):=by simpa using hh
 rw[h',bnd_some']
theorem inner_T {h:Nat} {ks:List NP} {l:List El} (hf:Fo 3 h ks l):T (h+1) ⟨ks,[],(l.length:Int)⟩ l∧wd ⟨ks,[],(l.length:Int)⟩=ks.length:=⟨T_succ.2 ⟨rfl,rfl,hf⟩,by simp[wd]⟩
theorem inners_eq {h:Nat} {ks:List NP} {l:List El} (hf:Fo 3 h ks l) (hk:ks.length≤2000000) (hl:l.length≤2000000):∃ xs,tree_inners_row_Row ks=some xs∧xs.length=(ks.length+5) / 6∧∀ c,c*((ks.length+5) / 6)≤ks.length→Fo c (h+1) xs l:=by
 obtain⟨ps,p1,p2,p3,p4,p5⟩:=cutsNP ks hk;have key:∀ (suf pre:List (List NP)) (out:List NP) (l1 l2:List El),ps=pre++suf→out.length=pre.length→l=l1++l2→Fo 3 h suf.flatten l2→(∀ c,(∀ p∈ps,c≤p.length)→Fo c (h+1) out l1) →
  ∃ xs,loop (tree_inners_row_Row.l1 ps) ((pre.length:Int),out)=some xs∧xs.length=ps.length∧∀ c,(∀ p∈ps,c≤p.length)→Fo c (h+1) xs l:=by
  intro suf
  induction suf with
  | nil=>
   intro pre out l1 l2 hp ho hl12 hf2 hc;have:=hf2.nil_inv;subst this;rw[List.append_nil] at hl12 hp;subst hl12 hp;refine⟨out,loop_done ?_,ho,hc⟩;unfold tree_inners_row_Row.l1;dsimp only;rw[if_neg (by omega)]
  | cons p suf ih=>
   intro pre out l1 l2 hp ho hl12 hf2 hc;have hlen:ps.length=pre.length+(suf.length+1):=by rw[hp]; simp
   rw[List.flatten_cons] at hf2;obtain⟨la,lb,rfl,g1,g2⟩:=hf2.split;have hla:la.length≤2000000:=by rw[hl12] at hl; simp only[List.length_append] at hl; omega
   have hp6:=p4 p (by rw[hp]; simp);obtain⟨t1,t2⟩:=inner_T g1;obtain⟨xs,x1,x2,x3⟩:=ih (pre++[p]) (out++[c_tNd ⟨p,[],(la.length:Int)⟩]) (l1++la) lb (by rw[hp]; simp) (by simp[ho]) (by rw[hl12]; simp) g2 (fun c hcp=>(hc c hcp).app (Fo.one t1 (by rw[t2]; exact hcp p (by rw[hp]; simp)) (by rw[t2]; exact hp6)));refine⟨xs,loop_next (s':=((pre.length:Int)+1,out++[c_tNd ⟨p,[],(la.length:Int)⟩])) ?_ ?_,x2,x3⟩
   ·unfold tree_inners_row_Row.l1;dsimp only;rw[if_pos (by omega),show idx ps (pre.length:Int)=some p by rw[hp]; exact idx_at pre p suf,bnd_some',inner_eq g1 (by omega) hla,bnd_some',app_of (by simp; omega),bnd_some',w64_id ⟨by omega,by omega⟩]
   ·rw[← x1]; simp
 obtain⟨xs,x1,x2,x3⟩:=key ps [] [] [] l rfl rfl rfl (by rw[p2]; exact hf) (fun c _=>Fo.nil);refine⟨xs,?_,by rw[x2,p3],fun c hc=>x3 c (p5 c hc)⟩;unfold tree_inners_row_Row;rw[p1,bnd_some'];rw[show ((([]:List (List NP)).length:Nat):Int)=0 from rfl] at x1;rw[x1,bnd_some']
def Rt (h:Nat) (z:Nd) (l:List El):Prop:=T h z l∧wd z≤6∧z.fKids.length≠1∧l≠[]
def IsT (t:tTr) (l:List El):Prop:=(l=[]∧t=⟨none⟩)∨∃ h z,t=⟨some (c_tNd z)⟩∧Rt h z l
def Up (h:Nat) (xs:List NP) (l:List El):Prop:=Fo 0 h xs l∧(xs.length≤1∨Fo 3 h xs l)
theorem aboveLoop:∀ (n h:Nat) (xs:List NP) (l:List El),xs.length≤n→xs.length≤2000000→l.length≤2000000→Up h xs l→∃ h' ys,loop tree_above_row_Row.l1 xs=some ys∧Fo 0 h' ys l∧ys.length≤1:=by
 intro n
 induction n with
 | zero=>
  intro h xs l hn hk hl hu;refine⟨h,xs,loop_done ?_,hu.1,by omega⟩;unfold tree_above_row_Row.l1;rw[if_neg (by omega)]
 | succ n ih=>
  intro h xs l hn hk hl hu;by_cases c:xs.length≤1
  ·refine⟨h,xs,loop_done ?_,hu.1,c⟩;unfold tree_above_row_Row.l1;rw[if_neg (by omega)]
  ·have h3:Fo 3 h xs l:=hu.2.resolve_left c;obtain⟨ys,y1,y2,y3⟩:=inners_eq h3 hk hl;obtain⟨h',zs,z1,z2⟩:=ih (h+1) ys l (by omega) (by omega) hl ⟨y3 0 (by omega),by
    by_cases c2:ys.length≤1
    ·exact .inl c2
    ·exact .inr (y3 3 (by omega))⟩
   refine⟨h',zs,loop_next (s':=ys) ?_ z1,z2⟩;unfold tree_above_row_Row.l1;rw[if_pos (by omega),y1,bnd_some']
theorem kids_ge {h:Nat} {z:Nd} {l:List El} (ht:T h z l) (hw:3≤wd z):z.fKids.length≠1:=by
 cases h with
 | zero=>rw[show z=⟨[],l,(l.length:Int)⟩ from ht]; simp
 | succ h=>
  have:=ht.1;unfold wd at hw;rw[this] at hw;simp at hw;omega
theorem above_eq {h:Nat} {xs:List NP} {l:List El} (hu:Up h xs l) (hk:xs.length≤2000000) (hl:l.length≤2000000):∃ t,tree_above_row_Row xs=some t∧IsT t l:=by
 obtain⟨h',ys,y1,y2,y3⟩:=aboveLoop xs.length h xs l (Nat.le_refl _) hk hl hu;unfold tree_above_row_Row;rw[y1,bnd_some']
 match ys,y2,y3 with
 | [],y2,_=>
  rw[if_pos (by rfl),bnd_some',if_pos rfl];exact⟨_,rfl,.inl ⟨y2.nil_inv,rfl⟩⟩
 | [x],y2,_=>
  obtain⟨z,m,r,rfl,g1,g2,g3,g4,g5⟩:=y2.cons_inv;have:=g5.nil_inv;subst this;rw[List.append_nil] at g4;subst g4;have hN:=T_N g1;rw[if_neg (by simp),show idx [c_tNd z] 0=some (c_tNd z) from rfl,bnd_some',oN,bnd_some',bnd_some',hN];by_cases c:l=[]
  ·subst c;rw[if_pos (by simp)];exact⟨_,rfl,.inl ⟨rfl,rfl⟩⟩
  ·have hm:l.length≠0:=fun e=>c (List.length_eq_zero_iff.1 e);rw[if_neg (by simp; exact c),bnd_some',oN,bnd_some'];by_cases c1:z.fKids.length=1
   ·cases h' with
    | zero=>rw[show z=⟨[],l,(l.length:Int)⟩ from g1] at c1; simp at c1
    | succ h'=>
     obtain⟨k1,k2,k3⟩:=T_succ.1 g1;obtain⟨x,hx⟩:=List.length_eq_one_iff.1 c1;rw[hx] at k3;obtain⟨w,m',r',rfl,w1,w2,w3,w4,w5⟩:=k3.cons_inv;have:=w5.nil_inv;subst this;rw[List.append_nil] at w4;subst w4;have hne:=kids_ge w1 w2;have hlp:loop tree_above_row_Row.l2 (z.fKids,z.fItems,z.fN)=some (w.fKids,w.fItems,w.fN):=by
      refine loop_next (s':=(w.fKids,w.fItems,w.fN)) ?_ (loop_done ?_)
      ·unfold tree_above_row_Row.l2;dsimp only;rw[if_pos (by omega),hx,show idx [c_tNd w] 0=some (c_tNd w) from rfl,bnd_some',oN,bnd_some']
      ·unfold tree_above_row_Row.l2;dsimp only;rw[if_neg (by omega)]
     rw[hlp,bnd_some'];exact⟨_,rfl,.inr ⟨h',w,rfl,w1,w3,hne,c⟩⟩
   ·have hlp:loop tree_above_row_Row.l2 (z.fKids,z.fItems,z.fN)=some (z.fKids,z.fItems,z.fN):=by
     refine loop_done ?_;unfold tree_above_row_Row.l2;dsimp only;rw[if_neg (by omega)]
    rw[hlp,bnd_some'];exact⟨_,rfl,.inr ⟨h',z,rfl,g1,g3,c1,c⟩⟩
theorem Of_eq (l:List El) (hl:l.length≤2000000):∃ t,tree_Of_row_Row l=some t∧IsT t l:=by
 obtain⟨xs,x1,x2,x3⟩:=leaves_eq l hl;obtain⟨t,t1,t2⟩:=above_eq (h:=0) (xs:=xs) (l:=l) ⟨x3 0 (by omega),by
  by_cases c:xs.length≤1
  ·exact .inl c
  ·exact .inr (x3 3 (by omega))⟩ (by omega) hl
 unfold tree_Of_row_Row;rw[x1,bnd_some',t1,bnd_some'];exact⟨t,rfl,t2⟩
def repL {α:Type} (l:List α) (i j:Nat) (w:List α):List α:=l.take i++w++l.drop j
theorem rep3 {α:Type} (la m lb:List α) {i j:Nat} (w:List α) (h1:la.length≤i) (h2:i≤j) (h3:j≤la.length+m.length):repL (la++m++lb) i j w=la++repL m (i-la.length) (j-la.length) w++lb:=by
 have e1:(la++m++lb).take i=la++m.take (i-la.length):=by
  rw[List.append_assoc,List.take_append,List.take_of_length_le h1,List.take_append_of_le_length (by omega)]
 have e2:(la++m++lb).drop j=m.drop (j-la.length)++lb:=by
  rw[List.append_assoc,List.drop_append,List.drop_of_length_le (by omega),List.nil_append,List.drop_append_of_le_length (by omega)]
 unfold repL;rw[e1,e2];simp
theorem repL_len {α:Type} (l:List α) {i j:Nat} (w:List α) (h1:i≤j) (h2:j≤l.length):(repL l i j w).length=l.length+w.length-(j-i):=by
 unfold repL;simp only[List.length_append,List.length_take,List.length_drop];omega
theorem growEl (n:Nat) (h:n≤2000000):slices_Grow_row_Row_row_Row (n:Int)=some []:=by
 unfold slices_Grow_row_Row_row_Row;rw[if_neg (by omega),w64_id ⟨by omega,by omega⟩];by_cases c:(n:Int)-0>0
 ·rw[if_pos c,mkg_of ⟨by omega,by omega⟩,bnd_some',bnd_some']
 ·rw[if_neg c,bnd_some']
theorem growNP (n:Nat) (h:n≤2000000):slices_Grow_tree_Node_row_Row_tree_Node_row_Row (n:Int)=some []:=by
 unfold slices_Grow_tree_Node_row_Row_tree_Node_row_Row;rw[if_neg (by omega),w64_id ⟨by omega,by omega⟩];by_cases c:(n:Int)-0>0
 ·rw[if_pos c,mkg_of ⟨by omega,by omega⟩,bnd_some',bnd_some']
 ·rw[if_neg c,bnd_some']
theorem concatEl (L:List (List El)) (hb:L.flatten.length≤2000000) (hl:L.length≤1000):slices_Concat_row_Row_row_Row L=some L.flatten:=
 concat_gen L (fun s=>rfl) (by decide) (fun s=>rfl) growEl hb hl
theorem concatNP (L:List (List NP)) (hb:L.flatten.length≤2000000) (hl:L.length≤1000):slices_Concat_tree_Node_row_Row_tree_Node_row_Row L=some L.flatten:=
 concat_gen L (fun s=>rfl) (by decide) (fun s=>rfl) growNP hb hl
theorem spliceEl (l:List El) (i j:Nat) (w:List El) (h1:i≤l.length) (h2:j≤l.length) (h3:l.length+w.length≤900000):tree_splice_row_Row l (i:Int) (j:Int) w=some (repL l i j w):=by
 unfold tree_splice_row_Row;rw[cut_of ⟨by omega,by omega,by omega⟩,bnd_some',cut_of ⟨by omega,by omega,by omega⟩,bnd_some',concatEl _ (by simp; omega) (by simp),bnd_some',Int.toNat_natCast,Int.toNat_natCast,Int.toNat_natCast,List.take_length];simp[repL]
theorem spliceNP (l:List NP) (i j:Nat) (w:List NP) (h1:i≤l.length) (h2:j≤l.length) (h3:l.length+w.length≤900000):tree_splice_tree_Node_row_Row l (i:Int) (j:Int) w=some (repL l i j w):=by
 unfold tree_splice_tree_Node_row_Row;rw[cut_of ⟨by omega,by omega,by omega⟩,bnd_some',cut_of ⟨by omega,by omega,by omega⟩,bnd_some',concatNP _ (by simp; omega) (by simp),bnd_some',Int.toNat_natCast,Int.toNat_natCast,Int.toNat_natCast,List.take_length];simp[repL]
theorem Fo.rep {lo h:Nat} {xs ys:List NP} {i j:Nat} {la lb m:List El} (ha:Fo lo h (xs.take i) la) (hm:Fo lo h ys m) (hb:Fo lo h (xs.drop j) lb):Fo lo h (repL xs i j ys) (la++m++lb):=(ha.app hm).app hb
theorem kids_wd {h:Nat} {z:Nd} {l:List El} (ht:T (h+1) z l):wd z=z.fKids.length:=by
 unfold wd; rw[ht.1]; rfl
theorem leaf_wd {z:Nd} {l:List El} (ht:T 0 z l):wd z=l.length∧z.fKids=[]∧z.fItems=l:=by
 rw[show z=⟨[],l,(l.length:Int)⟩ from ht]; simp[wd]
theorem fo_ne {lo h:Nat} {xs:List NP} {l:List El} (hf:Fo lo h xs l) (hl:l≠[]):0<xs.length:=by
 cases xs with
 | nil=>exact absurd hf.nil_inv hl
 | cons=>simp
theorem kid_eq {h:Nat} {ks:List NP} {l:List El} (hf:Fo 3 h ks l) (hk:ks.length≤900000) (hl:l.length≤900000) (hne:0<ks.length) (i:Nat) (hi:i≤l.length) (is:List El) (n:Int) :
 ∃ k z la m lb,tree_Node_row_Row_kid ks is n (i:Int)=some (((k:Nat):Int),((i-la.length:Nat):Int))∧k<ks.length∧ks[k]? = some (c_tNd z)∧T h z m∧3≤wd z∧wd z≤6∧l=la++m++lb∧Fo 3 h (ks.take k) la∧Fo 3 h (ks.drop (k+1)) lb ∧
  la.length≤i∧i≤la.length+m.length∧(i<l.length→i<la.length+m.length):=by
 have key:∀ (suf pre:List NP) (lp ls:List El),ks=pre++suf→0<suf.length→l=lp++ls→Fo 3 h pre lp→Fo 3 h suf ls→lp.length≤i →
  ∃ k z la m lb,loop (tree_Node_row_Row_kid.l1 ks) (((i-lp.length:Nat):Int),(pre.length:Int))=some (((i-la.length:Nat):Int),((k:Nat):Int))∧k<ks.length∧ks[k]? = some (c_tNd z)∧T h z m∧3≤wd z∧wd z≤6∧l=la++m++lb∧Fo 3 h (ks.take k) la∧Fo 3 h (ks.drop (k+1)) lb ∧
   la.length≤i∧i≤la.length+m.length∧(i<l.length→i<la.length+m.length):=by
  intro suf
  induction suf with
  | nil=>intro pre lp ls _ h0; simp at h0
  | cons x rest ih=>
   intro pre lp ls hks _ hls hp hs hlp;obtain⟨z,m,r,rfl,g1,g2,g3,rfl,g5⟩:=hs.cons_inv;have hlen:ks.length=pre.length+(rest.length+1):=by rw[hks]; simp
   have hx:ks[pre.length]? = some (c_tNd z):=by rw[hks]; simp
   have hll:l.length=lp.length+(m.length+r.length):=by rw[hls]; simp
   have hN:=T_N g1;have htake:ks.take pre.length=pre:=by rw[hks]; simp
   have hdrop:ks.drop (pre.length+1)=rest:=by rw[hks]; simp
   have fin:i≤lp.length+m.length→(i<l.length→i<lp.length+m.length)→tree_Node_row_Row_kid.l1 ks (((i-lp.length:Nat):Int),(pre.length:Int))=some (.done (((i-lp.length:Nat):Int),(pre.length:Int))) →
    ∃ k z la m lb,loop (tree_Node_row_Row_kid.l1 ks) (((i-lp.length:Nat):Int),(pre.length:Int))=some (((i-la.length:Nat):Int),((k:Nat):Int))∧k<ks.length∧ks[k]? = some (c_tNd z)∧T h z m∧3≤wd z∧wd z≤6∧l=la++m++lb∧Fo 3 h (ks.take k) la∧Fo 3 h (ks.drop (k+1)) lb ∧
     la.length≤i∧i≤la.length+m.length∧(i<l.length→i<la.length+m.length):=fun f1 f2 f3=>
    ⟨pre.length,z,lp,m,r,loop_done f3,by omega,hx,g1,g2,g3,by rw[hls]; simp,by rw[htake]; exact hp,by rw[hdrop]; exact g5,hlp,f1,f2⟩
   by_cases c0:rest.length=0
   ·obtain rfl:=List.length_eq_zero_iff.1 c0;have:=g5.nil_inv;subst this;simp only[List.length_nil] at hll hlen;refine fin (by omega) (by omega) ?_;unfold tree_Node_row_Row_kid.l1;dsimp only;rw[w64_id ⟨by omega,by omega⟩,if_neg (by omega),bnd_some',if_neg (by simp)]
   ·by_cases c1:m.length≤i-lp.length
    ·have hlpm:(lp++m).length=lp.length+m.length:=List.length_append;obtain⟨k,z',la,m',lb,e1,e2⟩:=ih (pre++[c_tNd z]) (lp++m) r (by rw[hks]; simp) (by omega) (by rw[hls]; simp) (hp.app (Fo.one g1 g2 g3)) g5 (by omega);refine⟨k,z',la,m',lb,loop_next (s':=(((i-(lp++m).length:Nat):Int),((pre++[c_tNd z]).length:Int))) ?_ e1,e2⟩;unfold tree_Node_row_Row_kid.l1;dsimp only;rw[w64_id (x:=(ks.length:Int)-1) ⟨by omega,by omega⟩,if_pos (by omega),idx_of hx,bnd_some',oN,bnd_some',bnd_some',hN,if_pos (by simp; omega),bnd_some',oN,bnd_some',hN,w64_id ⟨by omega,by omega⟩,w64_id ⟨by omega,by omega⟩];congr 3
     ·omega
     ·simp
    ·refine fin (by omega) (by omega) ?_;unfold tree_Node_row_Row_kid.l1;dsimp only;rw[w64_id ⟨by omega,by omega⟩,if_pos (by omega),idx_of hx,bnd_some',oN,bnd_some',bnd_some',hN,if_neg (by simp; omega)]
 obtain⟨k,z,la,m,lb,e1,e2⟩:=key ks [] [] l rfl hne rfl Fo.nil hf (by simp);refine⟨k,z,la,m,lb,?_,e2⟩;unfold tree_Node_row_Row_kid;rw[show ((([]:List El).length))=0 from rfl,Nat.sub_zero,show ((([]:List NP).length:Nat):Int)=0 from rfl] at e1;rw[e1,bnd_some']
theorem flat_eq (ks:List NP) (is:List El) (n:Int):tree_Node_row_Row_flat ks is n=some (decide (ks.length=0)):=by
 unfold tree_Node_row_Row_flat;congr 1;rw[Bool.eq_iff_iff]; simp
theorem set_eq:∀ (h fu:Nat) (z:Nd) (l:List El) (i:Nat) (x:El),h<fu→T h z l→wd z≤6→i<l.length→l.length≤800000 →
 ∃ z',tree_Node_row_Row_set fu z.fKids z.fItems z.fN (i:Int) x=some (z'.fKids,z'.fItems,z'.fN)∧T h z' (repL l i (i+1) [x])∧wd z'=wd z∧z'.fKids.length=z.fKids.length:=by
 intro h
 induction h with
 | zero=>
  intro fu z l i x hfu ht hw hi hl;obtain⟨fu,rfl⟩:∃ n,fu=n+1:=⟨fu-1,by omega⟩;obtain⟨q1,q2,q3⟩:=leaf_wd ht;have hr:=repL_len l (i:=i) (j:=i+1) [x] (by omega) (by omega);refine⟨⟨[],repL l i (i+1) [x],((repL l i (i+1) [x]).length:Int)⟩,?_,rfl,?_,by rw[q2]⟩
  ·show tree_Node_row_Row_set.body (tree_Node_row_Row_set fu) z.fKids z.fItems z.fN (i:Int) x=_;unfold tree_Node_row_Row_set.body tree_leaf_row_Row;rw[flat_eq,bnd_some',q2,if_pos (by simp),q3,w64_id ⟨by omega,by omega⟩,show (i:Int)+1=((i+1:Nat):Int) by omega,spliceEl _ _ _ _ (by omega) (by omega) (by simp; omega),bnd_some',bnd_some']
  ·rw[q1]; simp only[wd,List.length_nil]; simp at hr; omega
 | succ h ih=>
  intro fu z l i x hfu ht hw hi hl;obtain⟨fu,rfl⟩:∃ n,fu=n+1:=⟨fu-1,by omega⟩;have hkw:=kids_wd ht;obtain⟨t1,t2,t3⟩:=T_succ.1 ht;have hne:0<z.fKids.length:=fo_ne t3 (fun e=>by rw[e] at hi; simp at hi);obtain⟨k,w,la,m,lb,k1,k2,k3,k4,k5,k6,k7,k8,k9,k10,k11,k12⟩:=kid_eq t3 (by omega) (by omega) hne i (by omega) z.fItems z.fN;have hm:la.length+m.length≤l.length:=by rw[k7]; simp
  have k12':=k12 hi;obtain⟨w',w1,w2,w3,w4⟩:=ih fu w m (i-la.length) x (by omega) k4 k6 (by omega) (by omega);have hrep:repL l i (i+1) [x]=la++repL m (i-la.length) (i-la.length+1) [x]++lb:=by
   rw[k7,rep3 la m lb [x] k10 (by omega) (by omega),show i+1-la.length=i-la.length+1 by omega]
  have hfo:Fo 3 h (repL z.fKids k (k+1) [c_tNd w']) (repL l i (i+1) [x]):=by
   rw[hrep]; exact Fo.rep k8 (Fo.one w2 (by omega) (by omega)) k9
  have hrl:=repL_len l (i:=i) (j:=i+1) [x] (by omega) (by omega);have hkl:=repL_len z.fKids (i:=k) (j:=k+1) [c_tNd w'] (by omega) (by omega);simp only[List.length_cons,List.length_nil] at hrl hkl;refine⟨⟨repL z.fKids k (k+1) [c_tNd w'],[],((repL l i (i+1) [x]).length:Int)⟩,?_,T_succ.2 ⟨rfl,rfl,hfo⟩,?_,by dsimp only; omega⟩
  ·show tree_Node_row_Row_set.body (tree_Node_row_Row_set fu) z.fKids z.fItems z.fN (i:Int) x=_;unfold tree_Node_row_Row_set.body;rw[flat_eq,bnd_some',if_neg (by simp; intro e; rw[e] at hne; simp at hne),k1,bnd_some'];dsimp only;rw[idx_of k3,bnd_some',oN,bnd_some',w1,bnd_some',w64_id ⟨by omega,by omega⟩,show (k:Int)+1=((k+1:Nat):Int) by omega,spliceNP _ _ _ _ (by omega) (by omega) (by simp; omega),bnd_some',inner_eq hfo (by omega) (by omega),bnd_some']
  ·rw[hkw]; simp only[wd,List.length_nil]; omega
theorem fo_size {h:Nat} (ih:∀ (z:Nd) (l:List El),T h z l→wd z*3 ^ h≤l.length):∀ (xs:List NP) (l:List El),Fo 3 h xs l→xs.length*(3*3 ^ h)≤l.length:=by
 intro xs
 induction xs with
 | nil=>intro l _; simp
 | cons x xs ihx=>
  intro l hf;obtain⟨w,m,r,rfl,g1,g2,g3,rfl,g5⟩:=hf.cons_inv;have h1:=ih w m g1;have h2:=ihx r g5;have h3:3*3 ^ h≤wd w*3 ^ h:=Nat.mul_le_mul_right _ g2;rw[List.length_cons,List.length_append,Nat.add_mul];omega
theorem T_size:∀ (h:Nat) (z:Nd) (l:List El),T h z l→wd z*3 ^ h≤l.length:=by
 intro h
 induction h with
 | zero=>
  intro z l ht;rw[(leaf_wd ht).1]; simp
 | succ h ih=>
  intro z l ht;obtain⟨_,_,hf⟩:=T_succ.1 ht;rw[kids_wd ht,Nat.pow_succ,Nat.mul_comm (3 ^ h) 3];exact fo_size ih _ _ hf
theorem Rt.kids {h:Nat} {z:Nd} {l:List El} (hr:Rt h z l) (h0:0<h):2≤z.fKids.length:=by
 obtain⟨h,rfl⟩:∃ n,h=n+1:=⟨h-1,by omega⟩;have:=fo_ne (T_succ.1 hr.1).2.2 hr.2.2.2;have:=hr.2.2.1;omega
theorem Rt.wd_pos {h:Nat} {z:Nd} {l:List El} (hr:Rt h z l):1≤wd z∧(0<h→2≤wd z):=by
 cases h with
 | zero=>
  have:l.length≠0:=fun e=>hr.2.2.2 (List.length_eq_zero_iff.1 e);rw[(leaf_wd hr.1).1];omega
 | succ h=>
  have:=hr.kids (by omega);rw[kids_wd hr.1];omega
theorem Rt.size {h:Nat} {z:Nd} {l:List El} (hr:Rt h z l) (h0:0<h):2*3 ^ h≤l.length:=
 Nat.le_trans (Nat.mul_le_mul_right _ (hr.wd_pos.2 h0)) (T_size h z l hr.1)
theorem Rt.low {h:Nat} {z:Nd} {l:List El} (hr:Rt h z l) (hl:l.length≤2000000):h<30:=by
 by_cases c:h<30
 ·exact c
 ·have h1:=hr.size (by omega);have h2:3 ^ 30≤3 ^ h:=Nat.pow_le_pow_right (by decide) (by omega);have h3:(3:Nat) ^ 30=205891132094649:=by decide
  omega
theorem Len_eq (t:tTr) (l:List El) (ht:IsT t l):tree_Tree_row_Row_Len t=some (l.length:Int):=by
 unfold tree_Tree_row_Row_Len;rcases ht with ⟨rfl,rfl⟩|⟨h,z,rfl,hr⟩
 ·rfl
 ·rw[bnd_some'];dsimp only;rw[oN,bnd_some',T_N hr.1]
theorem tHas_eq (t:tTr) (l:List El) (ht:IsT t l) (i:Int):tree_Tree_row_Row_has t i=some (decide (0≤i∧i<(l.length:Int))):=by
 unfold tree_Tree_row_Row_has;by_cases c:i≥0
 ·rw[if_pos c,Len_eq t l ht,bnd_some',bnd_some']; simp[c]
 ·rw[if_neg c,bnd_some',decide_eq_false (fun h=>c h.1)]
theorem atLoop:∀ (h:Nat) (z:Nd) (l:List El) (i:Nat),T h z l→wd z≤6→(hi:i<l.length)→l.length≤800000→∃ j ks is n,loop tree_Tree_row_Row_At.l2 ((i:Int),z.fKids,z.fItems,z.fN)=some (j,ks,is,n)∧idx is j=some l[i]:=by
 intro h
 induction h with
 | zero=>
  intro z l i ht hw hi hl;obtain⟨q1,q2,q3⟩:=leaf_wd ht;refine⟨(i:Int),z.fKids,z.fItems,z.fN,loop_done ?_,?_⟩
  ·unfold tree_Tree_row_Row_At.l2;dsimp only;rw[flat_eq,bnd_some',q2,if_pos (by simp)]
  ·rw[q3]; exact idx_of (List.getElem?_eq_getElem hi)
 | succ h ih=>
  intro z l i ht hw hi hl;obtain⟨t1,t2,t3⟩:=T_succ.1 ht;have hkw:=kids_wd ht;have hne:0<z.fKids.length:=fo_ne t3 (fun e=>by subst e; simp at hi);obtain⟨k,w,la,m,lb,k1,k2,k3,k4,k5,k6,k7,k8,k9,k10,k11,k12⟩:=kid_eq t3 (by omega) (by omega) hne i (by omega) z.fItems z.fN;have hm:l.length=la.length+m.length+lb.length:=by rw[k7]; simp only[List.length_append]
  have k12':=k12 hi;obtain⟨j,ks,is,n,j1,j2⟩:=ih w m (i-la.length) k4 k6 (by omega) (by omega);refine⟨j,ks,is,n,loop_next ?_ j1,?_⟩
  ·unfold tree_Tree_row_Row_At.l2;dsimp only;rw[flat_eq,bnd_some',if_neg (by simp; intro e; rw[e] at hne; simp at hne),k1,bnd_some'];dsimp only;rw[idx_of k3,bnd_some',oN,bnd_some']
  ·rw[j2];congr 1;have:l[i]? = m[i-la.length]?:=by
    rw[k7,List.append_assoc,List.getElem?_append_right k10,List.getElem?_append_left (by omega)]
   rw[List.getElem?_eq_getElem hi,List.getElem?_eq_getElem (show i-la.length<m.length by omega)] at this;exact (Option.some.inj this).symm
theorem At_eq (t:tTr) (l:List El) (ht:IsT t l) (hl:l.length≤800000) (i:Int):(¬ (0≤i∧i<(l.length:Int))→tree_Tree_row_Row_At t i=some (default,false))∧((hi:0≤i∧i<(l.length:Int))→tree_Tree_row_Row_At t i=some (l[i.toNat]'(by omega),true)):=by
 unfold tree_Tree_row_Row_At;rw[tHas_eq t l ht,bnd_some'];constructor
 ·intro c;rw[decide_eq_false c,if_neg (by simp)];rfl
 ·intro c;rw[decide_eq_true c,if_pos rfl];rcases ht with ⟨rfl,rfl⟩|⟨h,z,rfl,hr⟩
  ·simp at c; omega
  ·obtain⟨j,ks,is,n,j1,j2⟩:=atLoop h z l i.toNat hr.1 hr.2.1 (by omega) hl;rw[show ((i.toNat:Nat):Int)=i by omega] at j1;rw[bnd_some'];dsimp only;rw[oN,bnd_some',j1,bnd_some'];dsimp only;rw[j2,bnd_some']
theorem Set_eq (t:tTr) (l:List El) (ht:IsT t l) (hl:l.length≤800000) (i:Int) (x:El):(¬ (0≤i∧i<(l.length:Int))→tree_Tree_row_Row_Set t i x=some (t,false)) ∧
 ((0≤i∧i<(l.length:Int))→∃ u,tree_Tree_row_Row_Set t i x=some (u,true)∧IsT u (repL l i.toNat (i.toNat+1) [x])):=by
 unfold tree_Tree_row_Row_Set;rw[tHas_eq t l ht,bnd_some'];constructor
 ·intro c;rw[decide_eq_false c,if_neg (by simp)]
 ·intro c;rw[decide_eq_true c,if_pos rfl];rcases ht with ⟨rfl,rfl⟩|⟨h,z,rfl,hr⟩
  ·simp at c; omega
  ·have hlow:=hr.low (by omega);obtain⟨z',z1,z2,z3,z4⟩:=set_eq h 64 z l i.toNat x (by omega) hr.1 hr.2.1 (by omega) hl;rw[show ((i.toNat:Nat):Int)=i by omega] at z1;have hlen:=repL_len l (i:=i.toNat) (j:=i.toNat+1) [x] (by omega) (by omega);simp only[List.length_cons,List.length_nil] at hlen;rw[bnd_some'];dsimp only;rw[oN,bnd_some',z1,bnd_some'];exact⟨_,rfl,.inr ⟨h,z',rfl,z2,by rw[z3]; exact hr.2.1,by rw[z4]; exact hr.2.2.1,fun e=>by rw[e] at hlen; simp at hlen; omega⟩⟩
abbrev Fr:=wFr
def Pth:Nat→Nd→List El→Nat→List Fr→Nat→Prop
| 0,z,l,first,stk,i=>stk=[⟨some (c_tNd z),(first:Int),(i:Int)⟩]∧i≤l.length∧T 0 z l
| h+1,z,l,first,stk,i=>∃ (k:Nat) (w:Nd) (la m lb:List El) (stk':List Fr),z.fKids[k]? = some (c_tNd w)∧T h w m∧3≤wd w∧wd w≤6∧l=la++m++lb∧Fo 3 h (z.fKids.take k) la∧Fo 3 h (z.fKids.drop (k+1)) lb ∧
 stk=⟨some (c_tNd z),((first+la.length:Nat):Int),(k:Int)⟩::stk'∧la.length≤i∧Pth h w m (first+la.length) stk' (i-la.length)
theorem Pth.le:∀ {h:Nat} {z:Nd} {l:List El} {first:Nat} {stk:List Fr} {i:Nat},Pth h z l first stk i→i≤l.length∧stk.length=h+1
 | 0,z,l,first,stk,i,hp=>by
  obtain⟨rfl,h1,_⟩:=hp;exact⟨h1,rfl⟩
 | h+1,z,l,first,stk,i,hp=>by
  obtain⟨k,w,la,m,lb,stk',k1,k2,k3,k4,rfl,k6,k7,rfl,k9,k10⟩:=hp;obtain⟨a,b⟩:=Pth.le k10;simp only[List.length_append,List.length_cons];omega
theorem Pth.top:∀ {h:Nat} {z:Nd} {l:List El} {first:Nat} {stk:List Fr} {i:Nat},Pth h z l first stk i→∃ (pre:List Fr) (w:Nd) (fs:Int) (k:Nat),stk=pre++[⟨some (c_tNd w),fs,(k:Int)⟩]∧k≤w.fItems.length ∧
 (k<w.fItems.length→i<l.length∧l[i]? = w.fItems[k]? ∧ Pth h z l first (pre++[⟨some (c_tNd w),fs,((k+1:Nat):Int)⟩]) (i+1))
 | 0,z,l,first,stk,i,hp=>by
  obtain⟨rfl,h1,h2⟩:=hp;obtain⟨q1,q2,q3⟩:=leaf_wd h2;refine⟨[],z,(first:Int),i,rfl,by rw[q3]; exact h1,fun hk=>?_⟩;rw[q3] at hk ⊢;exact⟨hk,rfl,rfl,by omega,h2⟩
 | h+1,z,l,first,stk,i,hp=>by
  obtain⟨k,w,la,m,lb,stk',k1,k2,k3,k4,rfl,k6,k7,rfl,k9,k10⟩:=hp;obtain⟨pre,u,fs,j,rfl,j1,j2⟩:=Pth.top k10;refine⟨⟨some (c_tNd z),((first+la.length:Nat):Int),(k:Int)⟩::pre,u,fs,j,rfl,j1,fun hk=>?_⟩;obtain⟨j3,j4,j5⟩:=j2 hk;refine⟨by simp only[List.length_append]; omega,?_,k,w,la,m,lb,_,k1,k2,k3,k4,rfl,k6,k7,rfl,by omega,?_⟩
  ·rw[← j4,List.append_assoc,List.getElem?_append_right k9,List.getElem?_append_left (by omega)]
  ·rw[show i+1-la.length=i-la.length+1 by omega]; exact j5
theorem downKid {h:Nat} {ks:List NP} {l:List El} (hf:Fo 3 h ks l) (hk:ks.length≤900000) (hne:0<ks.length) (first i:Nat) (hi:i<l.length) (hb:first+l.length≤900000)
 {f:Int × Int→Option (Lp (Int × Int) (Int × Int))} (hfe:∀ s,f s=bnd (if s.2<(w64 ((ks.length:Int)-1)) then
  bnd (idx ks s.2) fun x24=>bnd (o_tNd x24) fun x25=>some (decide (((first+i:Nat):Int)≥(w64 (s.1+x25.fN)))) else some false:Option Bool) fun t22=>
  if t22=true then bnd (idx ks s.2) fun x27=>bnd (o_tNd x27) fun x28=>some (Lp.next (w64 (s.1+x28.fN),w64 (s.2+1))) else some (Lp.done (s.1,s.2))) :
 ∃ (k:Nat) (w:Nd) (la m lb:List El),loop f ((first:Int),0)=some (((first+la.length:Nat):Int),(k:Int))∧ks[k]? = some (c_tNd w)∧T h w m∧3≤wd w∧wd w≤6∧l=la++m++lb∧Fo 3 h (ks.take k) la∧Fo 3 h (ks.drop (k+1)) lb ∧
  la.length≤i∧i<la.length+m.length:=by
 have key:∀ (suf pre:List NP) (lp ls:List El),ks=pre++suf→0<suf.length→l=lp++ls→Fo 3 h pre lp→Fo 3 h suf ls→lp.length≤i →
  ∃ (k:Nat) (w:Nd) (la m lb:List El),loop f (((first+lp.length:Nat):Int),(pre.length:Int))=some (((first+la.length:Nat):Int),(k:Int))∧ks[k]? = some (c_tNd w)∧T h w m∧3≤wd w∧wd w≤6∧l=la++m++lb∧Fo 3 h (ks.take k) la∧Fo 3 h (ks.drop (k+1)) lb ∧
   la.length≤i∧i<la.length+m.length:=by
  intro suf
  induction suf with
  | nil=>intro pre lp ls _ h0; simp at h0
  | cons x rest ih=>
   intro pre lp ls hks _ hls hp hs hlp;obtain⟨z,m,r,rfl,g1,g2,g3,rfl,g5⟩:=hs.cons_inv;have hlen:ks.length=pre.length+(rest.length+1):=by rw[hks]; simp
   have hx:ks[pre.length]? = some (c_tNd z):=by rw[hks]; simp
   have hll:l.length=lp.length+(m.length+r.length):=by rw[hls]; simp
   have hN:=T_N g1;have htake:ks.take pre.length=pre:=by rw[hks]; simp
   have hdrop:ks.drop (pre.length+1)=rest:=by rw[hks]; simp
   have fin:i<lp.length+m.length→f (((first+lp.length:Nat):Int),(pre.length:Int))=some (.done (((first+lp.length:Nat):Int),(pre.length:Int))) →
    ∃ (k:Nat) (w:Nd) (la m lb:List El),loop f (((first+lp.length:Nat):Int),(pre.length:Int))=some (((first+la.length:Nat):Int),(k:Int))∧ks[k]? = some (c_tNd w)∧T h w m∧3≤wd w∧wd w≤6∧l=la++m++lb∧Fo 3 h (ks.take k) la∧Fo 3 h (ks.drop (k+1)) lb ∧
     la.length≤i∧i<la.length+m.length:=fun f1 f3=>
    ⟨pre.length,z,lp,m,r,loop_done f3,hx,g1,g2,g3,by rw[hls]; simp,by rw[htake]; exact hp,by rw[hdrop]; exact g5,hlp,f1⟩
   by_cases c0:rest.length=0
   ·obtain rfl:=List.length_eq_zero_iff.1 c0;have:=g5.nil_inv;subst this;simp only[List.length_nil] at hll hlen;refine fin (by omega) ?_;rw[hfe];dsimp only;rw[w64_id ⟨by omega,by omega⟩,if_neg (by omega),bnd_some',if_neg (by simp)]
   ·by_cases c1:m.length≤i-lp.length
    ·have hlpm:(lp++m).length=lp.length+m.length:=List.length_append;obtain⟨k,z',la,m',lb,e1,e2⟩:=ih (pre++[c_tNd z]) (lp++m) r (by rw[hks]; simp) (by omega) (by rw[hls]; simp) (hp.app (Fo.one g1 g2 g3)) g5 (by omega);refine⟨k,z',la,m',lb,loop_next (s':=(((first+(lp++m).length:Nat):Int),((pre++[c_tNd z]).length:Int))) ?_ e1,e2⟩;rw[hfe];dsimp only;rw[w64_id (x:=(ks.length:Int)-1) ⟨by omega,by omega⟩,if_pos (by omega),idx_of hx,bnd_some',oN,bnd_some',bnd_some',hN,w64_id (x:=((first+lp.length:Nat):Int)+(m.length:Int)) ⟨by omega,by omega⟩,if_pos (by simp; omega),bnd_some',oN,bnd_some',hN,w64_id (x:=((first+lp.length:Nat):Int)+(m.length:Int)) ⟨by omega,by omega⟩,w64_id ⟨by omega,by omega⟩];congr 3
     ·omega
     ·simp
    ·refine fin (by omega) ?_;rw[hfe];dsimp only;rw[w64_id (x:=(ks.length:Int)-1) ⟨by omega,by omega⟩,if_pos (by omega),idx_of hx,bnd_some',oN,bnd_some',bnd_some',hN,w64_id (x:=((first+lp.length:Nat):Int)+(m.length:Int)) ⟨by omega,by omega⟩,if_neg (by simp; omega)]
 obtain⟨k,z,la,m,lb,e1,e2⟩:=key ks [] [] l rfl hne rfl Fo.nil hf (by simp);exact⟨k,z,la,m,lb,e1,e2⟩
def Fresh (stk:List Fr):Prop:=∃ (pre:List Fr) (w:Nd) (fs:Int) (k:Nat),stk=pre++[⟨some (c_tNd w),fs,(k:Int)⟩]∧k<w.fItems.length
abbrev DSt:=List NP × List El × Int × Int × List Fr
theorem down_gen {f1:DSt→Int × Int→Option (Lp (Int × Int) (Int × Int))} {f2:DSt→Option (Lp DSt DSt)}:∀ (h:Nat) (z:Nd) (l:List El) (first i:Nat) (stk:List Fr),
 (∀ s4 s,f1 s4 s=bnd (if s.2<(w64 ((s4.1.length:Int)-1)) then bnd (idx s4.1 s.2) fun x24=>bnd (o_tNd x24) fun x25=>some (decide (((first+i:Nat):Int)≥(w64 (s.1+x25.fN)))) else some false:Option Bool) fun t22=>
  if t22=true then bnd (idx s4.1 s.2) fun x27=>bnd (o_tNd x27) fun x28=>some (Lp.next (w64 (s.1+x28.fN),w64 (s.2+1))) else some (Lp.done (s.1,s.2))) →
 (∀ s4,f2 s4=if (s4.1.length:Int)>0 then bnd (loop (f1 s4) (s4.2.2.2.1,0):Option (Int × Int)) fun t13=>
  bnd (app 24 s4.2.2.2.2 [(⟨(some (c_tNd (⟨s4.1,s4.2.1,s4.2.2.1⟩:tNd))),t13.1,t13.2⟩:wFr)]) fun x29=>bnd (idx s4.1 t13.2) fun x31=>bnd (o_tNd x31) fun x32=>some (Lp.next (x32.fKids,x32.fItems,x32.fN,t13.1,x29))
  else some (Lp.done (s4.1,s4.2.1,s4.2.2.1,s4.2.2.2.1,s4.2.2.2.2))) →
 T h z l→wd z≤6→i<l.length→first+l.length≤900000→stk.length+h≤1000 →
 ∃ (w:Nd) (fs j:Nat) (inn:List Fr),loop f2 (z.fKids,z.fItems,z.fN,(first:Int),stk)=some (w.fKids,w.fItems,w.fN,(fs:Int),stk++inn)∧fs+j=first+i∧j<w.fItems.length∧inn.length=h∧Pth h z l first (inn++[⟨some (c_tNd w),(fs:Int),(j:Int)⟩]) i:=by
 intro h
 induction h with
 | zero=>
  intro z l first i stk h1 h2 ht hw hi hb hs
  obtain⟨q1,q2,q3⟩:=leaf_wd ht;refine⟨z,first,i,[],loop_done ?_,rfl,by rw[q3]; exact hi,rfl,rfl,by omega,ht⟩;rw[h2];dsimp only;rw[q2,if_neg (by simp),List.append_nil]
 | succ h ih=>
  intro z l first i stk h1 h2 ht hw hi hb hs
  have hkw:=kids_wd ht;obtain⟨t1,t2,t3⟩:=T_succ.1 ht;have hne:0<z.fKids.length:=fo_ne t3 (fun e=>by rw[e] at hi; simp at hi);obtain⟨k,w,la,m,lb,k1,k2,k3,k4,k5,rfl,k7,k8,k9,k10⟩:=downKid t3 (by omega) hne first i hi hb (f:=f1 (z.fKids,z.fItems,z.fN,(first:Int),stk)) (fun s=>h1 _ s)
  simp only[List.length_append] at hb;obtain⟨u,fs,j,inn,d1,d2,d3,d4,d5⟩:=ih w m (first+la.length) (i-la.length) (stk++[⟨some (c_tNd z),((first+la.length:Nat):Int),(k:Int)⟩]) (by rw[show first+la.length+(i-la.length)=first+i by omega]; exact h1) h2 k3 k5 (by omega) (by omega) (by simp; omega);refine⟨u,fs,j,⟨some (c_tNd z),((first+la.length:Nat):Int),(k:Int)⟩::inn,loop_next (s':=(w.fKids,w.fItems,w.fN,((first+la.length:Nat):Int),stk++[⟨some (c_tNd z),((first+la.length:Nat):Int),(k:Int)⟩])) ?_ ?_,by omega,d3,by simp[d4],k,w,la,m,lb,_,k2,k3,k4,k5,rfl,k7,k8,rfl,k9,d5⟩
  ·rw[h2];dsimp only;rw[if_pos (by omega),k1,bnd_some',app_of (by simp; omega),bnd_some'];dsimp only;rw[idx_of k2,bnd_some',oN,bnd_some']
  ·rw[d1]; simp
theorem down_eq {h:Nat} {z:Nd} {l:List El} {first i:Nat} (ht:T h z l) (hw:wd z≤6) (hi:i<l.length) (hb:first+l.length≤900000) (hs:h≤500) :
 ∃ stk,walk_stack_row_Row_down z.fKids z.fItems z.fN (first:Int) ((first+i:Nat):Int)=some stk∧Pth h z l first stk i∧Fresh stk:=by
 obtain⟨w,fs,j,inn,d1,d2,d3,d4,d5⟩:=down_gen (f1:=walk_stack_row_Row_down.l1 ((first+i:Nat):Int)) (f2:=walk_stack_row_Row_down.l2 ((first+i:Nat):Int)) h z l first i [] (fun s4 s=>rfl) (fun s4=>rfl) ht hw hi hb (by simp; omega)
 rw[List.nil_append] at d1;refine⟨inn++[⟨some (c_tNd w),(fs:Int),(j:Int)⟩],?_,d5,inn,w,fs,j,rfl,d3⟩;unfold walk_stack_row_Row_down;rw[d1,bnd_some'];dsimp only;rw[w64_id ⟨by omega,by omega⟩,show ((first+i:Nat):Int)-(fs:Int)=(j:Int) by omega,app_of (by simp; omega),bnd_some']
theorem down2_eq {h:Nat} {z:Nd} {l:List El} {first i:Nat} (stk:List Fr) (ht:T h z l) (hw:wd z≤6) (hi:i<l.length) (hb:first+l.length≤900000) (hs:stk.length+h≤500) :
 ∃ p,walk_stack_row_Row_down_2 z.fKids z.fItems z.fN (first:Int) ((first+i:Nat):Int) stk=some (stk++p)∧Pth h z l first p i∧Fresh p:=by
 obtain⟨w,fs,j,inn,d1,d2,d3,d4,d5⟩:=down_gen (f1:=walk_stack_row_Row_down_2.l1 ((first+i:Nat):Int)) (f2:=walk_stack_row_Row_down_2.l2 ((first+i:Nat):Int)) h z l first i stk (fun s4 s=>rfl) (fun s4=>rfl) ht hw hi hb (by omega)
 refine⟨inn++[⟨some (c_tNd w),(fs:Int),(j:Int)⟩],?_,d5,inn,w,fs,j,rfl,d3⟩;unfold walk_stack_row_Row_down_2;rw[d1,bnd_some'];dsimp only;rw[w64_id ⟨by omega,by omega⟩,show ((first+i:Nat):Int)-(fs:Int)=(j:Int) by omega,app_of (by simp; omega),bnd_some',List.append_assoc]
theorem top_eq (pre:List Fr) (f:Fr) (hb:pre.length≤900000):walk_stack_row_Row_top (pre++[f])=some (pre.length:Int)∧idx (pre++[f]) (pre.length:Int)=some f:=by
 have h2:idx (pre++[f]) (pre.length:Int)=some f:=idx_at pre f [];refine⟨?_,h2⟩;unfold walk_stack_row_Row_top;rw[List.length_append,List.length_singleton,w64_id ⟨by omega,by omega⟩,show ((pre.length+1:Nat):Int)-1=(pre.length:Int) by omega,h2,bnd_some']
theorem set_top (pre:List Fr) (f g:Fr):(pre++[f]).set pre.length g=pre++[g]:=by simp
theorem Fo.len_pos {h:Nat} {xs:List NP} {l:List El} (hf:Fo 3 h xs l) (hne:0<xs.length) (hpos:∀ w m,T h w m→3≤wd w→0<m.length):0<l.length:=by
 cases xs with
 | nil=>simp at hne
 | cons x xs=>
  obtain⟨w,m,r,rfl,g1,g2,g3,rfl,g5⟩:=hf.cons_inv;have:=hpos w m g1 g2;simp; omega
theorem T_pos:∀ (h:Nat) (w:Nd) (m:List El),T h w m→3≤wd w→0<m.length:=by
 intro h
 induction h with
 | zero=>intro w m ht hw; have:=(leaf_wd ht).1; omega
 | succ h ih=>
  intro w m ht hw;have:=kids_wd ht;exact Fo.len_pos (T_succ.1 ht).2.2 (by omega) ih
theorem forthLoop:∀ (h:Nat) (z:Nd) (l:List El) (first i:Nat) (pre:List Fr) (w:Nd) (fs:Int) (p0:List Fr),Pth h z l first (pre++[⟨some (c_tNd w),fs,(w.fItems.length:Int)⟩]) i→wd z≤6→first+l.length≤900000→p0.length+h≤400 →
 (i<l.length→∃ stk2,loop walk_stack_row_Row_forth.l1 (p0++pre)=some (.ret (true,p0++stk2))∧Pth h z l first stk2 i∧Fresh stk2) ∧
 (i=l.length→∀ t,loop walk_stack_row_Row_forth.l1 p0=some t→loop walk_stack_row_Row_forth.l1 (p0++pre)=some t):=by
 intro h
 induction h with
 | zero=>
  intro z l first i pre w fs p0 hp hw hb hs
  obtain⟨h1,h2,h3⟩:=hp;obtain⟨rfl,e⟩:=List.append_inj' (show pre++[_]=[]++[_] from h1) rfl;simp only[List.cons.injEq,and_true,wFr.mk.injEq,Option.some.injEq] at e;obtain⟨e1,_,e3⟩:=e;have:=cN_inj _ _ e1;subst this;have hq:=(leaf_wd h3).2.2;rw[hq] at e3;refine⟨fun hi=>by omega,fun _ t ht=>by rw[List.append_nil]; exact ht⟩
 | succ h ih=>
  intro z l first i pre w fs p0 hp hw hb hs
  obtain⟨k,u,la,m,lb,stk',k1,k2,k3,k4,rfl,k6,k7,k8,k9,k10⟩:=hp;cases pre with
  | nil=>
   have:=(Pth.le k10).2;simp at k8;rw[k8.2] at this;simp at this
  | cons fr pre=>
   simp only[List.cons_append,List.cons.injEq] at k8;obtain⟨rfl,rfl⟩:=k8;simp only[List.length_append] at hb;have hle:=(Pth.le k10).1;obtain⟨a1,a2⟩:=ih u m (first+la.length) (i-la.length) pre w fs (p0++[⟨some (c_tNd z),((first+la.length:Nat):Int),(k:Int)⟩]) k10 k4 (by omega) (by simp; omega);have happ:p0++⟨some (c_tNd z),((first+la.length:Nat):Int),(k:Int)⟩::pre=(p0++[⟨some (c_tNd z),((first+la.length:Nat):Int),(k:Int)⟩])++pre:=by simp
   by_cases c:i-la.length<m.length
   ·obtain⟨s2,b1,b2,b3⟩:=a1 c;refine⟨fun _=>⟨⟨some (c_tNd z),((first+la.length:Nat):Int),(k:Int)⟩::s2,by rw[happ,b1]; simp,⟨k,u,la,m,lb,s2,k1,k2,k3,k4,rfl,k6,k7,rfl,k9,b2⟩,?_⟩,fun hi=>by simp at hi; omega⟩;obtain⟨p,w',fs',k',rfl,q⟩:=b3;exact⟨_::p,w',fs',k',rfl,q⟩
   ·have hi:i-la.length=m.length:=by omega
    have a2:=a2 hi;have hN:=T_N k2;have hkl:k<z.fKids.length:=(List.getElem?_eq_some_iff.1 k1).1;obtain⟨g1,g2⟩:=top_eq p0 ⟨some (c_tNd z),((first+la.length:Nat):Int),(k:Int)⟩ (by omega);obtain⟨g3,g4⟩:=top_eq p0 ⟨some (c_tNd z),w64 (((first+la.length:Nat):Int)+u.fN),(k:Int)⟩ (by omega);obtain⟨g5,g6⟩:=top_eq p0 ⟨some (c_tNd z),w64 (((first+la.length:Nat):Int)+u.fN),w64 ((k:Int)+1)⟩ (by omega);have hw1:w64 (((first+la.length:Nat):Int)+u.fN)=((first+(la++m).length:Nat):Int):=by
     rw[hN,w64_id ⟨by omega,by omega⟩,List.length_append]; omega
    have hz6:z.fKids.length≤6:=by unfold wd at hw; omega
    have hw2:w64 ((k:Int)+1)=((k+1:Nat):Int):=by rw[w64_id ⟨by omega,by omega⟩,show (k:Int)+1=((k+1:Nat):Int) by omega]
    rw[hw1] at g3 g4 g5 g6;rw[hw2] at g5 g6;have e1:walk_stack_row_Row_forth.l1 (p0++[⟨some (c_tNd z),((first+la.length:Nat):Int),(k:Int)⟩])=if ((k+1:Nat):Int)<(z.fKids.length:Int) then
     (bnd (idx z.fKids ((k+1:Nat):Int)) fun x34=>bnd (o_tNd x34) fun x35=>bnd (walk_stack_row_Row_down_2 x35.fKids x35.fItems x35.fN ((first+(la++m).length:Nat):Int) ((first+(la++m).length:Nat):Int) (p0++[⟨some (c_tNd z),((first+(la++m).length:Nat):Int),((k+1:Nat):Int)⟩])) fun x36=>some (.done (.ret (true,x36))))
     else (bnd (cut (p0++[⟨some (c_tNd z),((first+(la++m).length:Nat):Int),((k+1:Nat):Int)⟩]) 0 (p0.length:Int)) fun x39=>some (.next x39)):=by
     unfold walk_stack_row_Row_forth.l1;rw[if_pos (by simp <;> omega),g1,bnd_some',g2,bnd_some'];dsimp only;rw[bnd_some'];dsimp only;rw[oN,bnd_some',idx_of k1,bnd_some',oN,bnd_some',Int.toNat_natCast,set_top,hw1,g4,bnd_some'];dsimp only;rw[set_top,hw2,g6,bnd_some'];dsimp only;rw[bnd_some'];dsimp only;have hl1:(p0++[(⟨some (c_tNd z),((first+(la++m).length:Nat):Int),((k+1:Nat):Int)⟩:Fr)]).length=p0.length+1:=by simp
     rw[oN,bnd_some',bnd_some',hl1,w64_id (x:=((p0.length+1:Nat):Int)-1) ⟨by omega,by omega⟩,show ((p0.length+1:Nat):Int)-1=(p0.length:Int) by omega]
    by_cases ck:k+1<z.fKids.length
    ·rw[if_pos (by omega)] at e1;have hd1:z.fKids.drop (k+1)=z.fKids[k+1]::z.fKids.drop (k+1+1):=List.drop_eq_getElem_cons ck;rw[hd1] at k7;obtain⟨v,m2,r2,u3,u4,u5,u6,rfl,u8⟩:=k7.cons_inv;have hkv:z.fKids[k+1]? = some (c_tNd v):=by rw[List.getElem?_eq_getElem ck,u3]
     have hm2:=T_pos h v m2 u4 u5;simp only[List.length_append] at hb;obtain⟨p,d1,d2,d3⟩:=down2_eq (first:=first+(la++m).length) (i:=0) (p0++[⟨some (c_tNd z),((first+(la++m).length:Nat):Int),((k+1:Nat):Int)⟩]) u4 u6 hm2 (by simp only[List.length_append]; omega) (by simp; omega);rw[Nat.add_zero] at d1;rw[idx_of hkv,bnd_some',oN,bnd_some',d1,bnd_some'] at e1;refine⟨fun _=>⟨⟨some (c_tNd z),((first+(la++m).length:Nat):Int),((k+1:Nat):Int)⟩::p,?_,⟨k+1,v,la++m,m2,r2,p,hkv,u4,u5,u6,by simp,?_,u8,rfl,by simp only[List.length_append]; omega,?_⟩,?_⟩,fun hi2=>by simp only[List.length_append] at hi2; omega⟩
     ·rw[happ];refine a2 _ (loop_done ?_);rw[e1,List.append_assoc]; rfl
     ·rw[List.take_succ_eq_append_getElem hkl];rw[List.getElem?_eq_getElem hkl] at k1;rw[Option.some.inj k1];exact k6.app (Fo.one k2 k3 k4)
     ·rw[show i-(la++m).length=0 by simp only[List.length_append]; omega]; exact d2
     ·obtain⟨q,w',fs',k',rfl,h9⟩:=d3;exact⟨_::q,w',fs',k',rfl,h9⟩
    ·rw[if_neg (by omega),cut_of ⟨by omega,by omega,by simp; omega⟩,bnd_some',show ((0:Int)).toNat=0 from rfl,List.drop_zero,Int.toNat_natCast,List.take_left] at e1;have hd0:z.fKids.drop (k+1)=[]:=List.drop_of_length_le (by omega);rw[hd0] at k7;have:=k7.nil_inv;subst this;refine⟨fun hi2=>by simp only[List.length_append,List.length_nil] at hi2; omega,fun _ t ht=>?_⟩;rw[happ];exact a2 t (loop_next e1 ht)
theorem forth_eq {h:Nat} {z:Nd} {l:List El} {i:Nat} {stk pre:List Fr} {w:Nd} {fs:Int} (hs:stk=pre++[⟨some (c_tNd w),fs,(w.fItems.length:Int)⟩]) (hp:Pth h z l 0 stk i) (hw:wd z≤6) (hi:i<l.length) (hb:l.length≤900000) (hh:h≤400) :
 ∃ stk2,walk_stack_row_Row_forth stk=some (true,stk2)∧Pth h z l 0 stk2 i∧Fresh stk2:=by
 have hlen:=hp.le.2;subst hs;obtain⟨stk2,s1,s2,s3⟩:=(forthLoop h z l 0 i pre w fs [] hp hw (by omega) (by simp; omega)).1 hi;rw[List.nil_append,List.nil_append] at s1;refine⟨stk2,?_,s2,s3⟩;unfold walk_stack_row_Row_forth;rw[List.length_append,List.length_singleton] at hlen ⊢;rw[w64_id ⟨by omega,by omega⟩,show ((pre.length+1:Nat):Int)-1=(pre.length:Int) by omega,cut_of ⟨by omega,by omega,by simp; omega⟩,bnd_some',show ((0:Int)).toNat=0 from rfl,List.drop_zero,Int.toNat_natCast,List.take_left,s1,bnd_some']
section
variable {R:Type}
noncomputable def rtake (stk:List Fr) (K:El→List Fr→Option R):Option R:=
 bnd (walk_stack_row_Row_top stk) fun x31=>bnd (idx stk x31) fun x32=>bnd (some x32.fN) fun q33=>match q33 with
| none=>none
| some z34=>bnd (o_tNd z34) fun x36=>bnd (idx x36.fItems x32.fNext) fun x38=>K x38 (stk.set x31.toNat (⟨x32.fN,x32.fFirst,w64 (x32.fNext+1)⟩:wFr))
noncomputable def rstep (stk:List Fr) (K:El→List Fr→Option R):Option R:=
 bnd (walk_stack_row_Row_top stk) fun x19=>bnd (idx stk x19) fun x20=>bnd (some x20.fN) fun q21=>match q21 with
| none=>none
| some z22=>bnd (o_tNd z22) fun x24=>
 bnd (if x20.fNext=(x24.fItems.length:Int) then bnd (walk_stack_row_Row_forth stk) fun x29=>some x29.2 else some stk:Option (List Fr)) fun t26=>rtake t26 K
theorem Pth.items:∀ {h:Nat} {z:Nd} {l:List El} {first:Nat} {pre:List Fr} {w:Nd} {fs:Int} {k:Int} {i:Nat},Pth h z l first (pre++[⟨some (c_tNd w),fs,k⟩]) i→w.fItems.length≤l.length
 | 0,z,l,first,pre,w,fs,k,i,hp=>by
  obtain⟨h1,h2,h3⟩:=hp;obtain⟨rfl,e⟩:=List.append_inj' (show pre++[_]=[]++[_] from h1) rfl;simp only[List.cons.injEq,and_true,wFr.mk.injEq,Option.some.injEq] at e;have:=cN_inj _ _ e.1;subst this;rw[(leaf_wd h3).2.2]; exact Nat.le_refl _
 | h+1,z,l,first,pre,w,fs,k,i,hp=>by
  obtain⟨k,u,la,m,lb,stk',k1,k2,k3,k4,rfl,k6,k7,k8,k9,k10⟩:=hp;cases pre with
  | nil=>
   have:=(Pth.le k10).2;simp at k8;rw[k8.2] at this;simp at this
  | cons fr pre=>
   simp only[List.cons_append,List.cons.injEq] at k8;obtain⟨rfl,rfl⟩:=k8;have:=Pth.items k10;simp only[List.length_append];omega
theorem rtake_eq {h:Nat} {z:Nd} {l:List El} {i:Nat} {stk:List Fr} (hp:Pth h z l 0 stk i) (hf:Fresh stk) (hi:i<l.length) (hb:l.length≤900000) (hh:h≤400) (K:El→List Fr→Option R) :
 ∃ stk2,rtake stk K=K l[i] stk2∧Pth h z l 0 stk2 (i+1):=by
 obtain⟨pre,w,fs,k,hs,h1,h2⟩:=hp.top;obtain⟨pre',w',fs',k',hs',h3⟩:=hf;have hlen:=hp.le.2;rw[hs] at hs';obtain⟨rfl,e⟩:=List.append_inj' hs' rfl;simp only[List.cons.injEq,and_true,wFr.mk.injEq,Option.some.injEq] at e;obtain⟨e1,_,e3⟩:=e;have:=cN_inj _ _ e1;subst this;obtain rfl:k=k':=by omega
 obtain⟨h4,h5,h6⟩:=h2 h3;subst hs;have hwl:=hp.items;rw[List.length_append,List.length_singleton] at hlen;obtain⟨g1,g2⟩:=top_eq pre ⟨some (c_tNd w),fs,(k:Int)⟩ (by omega);refine⟨_,?_,h6⟩;unfold rtake;rw[g1,bnd_some',g2,bnd_some',bnd_some'];dsimp only;rw[oN,bnd_some',idx_of (h5.symm.trans (List.getElem?_eq_getElem hi)),bnd_some',Int.toNat_natCast,set_top,w64_id ⟨by omega,by omega⟩,show ((k+1:Nat):Int)=(k:Int)+1 by omega]
theorem rstep_eq {h:Nat} {z:Nd} {l:List El} {i:Nat} {stk:List Fr} (hp:Pth h z l 0 stk i) (hw:wd z≤6) (hi:i<l.length) (hb:l.length≤900000) (hh:h≤400) (K:El→List Fr→Option R) :
 ∃ stk2,rstep stk K=K l[i] stk2∧Pth h z l 0 stk2 (i+1):=by
 obtain⟨pre,w,fs,k,hs,h1,h2⟩:=hp.top;have hlen:=hp.le.2;rw[hs,List.length_append,List.length_singleton] at hlen;obtain⟨g1,g2⟩:=top_eq pre ⟨some (c_tNd w),fs,(k:Int)⟩ (by omega);rw[← hs] at g1 g2;unfold rstep;rw[g1,bnd_some',g2,bnd_some',bnd_some'];dsimp only;rw[oN,bnd_some'];by_cases c:k<w.fItems.length
 ·rw[if_neg (by omega),bnd_some'];exact rtake_eq hp ⟨pre,w,fs,k,hs,c⟩ hi hb hh K
 ·have hk:k=w.fItems.length:=by omega
  subst hk;obtain⟨stk3,f1,f2,f3⟩:=forth_eq hs hp hw hi hb hh;rw[if_pos rfl,f1,bnd_some',bnd_some'];exact rtake_eq f2 f3 hi hb hh K
def goR {σ τ:Type} (y:Int→El→σ→Option (σ ⊕ τ)) (fin:σ→τ):List El→Int→σ→Option τ
 | [],_,s=>some (fin s)
 | x::xs,i,s=>bnd (y i x s) fun r=>match r with
  | .inl s'=>goR y fin xs (i+1) s'
  | .inr t=>some t
theorem range_loop {S σ τ:Type} {f:S→Option (Lp S τ)} (mk:Int→List Fr→σ→S) (y:Int→El→σ→Option (σ ⊕ τ)) (fin:σ→τ) (j:Nat) {h:Nat} {z:Nd} {l:List El} (hw:wd z≤6) (hb:l.length≤900000) (hh:h≤400) (hj:j≤l.length)
 (hf1:∀ (i:Nat) stk s,i<j→f (mk (i:Int) stk s)=rstep stk fun x st'=>bnd (y (i:Int) x s) fun r=>match r with | .inl s'=>some (.next (mk (w64 ((i:Int)+1)) st' s')) | .inr t=>some (.done t))
 (hf2:∀ stk s,f (mk (j:Int) stk s)=some (.done (fin s))):∀ (n i:Nat) stk s t,i+n=j→Pth h z l 0 stk i→goR y fin ((l.take j).drop i) (i:Int) s=some t→loop f (mk (i:Int) stk s)=some t:=by
 intro n
 induction n with
 | zero=>
  intro i stk s t hn hp hg;obtain rfl:i=j:=by omega
  rw[List.drop_of_length_le (by rw[List.length_take]; omega)] at hg;obtain rfl:=Option.some.inj (show some (fin s)=some t from hg);exact loop_done (hf2 stk s)
 | succ n ih=>
  intro i stk s t hn hp hg;have hil:i<l.length:=by omega
  have hd:(l.take j).drop i=l[i]::(l.take j).drop (i+1):=by
   rw[List.drop_eq_getElem_cons (by rw[List.length_take]; omega),List.getElem_take]
  rw[hd] at hg;obtain⟨stk2,s1,s2⟩:=rstep_eq hp hw hil hb hh (fun x st'=>bnd (y (i:Int) x s) fun r=>match r with | .inl s'=>some (Lp.next (mk (w64 ((i:Int)+1)) st' s')) | .inr t=>some (Lp.done t):El→List Fr→Option (Lp S τ));have e:=hf1 i stk s (by omega);rw[s1,w64_id ⟨by omega,by omega⟩] at e;unfold goR at hg;cases hy:y (i:Int) l[i] s with
  | none=>rw[hy] at hg; cases hg
  | some r=>
   rw[hy] at hg e;cases r with
   | inl s'=>exact loop_next e (ih (i+1) stk2 s' t (by omega) s2 (by simpa using hg))
   | inr u=>
    obtain rfl:=Option.some.inj (show some u=some t from hg);exact loop_done e
end
def stA (n:Nat) (i:Int):Nat:=min i.toNat n
def stB (n:Nat) (i j:Int):Nat:=max (stA n i) (stA n j)
theorem stretch_eq (t:tTr) (l:List El) (ht:IsT t l) (i j:Int):walk_stretch_row_Row t i j=some ((stA l.length i:Int),(stB l.length i j:Int)):=by
 unfold walk_stretch_row_Row;rw[Len_eq t l ht,bnd_some',bnd_some',bnd_some',bnd_some'];unfold stB stA;congr 2 <;> omega
theorem root_eq {h:Nat} {z:Nd} {l:List El} (hr:Rt h z l):tree_Tree_row_Row_Root ⟨some (c_tNd z)⟩=some (.inr (z.fKids,z.fItems,z.fN)):=by
 unfold tree_Tree_row_Row_Root;rw[bnd_some'];dsimp only;rw[oN,bnd_some']
theorem wRange_eq (t:tTr) (l:List El) (ht:IsT t l) (i j:Int):walk_Range_row_Row t i j=some ((stA l.length i:Int),(stB l.length i j:Int),t.fRoot):=by
 unfold walk_Range_row_Row;rw[stretch_eq t l ht,bnd_some']
theorem goAll:∀ (l:List El) (i:Int) (acc:List El),acc.length+l.length≤800000→goR (fun i x (s:List El)=>bnd (walk_All_row_Row_r0 i x s) fun s'=>some (.inl s':List El ⊕ List El)) id l i acc=some (acc++l)
 | [],i,acc,_=>by simp[goR]
 | x::l,i,acc,h=>by
  simp only[List.length_cons] at h;unfold goR walk_All_row_Row_r0;rw[app_of (by simp; omega),bnd_some',bnd_some',bnd_some'];dsimp only;have:=goAll l (i+1) (acc++[x]) (by simp; omega);unfold walk_All_row_Row_r0 at this;rw[this]; simp
theorem wAll_eq (t:tTr) (l:List El) (ht:IsT t l) (hl:l.length≤800000):walk_All_row_Row t=some l:=by
 unfold walk_All_row_Row;rw[Len_eq t l ht,bnd_some',mkc_of ⟨by omega,by omega⟩,bnd_some',bnd_some',wRange_eq t l ht,bnd_some'];dsimp only;rw[show stA l.length 0=0 by unfold stA; simp,show stB l.length 0 (l.length:Int)=l.length by unfold stB stA; omega];unfold walk_Range_row_Row_1_2;rcases ht with ⟨rfl,rfl⟩|⟨h,z,rfl,hr⟩
 ·rfl
 ·have hpos:0<l.length:=List.length_pos_iff.2 hr.2.2.2;have hlow:=hr.low (by omega);obtain⟨stk,d1,d2,d3⟩:=down_eq (first:=0) (i:=0) hr.1 hr.2.1 hpos (by omega) (by omega);rw[if_neg (by omega)];dsimp only;rw[root_eq hr,bnd_some'];dsimp only;have hg:=goAll l 0 [] (by simp; omega);have hlp:=range_loop (f:=walk_Range_row_Row_1_2.l1 (l.length:Int)) (fun i stk (s:List El)=>(i,s,stk)) (fun i x (s:List El)=>bnd (walk_All_row_Row_r0 i x s) fun s'=>some (.inl s':List El ⊕ List El)) id l.length hr.2.1 (by omega) (show h≤400 by omega) (Nat.le_refl _) (fun i stk s hi=>by
   have e:walk_Range_row_Row_1_2.l1 (l.length:Int) ((i:Int),s,stk)=if (i:Int)<(l.length:Int) then rstep stk (fun x st'=>bnd (walk_All_row_Row_r0 (i:Int) x s) fun x39=>some (Lp.next (w64 ((i:Int)+1),x39,st'))) else some (Lp.done s):=rfl;rw[e,if_pos (by omega)];congr 1;funext x st';cases walk_All_row_Row_r0 (i:Int) x s <;> rfl) (fun stk s=>by
   have e:walk_Range_row_Row_1_2.l1 (l.length:Int) ((l.length:Int),s,stk)=if (l.length:Int)<(l.length:Int) then rstep stk (fun x st'=>bnd (walk_All_row_Row_r0 (l.length:Int) x s) fun x39=>some (Lp.next (w64 ((l.length:Int)+1),x39,st'))) else some (Lp.done s):=rfl;rw[e,if_neg (by omega)]; rfl) l.length 0 stk [] l (by omega) d2 (by rw[List.take_length,List.drop_zero]; simpa using hg)
  rw[show (((0:Nat)+0:Nat):Int)=((0:Nat):Int) from rfl,show ((0:Nat):Int)=0 from rfl] at d1;rw[show ((0:Nat):Int)=0 from rfl] at hlp ⊢;rw[d1,bnd_some',hlp,bnd_some',bnd_some']
theorem cut11_eq (a:List UInt8) (n:Nat):law11_Cut a (n:Int)=some (a.take n):=by
 unfold law11_Cut;by_cases h:a.length>n
 ·rw[if_pos (by omega),cut_of ⟨by omega,by omega,by omega⟩,bnd_some']; simp
 ·rw[if_neg (by omega),List.take_of_length_le (by omega)]
theorem rsF_le (b:List UInt8) (hb:b.length≤2000000):∀ n i,∀ x∈rsF b n i,x≤b.length:=by
 intro n
 induction n with
 | zero=>intro i x hx; cases hx
 | succ n ih=>
  intro i x hx;simp only[rsF] at hx;by_cases c:i<b.length
  ·rw[if_pos c] at hx;rcases List.mem_cons.1 hx with rfl|hx
   ·omega
   ·exact ih _ _ hx
  ·rw[if_neg c] at hx; cases hx
theorem rs_le (b:List UInt8) (hb:b.length≤2000000):∀ x∈rs b,x≤b.length:=rsF_le b hb _ _
def zr:row_Row:=⟨[],0,false⟩
def enE (w:List UInt8) (i:Nat):Int:=(endF w (fs w i).2).1
def rowsW (w:List UInt8):List row_Row:=(rs w).map fun i=>(ldR w i).1
def prowsW (w:List UInt8):List ref08_Row:=(rs w).map fun i=>(ldP w i).1
def okW (w:List UInt8) (l:List Nat):Bool:=l.all fun i=>(ldR w i).2==0
def tailE (w:List UInt8) (l:List Nat):Bool:=match l.getLast? with
| none=>false
| some i=>!(enE w i==0)
def firstE (w:List UInt8):List Nat→Int
| []=>2
| i::l=>if enE w i=0 then firstE w l else enE w i
theorem firstE_cons (w:List UInt8) (i:Nat) (l:List Nat):firstE w (i::l)=if enE w i=0 then firstE w l else enE w i:=rfl
theorem tailE_snoc (w:List UInt8) (l:List Nat) (i:Nat):tailE w (l++[i]) = !(enE w i==0):=by simp[tailE]
theorem refused_eq (c:Int):grid_refused c=some (⟨⟨none⟩,false,2⟩,c,[]):=rfl
theorem ld_same (w:List UInt8) (i:Nat):(ldP w i).2=(ldR w i).2:=by
 unfold ldR ldP;split
 ·rfl
 ·split <;> rfl
theorem gridLoop (w:List UInt8) (hb:w.length≤4096) (l:List Nat) (hl:∀ x∈l,x≤w.length) (hn:l.length≤400) :
 ∃ t,loop (grid_Load.l2 (l.map (sRow w))) (0,0,List.replicate l.length zr)=some t∧((okW w l=true∧t=Ex.brk (l.map fun i=>(ldR w i).1))∨(okW w l=false∧∃ c,c≠0∧t=Ex.ret (Sum.inl (⟨⟨none⟩,false,2⟩,c,[])))):=by
 refine loop_for (f:=grid_Load.l2 (l.map (sRow w))) (σ:=List row_Row) (fun k s=>(0,k,s)) l
  (fun pre s=>s=pre.map (fun i=>(ldR w i).1)++List.replicate (l.length-pre.length) zr∧okW w pre=true)
  (fun t=>(okW w l=true∧t=Ex.brk (l.map fun i=>(ldR w i).1))∨(okW w l=false∧∃ c,c≠0∧t=Ex.ret (Sum.inl (⟨⟨none⟩,false,2⟩,c,[]))))
  (fun pre j suf s hs hI=>?_) (fun s hI=>?_) ⟨by simp,rfl⟩
 ·obtain⟨hI1,hI2⟩:=hI;have hlen:l.length=pre.length+(suf.length+1):=by rw[hs]; simp
  have hj:j≤w.length:=hl j (by rw[hs]; simp);have hidx:idx l (pre.length:Int)=some j:=by rw[hs]; exact idx_at pre j suf
  rw[show l.length-pre.length=suf.length+1 by omega,List.replicate_succ] at hI1;have hx:idx s (pre.length:Int)=some zr:=by rw[hI1]; exact idx_of (by rw[List.getElem?_append_right (by simp)]; simp)
  have hset:s.set pre.length (ldR w j).1=pre.map (fun i=>(ldR w i).1)++(ldR w j).1::List.replicate suf.length zr:=by rw[hI1]; exact set_at _ _ _ _ _ (by simp)
  unfold grid_Load.l2;dsimp only;rw[if_pos (by simp; omega),idx_map,hidx];simp only[Option.map_some,bnd_some'];rw[rowLoad_eq w (by omega) j hj,bnd_some',hx,bnd_some',Int.toNat_natCast,refused_eq];by_cases c:(ldR w j).2=0
  ·rw[if_pos c,c,w64_id ⟨by omega,by omega⟩];refine .inl ⟨_,rfl,?_,?_⟩
   ·rw[hset,show l.length-(pre++[j]).length=suf.length by simp; omega]; simp
   ·unfold okW at hI2 ⊢; rw[List.all_append,hI2]; simp[c]
  ·rw[if_neg c];refine .inr ⟨_,rfl,.inr ⟨?_,_,c,rfl⟩⟩;unfold okW; rw[hs,List.all_append]; simp[c]
 ·obtain⟨hI1,hI2⟩:=hI;refine⟨Ex.brk s,?_,.inl ⟨hI2,?_⟩⟩
  ·unfold grid_Load.l2;dsimp only;rw[if_neg (by simp)]
  ·rw[hI1]; simp
theorem endsLoop (w:List UInt8) (l:List Nat) (z:scan_Row) (hn:l.length≤400) :
 ∃ t,loop (grid_ends.l1 (l.map (sRow w)) z) 0=some t∧((firstE w l=2∧t=Ex.brk ())∨t=Ex.ret ((!(z.fEnd==0)),firstE w l)):=by
 have key:∀ (suf pre:List Nat),l=pre++suf→∃ t,loop (grid_ends.l1 (l.map (sRow w)) z) (pre.length:Int)=some t∧((firstE w suf=2∧t=Ex.brk ())∨t=Ex.ret ((!(z.fEnd==0)),firstE w suf)):=by
  intro suf
  induction suf with
  | nil=>
   intro pre h;refine⟨_,loop_done (t:=Ex.brk ()) ?_,.inl ⟨rfl,rfl⟩⟩;unfold grid_ends.l1;rw[if_neg (by rw[h]; simp)]
  | cons x suf ih=>
   intro pre h;have hlen:l.length=pre.length+(suf.length+1):=by rw[h]; simp
   have hx:idx (l.map (sRow w)) (pre.length:Int)=some (sRow w x):=by rw[idx_map,h,idx_at]; rfl
   have hu:grid_ends.l1 (l.map (sRow w)) z (pre.length:Int)=if enE w x=0 then some (Lp.next ((pre.length:Int)+1)) else some (Lp.done (Ex.ret ((!(z.fEnd==0)),enE w x))):=by
    unfold grid_ends.l1;rw[if_pos (by simp; omega),hx,bnd_some',w64_id ⟨by omega,by omega⟩];rfl
   unfold firstE;by_cases c:enE w x=0
   ·rw[if_pos c] at hu ⊢;obtain⟨t,t1,t2⟩:=ih (pre++[x]) (by rw[h]; simp);exact⟨t,loop_next hu (by simpa using t1),t2⟩
   ·rw[if_neg c] at hu ⊢;exact⟨_,loop_done hu,.inr rfl⟩
 exact key l [] rfl
theorem ends_eq (w:List UInt8) (l:List Nat) (hn:l.length≤400):grid_ends (l.map (sRow w))=some (tailE w l,firstE w l):=by
 unfold grid_ends;by_cases h:l=[]
 ·subst h; rfl
 ·have hp:0<l.length:=List.length_pos_iff.2 h;rw[List.length_map,if_neg (by omega),w64_id ⟨by omega,by omega⟩];obtain⟨q,x,rfl⟩:∃ q x,l=q++[x]:=⟨l.dropLast,l.getLast h,(List.dropLast_concat_getLast h).symm⟩;rw[show ((q++[x]).length:Int)-1=(q.length:Int) by simp,idx_map,idx_at];obtain⟨t,t1,t2⟩:=endsLoop w (q++[x]) (sRow w x) hn;simp only[Option.map_some,bnd_some'];rw[t1,bnd_some',tailE_snoc];rcases t2 with ⟨q1,rfl⟩|rfl
  ·dsimp only; rw[q1]; rfl
  ·rfl
theorem refLoop (w:List UInt8) (hb:w.length≤4096) (l:List Nat) (hl:∀ x∈l,x≤w.length) (hn:l.length≤400) :
 ∃ t,loop (ref11_Load.l1 w (l.map (rRow w))) (0,false,[])=some t∧((okW w l=true∧t=Ex.brk (tailE w l,l.map fun i=>(ldP w i).1))∨(okW w l=false∧∃ c,c≠0∧t=Ex.ret (⟨[],false,2⟩,c))):=by
 refine loop_for (f:=ref11_Load.l1 w (l.map (rRow w))) (σ:=Bool × List ref08_Row) (fun k s=>(k,s.1,s.2)) l
  (fun pre s=>s=(tailE w pre,pre.map (fun i=>(ldP w i).1))∧okW w pre=true)
  (fun t=>(okW w l=true∧t=Ex.brk (tailE w l,l.map fun i=>(ldP w i).1))∨(okW w l=false∧∃ c,c≠0∧t=Ex.ret (⟨[],false,2⟩,c)))
  (fun pre j suf s hs hI=>?_) (fun s hI=>?_) (s0:=(false,[])) ⟨rfl,rfl⟩
 ·obtain⟨hI1,hI2⟩:=hI;have hlen:l.length=pre.length+(suf.length+1):=by rw[hs]; simp
  have hj:j≤w.length:=hl j (by rw[hs]; simp);have hidx:idx l (pre.length:Int)=some j:=by rw[hs]; exact idx_at pre j suf
  subst hI1;unfold ref11_Load.l1;dsimp only;rw[if_pos (by simp; omega),idx_map,hidx];simp only[Option.map_some,bnd_some'];rw[refLoad_eq w (by omega) j hj,bnd_some',ld_same];by_cases c:(ldR w j).2=0
  ·rw[if_pos c,app_of (by simp; omega),bnd_some',w64_id ⟨by omega,by omega⟩];refine .inl ⟨(_,_),rfl,?_,?_⟩
   ·rw[tailE_snoc,List.map_append]; rfl
   ·unfold okW at hI2 ⊢; rw[List.all_append,hI2]; simp[c]
  ·rw[if_neg c];refine .inr ⟨_,rfl,.inr ⟨?_,_,c,rfl⟩⟩;unfold okW; rw[hs,List.all_append]; simp[c]
 ·obtain⟨hI1,hI2⟩:=hI;subst hI1;refine⟨_,?_,.inl ⟨hI2,rfl⟩⟩;unfold ref11_Load.l1;dsimp only;rw[if_neg (by simp)]
theorem refBack (w:List UInt8) (l:List Nat) (hn:l.length≤400):∀ (k:Nat),k≤l.length→loop (ref11_Load.l2 (l.map (rRow w))) ((k:Int)-1,firstE w (l.drop k))=some (firstE w l):=by
 intro k
 induction k with
 | zero=>
  intro _;refine loop_done ?_;unfold ref11_Load.l2;dsimp only;rw[if_neg (by omega)]; rfl
 | succ k ih=>
  intro hk;refine loop_next ?_ (ih (by omega));have hd:l.drop k=l[k]::l.drop (k+1):=List.drop_eq_getElem_cons (by omega);have hx:idx (l.map (rRow w)) ((k+1:Nat)-1:Int)=some (rRow w l[k]):=by
   rw[show ((k+1:Nat):Int)-1=(k:Int) by omega,idx_map,idx_of (List.getElem?_eq_getElem (by omega))]; rfl
  unfold ref11_Load.l2;dsimp only;rw[if_pos (by omega),hx,bnd_some',w64_id ⟨by omega,by omega⟩,hd,show ((k+1:Nat):Int)-1-1=(k:Int)-1 by omega];show (bnd (if enE w l[k]=0 then _ else _) _)=_;rw[firstE_cons];by_cases c:enE w l[k]=0
  ·rw[if_pos c,if_pos c]; rfl
  ·rw[if_neg c,if_neg c]; rfl
def badG:grid_Grid:=⟨⟨none⟩,false,2⟩
def isBad (w:List UInt8):Bool:=decide ((rs w).length>400) || !(okW w (rs w))
theorem load_bad (w:List UInt8) (hb:w.length≤4096) (h:isBad w=true):(∃ c,c≠0∧grid_Load w=some (.inl (badG,c,[])))∧∃ c,c≠0∧ref11_Load w=some (⟨[],false,2⟩,c):=by
 unfold grid_Load ref11_Load;rw[New_eq w hb,bnd_some',sAll_eq w (by omega),rAll_eq w (by omega),if_neg (by omega:¬ (w.length:Int)>4096)];dsimp only;rw[if_pos rfl,bnd_some',bnd_some',List.length_map,List.length_map];by_cases c:(rs w).length>400
 ·rw[if_pos (by omega),if_pos (by omega),refused_eq,bnd_some'];exact⟨⟨6,by decide,rfl⟩,6,by decide,rfl⟩
 ·rw[if_neg (by omega),if_neg (by omega),mkz_of (by omega),bnd_some',Int.toNat_natCast];obtain⟨t,t1,t2⟩:=gridLoop w hb (rs w) (rs_le w (by omega)) (by omega);obtain⟨u,u1,u2⟩:=refLoop w hb (rs w) (rs_le w (by omega)) (by omega);have hk:okW w (rs w)=false:=by unfold isBad at h; simpa [c] using h
  rw[hk] at t2 u2;obtain⟨_,x,x0,rfl⟩:=t2.resolve_left (fun h=>by cases h.1);obtain⟨_,y,y0,rfl⟩:=u2.resolve_left (fun h=>by cases h.1);rw[show (⟨[],0,false⟩:row_Row)=zr from rfl,t1,u1,bnd_some',bnd_some'];exact⟨⟨x,x0,rfl⟩,y,y0,rfl⟩
theorem load_ok (w:List UInt8) (hb:w.length≤4096) (h:isBad w=false):∃ t,IsT t (rowsW w)∧grid_Load w=some (.inl (⟨t,tailE w (rs w),firstE w (rs w)⟩,0,w))∧ref11_Load w=some (⟨prowsW w,tailE w (rs w),firstE w (rs w)⟩,0):=by
 have c:¬ (rs w).length>400:=fun c=>by unfold isBad at h; simp[c] at h
 have hk:okW w (rs w)=true:=by unfold isBad at h; simpa [c] using h
 obtain⟨q,q1,q2⟩:=Of_eq (rowsW w) (by unfold rowsW; simp; omega);refine⟨q,q2,?_⟩;unfold grid_Load ref11_Load;rw[New_eq w hb,bnd_some',sAll_eq w (by omega),rAll_eq w (by omega),if_neg (by omega:¬ (w.length:Int)>4096)];dsimp only;rw[if_pos rfl,bnd_some',bnd_some',List.length_map,List.length_map,if_neg (by omega),if_neg (by omega),mkz_of (by omega),bnd_some',Int.toNat_natCast];obtain⟨t,t1,t2⟩:=gridLoop w hb (rs w) (rs_le w (by omega)) (by omega);obtain⟨u,u1,u2⟩:=refLoop w hb (rs w) (rs_le w (by omega)) (by omega);rw[hk] at t2 u2;obtain⟨_,rfl⟩:=t2.resolve_right (fun h=>by cases h.1);obtain⟨_,rfl⟩:=u2.resolve_right (fun h=>by cases h.1);have hbk:=refBack w (rs w) (by omega) (rs w).length (Nat.le_refl _);rw[List.drop_length] at hbk;rw[show (⟨[],0,false⟩:row_Row)=zr from rfl,t1,u1,bnd_some',bnd_some'];dsimp only;rw[show (rs w).map (fun i=>(ldR w i).1)=rowsW w from rfl,q1,bnd_some',ends_eq w _ (by omega),bnd_some',w64_id ⟨by omega,by omega⟩];rw[show firstE w []=2 from rfl] at hbk;rw[hbk,bnd_some'];exact⟨rfl,rfl⟩
theorem begun_bad (w:List UInt8) (hb:w.length≤4096) (h:isBad w=true):law11_Begun w=some (.inl (badG,⟨[],false,2⟩,false,[])):=by
 obtain⟨⟨c,c0,e1⟩,d,d0,e2⟩:=load_bad w hb h;unfold law11_Begun;rw[e1,bnd_some'];dsimp only;rw[e2,bnd_some',if_neg c0]; rfl
theorem begun_ok (w:List UInt8) (hb:w.length≤4096) (h:isBad w=false):∃ t,IsT t (rowsW w)∧law11_Begun w=some (.inl (⟨t,tailE w (rs w),firstE w (rs w)⟩,⟨prowsW w,tailE w (rs w),firstE w (rs w)⟩,true,w)):=by
 obtain⟨t,t1,e1,e2⟩:=load_ok w hb h;refine⟨t,t1,?_⟩;unfold law11_Begun;rw[e1,bnd_some'];dsimp only;rw[e2,bnd_some',if_pos rfl]; rfl
abbrev Dr:=List Nat × Int × Bool
def dR (w:List UInt8) (d:Dr):row_Row:=⟨d.1.map (kc w),d.2.1,d.2.2⟩
def dW (w:List UInt8) (d:Dr):ref08_Row:=⟨d.1.map (pc w),d.2.1,d.2.2⟩
def okD (w:List UInt8) (d:Dr):Prop:=(∀ j∈d.1,j≤w.length∧short w j=true)∧d.1.length≤40
theorem begD (w:List UInt8) (hb:w.length≤4096) (h:isBad w=false):∃ D:List Dr,D.length≤400∧(∀ d∈D,okD w d)∧rowsW w=D.map (dR w)∧prowsW w=D.map (dW w):=by
 have c:¬ (rs w).length>400:=fun c=>by unfold isBad at h; simp[c] at h
 have hk:okW w (rs w)=true:=by unfold isBad at h; simpa [c] using h
 have hd:∀ i∈rs w,(fs w i).1.length≤40∧(fs w i).1.all (short w)=true:=fun i hi=>by
  have:=List.all_eq_true.1 hk i hi;unfold ldR at this;by_cases h40:(fs w i).1.length>40
  ·rw[if_pos h40] at this; simp at this
  ·rw[if_neg h40] at this;by_cases hs:(fs w i).1.all (short w)=true
   ·exact⟨by omega,hs⟩
   ·rw[if_neg hs] at this; simp at this
 refine⟨(rs w).map fun i=>((fs w i).1,(sRow w i).fEnd,false),by simp; omega,fun d hd'=>?_,?_,?_⟩
 ·obtain⟨i,hi,rfl⟩:=List.mem_map.1 hd';obtain⟨h1,h2⟩:=hd i hi;obtain⟨s1,_⟩:=starts_spec w (by omega) i (rs_le w (by omega) i hi);exact⟨fun j hj=>⟨s1 j hj,List.all_eq_true.1 h2 j hj⟩,h1⟩
 ·unfold rowsW;rw[List.map_map];refine List.map_congr_left fun i hi=>?_;obtain⟨h1,h2⟩:=hd i hi;unfold ldR;rw[if_neg (by omega),if_pos h2]; rfl
 ·unfold prowsW;rw[List.map_map];refine List.map_congr_left fun i hi=>?_;obtain⟨h1,h2⟩:=hd i hi;unfold ldP;rw[if_neg (by omega),if_pos h2]; rfl
theorem repL_set {α:Type} (l:List α) (i:Nat) (x:α) (h:i<l.length):repL l i (i+1) [x]=l.set i x:=by
 unfold repL;rw[List.set_eq_take_append_cons_drop,if_pos h]; simp
theorem gridRow_eq (t:tTr) (tl:Bool) (e:Int) (l:List row_Row) (ht:IsT t l) (hl:l.length≤4000) (i:Nat) (hi:i<l.length):grid_Grid_Row ⟨t,tl,e⟩ (i:Int)=some (l[i],true):=by
 unfold grid_Grid_Row;dsimp only;rw[(At_eq t l ht (by omega) (i:Int)).2 ⟨by omega,by omega⟩,bnd_some'];simp only[Int.toNat_natCast]
theorem gridPut_eq (t:tTr) (tl:Bool) (e:Int) (l:List row_Row) (ht:IsT t l) (hl:l.length≤4000) (i:Nat) (hi:i<l.length) (x:row_Row):∃ u,grid_Grid_Put ⟨t,tl,e⟩ (i:Int) x=some (⟨u,tl,e⟩,0)∧IsT u (l.set i x):=by
 obtain⟨u,h1,h2⟩:=(Set_eq t l ht (by omega) (i:Int) x).2 ⟨by omega,by omega⟩;refine⟨u,?_,by rw[← repL_set l i x hi]; exact h2⟩;unfold grid_Grid_Put grid_Grid_with;dsimp only;rw[h1,bnd_some'];dsimp only;rw[if_pos rfl,bnd_some']
theorem refPut_eq (g:ref11_Grid) (i:Nat) (hi:i<g.fRows.length) (hl:g.fRows.length≤4000) (x:ref08_Row):ref11_Put g (i:Int) x=some (⟨g.fRows.set i x,g.fTail,g.fEnd⟩,0):=by
 unfold ref11_Put ref11_Has;rw[if_pos (by omega),bnd_some',bnd_some',if_pos (decide_eq_true (by omega))];have hlp:=loop_nat (f:=ref11_Put.l1 g (i:Int) x) (fun k (s:List ref08_Row)=>(k,s)) g.fRows.length (fun k=>(g.fRows.set i x).take k) (t:=g.fRows.set i x) (fun k hk=>by
  unfold ref11_Put.l1;dsimp only;have hks:k<(g.fRows.set i x).length:=by rw[List.length_set]; exact hk
  rw[if_pos (by omega),idx_nat (List.getElem?_eq_getElem hk),bnd_some',List.take_succ_eq_append_getElem hks];have hlen:((g.fRows.set i x).take k).length≤4000:=by rw[List.length_take,List.length_set]; omega
  by_cases c:k=i
  ·subst c;rw[if_pos rfl,bnd_some'];dsimp only;rw[app_of (by simp only[List.length_cons,List.length_nil]; omega),bnd_some',w64_id ⟨by omega,by omega⟩,List.getElem_set_self]
  ·rw[if_neg (by omega),bnd_some'];dsimp only;rw[app_of (by simp only[List.length_cons,List.length_nil]; omega),bnd_some',w64_id ⟨by omega,by omega⟩,List.getElem_set_ne (by omega)]) (by
  unfold ref11_Put.l1;dsimp only;rw[if_neg (by omega),List.take_of_length_le (by rw[List.length_set]; omega)])
 rw[show loop (ref11_Put.l1 g (i:Int) x) (0,[])=_ from hlp,bnd_some'];rfl
def hid (d:Dr):Dr:=(d.1,d.2.1,true)
theorem rowHide_eq (w:List UInt8) (d:Dr) (hd:okD w d):row_Row_Hide (dR w d) true=some (dR w (hid d)):=by
 unfold row_Row_Hide slices_Clone_cell_Cell_cell_Cell;have:(dR w d).fCells.length≤40:=by have:=hd.2; simp only[dR,List.length_map]; omega
 rw[app_of (by simp; omega),bnd_some',bnd_some'];rfl
theorem set_ok {w:List UInt8} {D:List Dr} (h:∀ d∈D,okD w d) {i:Nat} (hi:i<D.length):∀ d∈D.set i (hid D[i]),okD w d:=fun d hd=>by
 rcases List.mem_or_eq_of_mem_set hd with hd|rfl
 ·exact h d hd
 ·have:=h D[i] (List.getElem_mem hi);exact this
theorem wrap64 {i:Nat} (h:i<100):IntKind.wrap .u64 (i:Int)=(i:Int):=by
 unfold IntKind.wrap;simp only[IntKind.bits,IntKind.signed,Bool.false_and,Bool.false_eq_true,if_false];omega
theorem hide_ok (a0:List UInt8) (bits:Int) (h:isBad (a0.take 1500)=false):∃ (t:tTr) (D:List Dr) (tl:Bool) (e:Int),law16_Hide a0 bits=some (.inl (⟨t,tl,e⟩,⟨D.map (dW (a0.take 1500)),tl,e⟩,true,a0.take 1500))∧IsT t (D.map (dR (a0.take 1500)))∧D.length≤400∧∀ d∈D,okD (a0.take 1500) d:=by
 have hw:(a0.take 1500).length≤1500:=by simp; omega
 unfold law16_Hide;rw[show law11_Cut a0 1500=_ from cut11_eq a0 1500,bnd_some'];generalize a0.take 1500=w at h hw ⊢;obtain⟨t,t1,t2⟩:=begun_ok w (by omega) h;obtain⟨D,d1,d2,d3,d4⟩:=begD w (by omega) h;rw[d3] at t1;rw[t2,bnd_some',d4];dsimp only;rw[if_pos rfl];generalize tailE w (rs w)=tl;generalize firstE w (rs w)=e;obtain⟨q,q1,r,D',rfl,q3,q4,q5⟩:=loop_ind (f:=law16_Hide.l1 bits) (fun s:Int × (Option NP) × Bool × Int × (List ref08_Row) × Bool × Int=>∃ (i:Nat) (r:Option NP) (D':List Dr),s=((i:Int),r,tl,e,D'.map (dW w),tl,e)∧IsT ⟨r⟩ (D'.map (dR w))∧D'.length=D.length∧(∀ d∈D',okD w d)∧i≤64) (fun s=>64-s.1.toNat) (fun q=>∃ (r:Option NP) (D':List Dr),q=(r,tl,e,D'.map (dW w),tl,e)∧IsT ⟨r⟩ (D'.map (dR w))∧D'.length=D.length∧∀ d∈D',okD w d) (fun s hs=>by
  obtain⟨i,r,D',rfl,s1,s2,s3,s4⟩:=hs;unfold law16_Hide.l1 grid_Grid_Len;dsimp only;have hml:(D'.map (dR w)).length=D'.length:=List.length_map _;have hmw:(D'.map (dW w)).length=D'.length:=List.length_map _;rw[Len_eq _ _ s1,bnd_some',bnd_some',hml];by_cases c:i<D'.length∧i<64
  ·rw[if_pos (by omega),decide_eq_true (by omega),bnd_some',if_pos rfl,wrap64 (by omega),shv_of,bnd_some'];by_cases b:IntKind.wrap .u64 (iand .u64 (bits.fdiv (2 ^ (min i IntKind.u64.bits))) 1)=0
   ·rw[if_pos b,bnd_some'];dsimp only;rw[w64_id ⟨by omega,by omega⟩];refine .inl ⟨_,rfl,⟨i+1,r,D',rfl,s1,s2,s3,by omega⟩,by simp only[Int.toNat_natCast]; omega⟩
   ·rw[if_neg b,gridRow_eq _ _ _ _ s1 (by omega) i (by omega),bnd_some'];dsimp only;rw[List.getElem_map,rowHide_eq w _ (s3 _ (List.getElem_mem c.1)),bnd_some'];obtain⟨u,u1,u2⟩:=gridPut_eq _ tl e _ s1 (by omega) i (by omega) (dR w (hid D'[i]));rw[u1,bnd_some',idx_nat (List.getElem?_eq_getElem (by omega:i<(D'.map (dW w)).length)),bnd_some',List.getElem_map,refPut_eq ⟨D'.map (dW w),tl,e⟩ i (by show i<(D'.map (dW w)).length; omega) (by show (D'.map (dW w)).length≤4000; omega),bnd_some',bnd_some'];dsimp only;rw[w64_id ⟨by omega,by omega⟩];refine .inl ⟨_,rfl,⟨i+1,u.fRoot,D'.set i (hid D'[i]),?_,?_,by rw[List.length_set]; exact s2,set_ok s3 c.1,by omega⟩,by simp only[Int.toNat_natCast]; omega⟩
    ·rw[List.map_set]; rfl
    ·rw[List.map_set]; exact u2
  ·have hc:(if (i:Int)<(D'.length:Int) then some (decide ((i:Int)<64)) else some false:Option Bool)=some false:=by
    by_cases c1:(i:Int)<(D'.length:Int)
    ·rw[if_pos c1,decide_eq_false (by omega)]
    ·rw[if_neg c1]
   rw[hc,bnd_some',if_neg (by simp)];exact .inr ⟨_,rfl,r,D',rfl,s1,s2,s3⟩) (s:=(0,t.fRoot,tl,e,D.map (dW w),tl,e)) ⟨0,t.fRoot,D,rfl,t1,rfl,d2,by omega⟩
 rw[q1,bnd_some'];exact⟨⟨r⟩,D',tl,e,rfl,q3,by omega,q5⟩
theorem hide_bad (a0:List UInt8) (bits:Int) (h:isBad (a0.take 1500)=true):law16_Hide a0 bits=some (.inl (badG,⟨[],false,2⟩,false,[])):=by
 have hw:(a0.take 1500).length≤1500:=by simp; omega
 unfold law16_Hide;rw[show law11_Cut a0 1500=_ from cut11_eq a0 1500,bnd_some',begun_bad _ (by omega) h,bnd_some'];dsimp only;rw[if_neg (by simp)]
def txt (w:List UInt8) (j:Nat):List UInt8:=bytesAt w (fieldF w j).2.1
theorem txt_len (w:List UInt8) (j:Nat) (h:short w j=true):(txt w j).length≤400:=by
 have:=bytesAt_len w (fieldF w j).2.1;have:=of_decide_eq_true h;unfold txt; omega
theorem cellBytes_eq (w:List UInt8) (hw:w.length≤4096) (j:Nat) (hj:j≤w.length) (hs:short w j=true):cell_Cell_Bytes (kc w j) w=some (txt w j):=by
 obtain⟨_,_,_,h4,h5⟩:=fieldF_spec w (by omega) j hj;have hl:=of_decide_eq_true hs;exact CBytes_eq _ _ _ w (fun x hx=>by have:=h4 x hx; omega) (by omega) (by omega)
def dgB (b:UInt8):Bool:=decide (48≤b.toNat∧b.toNat≤57)
def dV (b:UInt8):Nat:=b.toNat-48
def val (l:List UInt8):Nat:=l.foldl (fun n b=>n*10+dV b) 0
theorem val_snoc (l:List UInt8) (b:UInt8):val (l++[b])=val l*10+dV b:=by simp[val,List.foldl_append]
theorem foldl_pos (l:List UInt8):∀ n:Nat,l.foldl (fun n b=>n*10+dV b) n=n*10 ^ l.length+val l:=by
 induction l with
 | nil=>intro n; simp[val]
 | cons b l ih=>
  intro n;have e:val (b::l)=dV b*10 ^ l.length+val l:=by
   unfold val;rw[List.foldl_cons,Nat.zero_mul,Nat.zero_add,ih]; rfl
  rw[List.foldl_cons,ih,e,List.length_cons,Nat.pow_succ,Nat.add_mul,Nat.mul_assoc,Nat.mul_comm 10,Nat.add_assoc]
theorem val_cons (b:UInt8) (l:List UInt8):val (b::l)=dV b*10 ^ l.length+val l:=by
 unfold val;rw[List.foldl_cons,Nat.zero_mul,Nat.zero_add,foldl_pos]; rfl
theorem dV_le {b:UInt8} (h:dgB b=true):dV b≤9:=by
 have:=of_decide_eq_true h;unfold dV; omega
theorem val_lt:∀ {l:List UInt8},l.all dgB=true→val l<10 ^ l.length
 | [],_=>by simp[val]
 | b::l,h=>by
  rw[List.all_cons,Bool.and_eq_true] at h;have h1:=dV_le h.1;have h2:=val_lt h.2;rw[val_cons,List.length_cons,Nat.pow_succ];have:dV b*10 ^ l.length≤9*10 ^ l.length:=Nat.mul_le_mul_right _ h1;omega
theorem val_append_ge (a b:List UInt8):val a≤val (a++b):=by
 induction b using snoc_ind with
 | nil=>simp
 | snoc b x ih=>rw[← List.append_assoc,val_snoc]; omega
theorem digit2_no {b:UInt8} (h:dgB b=false):num_digit b=some (0,false):=by
 have h:=of_decide_eq_false h;unfold num_digit;by_cases c:(b.toNat:Int)<48
 ·rw[if_pos c,bnd_some',if_pos rfl]
 ·rw[if_neg c,bnd_some',decide_eq_true (by omega),if_pos rfl]
theorem digit2_yes {b:UInt8} (h:dgB b=true):num_digit b=some ((dV b:Int),true):=by
 have h:=of_decide_eq_true h;unfold num_digit;rw[if_neg (by omega),bnd_some',decide_eq_false (by omega),if_neg (by simp),ub_toNat];have e:((b.toNat:Int)-48) % 256=(dV b:Int):=by unfold dV; omega
 rw[e];have hw:IntKind.wrap .u64 (dV b:Int)=(dV b:Int):=by
  unfold IntKind.wrap dV;simp only[IntKind.bits,IntKind.signed,Bool.false_and,Bool.false_eq_true,if_false];omega
 rw[hw]
theorem wrapU {x:Int} (h:0≤x∧x<18446744073709551616):IntKind.wrap .u64 x=x:=by
 unfold IntKind.wrap;simp only[IntKind.bits,IntKind.signed,Bool.false_and,Bool.false_eq_true,if_false];omega
theorem quo9 {x:Int} (h:0≤x):quo x 9=x / 10:=by
 show x.tdiv 10=x / 10;exact Int.tdiv_eq_ediv_of_nonneg h
def big:Nat:=9223372036854775808
theorem mag_eq (a:List UInt8) (ha:a.length≤100000):num_magnitude a=some (if a.all dgB=true∧val a≤big then ((val a:Int),decide (0<a.length)) else (0,false)):=by
 unfold num_magnitude;obtain⟨q,h1,h2⟩:=loop_for (f:=num_magnitude.l1 a) (fun i (n:Int)=>(n,i)) a (fun pre n=>n=(val pre:Int)∧pre.all dgB=true∧val pre≤big) (fun q=>match q with | .brk n=>n=(val a:Int)∧a.all dgB=true∧val a≤big | .ret r=>r=(0,false)∧¬ (a.all dgB=true∧val a≤big)) (fun pre x suf n hs hI=>by
  obtain⟨rfl,i2,i3⟩:=hI;have hl:a.length=pre.length+(suf.length+1):=by rw[hs]; simp
  have hg:=val_append_ge (pre++[x]) suf;rw[show pre++[x]++suf=a by rw[hs]; simp,val_snoc] at hg;unfold num_magnitude.l1 big at *;dsimp only;rw[if_pos (by omega),show idx a (pre.length:Int)=some x by rw[hs]; exact idx_at _ _ _,bnd_some'];cases hd:dgB x with
  | false=>
   rw[digit2_no hd,bnd_some'];dsimp only;rw[if_neg (by simp),bnd_some',if_pos rfl];refine .inr ⟨_,rfl,rfl,fun h=>?_⟩;have:=List.all_eq_true.1 h.1 x (by rw[hs]; simp);rw[hd] at this; cases this
  | true=>
   have h9:=dV_le hd;rw[digit2_yes hd,bnd_some'];dsimp only;rw[if_pos rfl,wrapU (x:=9223372036854775808-(dV x:Int)) ⟨by omega,by omega⟩,quo9 (by omega),wrapU ⟨by omega,by omega⟩,bnd_some',bnd_some'];by_cases c:(val pre:Int)>(9223372036854775808-(dV x:Int)) / 10
   ·rw[decide_eq_true c,if_pos rfl];refine .inr ⟨_,rfl,rfl,fun h=>?_⟩;omega
   ·rw[decide_eq_false c,if_neg (by simp),wrapU (x:=(val pre:Int)*10) ⟨by omega,by omega⟩,wrapU ⟨by omega,by omega⟩,w64_id ⟨by omega,by omega⟩];refine .inl ⟨_,rfl,by rw[val_snoc]; omega,by rw[List.all_append,i2]; simp[hd],by rw[val_snoc]; omega⟩) (fun n hI=>by
  unfold num_magnitude.l1;dsimp only;rw[if_neg (by omega)];exact⟨_,rfl,hI⟩) (s0:=0) ⟨by simp[val],rfl,by simp[val,big]⟩
 rw[show loop (num_magnitude.l1 a) (0,0)=some q from h1,bnd_some'];cases q with
 | brk n=>
  obtain⟨rfl,h3⟩:=h2;dsimp only;rw[if_pos h3];congr 2;exact decide_eq_decide.2 (by omega)
 | ret r=>
  obtain⟨rfl,h3⟩:=h2;dsimp only;rw[if_neg h3]
def sg:List UInt8→Bool × List UInt8
| []=>(false,[])
| b::l=>if b=45 then (true,l) else if b=43 then (false,l) else (false,b::l)
theorem u8q {x:UInt8} {n:Nat} (hn:n<256):((x.toNat:Int)=(n:Int))↔x=UInt8.ofNat n:=by
 constructor
 ·intro h;refine UInt8.toNat_inj.1 ?_;rw[UInt8.toNat_ofNat_of_lt' (by show n<256; omega)]; omega
 ·intro h;rw[h,UInt8.toNat_ofNat_of_lt' (by show n<256; omega)]
theorem c45 {b:UInt8}:((b.toNat:Int)=45)↔b=45:=u8q (n:=45) (by omega)
theorem c43 {b:UInt8}:((b.toNat:Int)=43)↔b=43:=u8q (n:=43) (by omega)
theorem c48 {b:UInt8}:((b.toNat:Int)=48)↔b=48:=u8q (n:=48) (by omega)
theorem sign_eq (a:List UInt8) (ha:a.length≤100000):num_sign a=some (sg a):=by
 unfold num_sign;cases a with
 | nil=>rfl
 | cons b l=>
  rw[if_neg (by simp only[List.length_cons]; omega),show idx (b::l) 0=some b from rfl,bnd_some'];have hc:cut (b::l) 1 ((b::l).length:Int)=some l:=by
   rw[cut_of ⟨by omega,by simp only[List.length_cons]; omega,by omega⟩,Int.toNat_natCast,List.take_length]; rfl
  rw[show sg (b::l)=(if b=45 then (true,l) else if b=43 then (false,l) else (false,b::l)) from rfl];by_cases c:b=45
  ·rw[if_pos (c45.2 c),if_pos c,hc,bnd_some']
  ·rw[if_neg (fun h=>c (c45.1 h)),if_neg c];by_cases d:b=43
   ·rw[if_pos (c43.2 d),if_pos d,hc,bnd_some']
   ·rw[if_neg (fun h=>d (c43.1 h)),if_neg d]
theorem sg_len (a:List UInt8):(sg a).2.length≤a.length:=by
 cases a with
 | nil=>simp[sg]
 | cons b l=>
  rw[show sg (b::l)=(if b=45 then (true,l) else if b=43 then (false,l) else (false,b::l)) from rfl];split
  ·simp
  ·split <;> simp
def isN (neg:Bool) (r:List UInt8):Prop:=r.all dgB=true∧r≠[]∧val r≤(if neg=true then big else big-1)
instance (neg:Bool) (r:List UInt8):Decidable (isN neg r):=by unfold isN; infer_instance
def pz (a:List UInt8):Int × Bool:=if isN (sg a).1 (sg a).2 then ((if (sg a).1=true then -(val (sg a).2:Int) else (val (sg a).2:Int)),true) else (0,false)
theorem w64_neg {v:Nat} (h:v≤big):w64 (IntKind.wrap .u64 (0-(v:Int))) = -(v:Int):=by
 unfold big at h;unfold w64 IntKind.wrap;simp only[IntKind.bits,IntKind.signed,Bool.false_and,Bool.false_eq_true,if_false,Bool.true_and,decide_eq_true_eq,ge_iff_le];split <;> omega
theorem nparse_eq (a:List UInt8) (ha:a.length≤100000):num_Parse a=some (pz a):=by
 have hl:=sg_len a;unfold num_Parse pz;rw[sign_eq a ha,bnd_some',mag_eq _ (by omega),bnd_some'];generalize sg a=q at hl ⊢;obtain⟨neg,r⟩:=q;dsimp only at hl ⊢;by_cases c:r.all dgB=true∧val r≤big
 ·rw[if_pos c];dsimp only;cases r with
  | nil=>
   rw[show decide (0<([]:List UInt8).length)=false from rfl,if_neg (by simp),bnd_some',show (!false)=true from rfl,if_pos rfl,if_neg (fun h=>h.2.1 rfl)]
  | cons b l=>
   rw[show decide (0<(b::l).length)=true by simp,if_pos rfl];cases neg with
   | true=>
    rw[if_pos rfl,bnd_some',if_neg (by simp),if_pos rfl,w64_neg c.2,if_pos ⟨c.1,by simp,by simpa using c.2⟩,if_pos rfl]
   | false=>
    rw[if_neg (by simp),bnd_some'];by_cases d:((val (b::l):Nat):Int)=9223372036854775808
    ·rw[beq_iff_eq.2 d,if_pos rfl,if_neg (fun h=>?_)];have:=h.2.2;rw[if_neg (by simp)] at this;unfold big at this; omega
    ·have hv:=c.2;unfold big at hv;rw[beq_eq_false_iff_ne.2 d,if_neg (by simp),if_neg (by simp),w64_id ⟨by omega,by omega⟩,if_pos ⟨c.1,by simp,by rw[if_neg (by simp)]; unfold big; omega⟩,if_neg (by simp)]
 ·rw[if_neg c];dsimp only;rw[if_neg (by simp),bnd_some',show (!false)=true from rfl,if_pos rfl,if_neg (fun h=>c ⟨h.1,?_⟩)];have:=h.2.2;split at this
  ·exact this
  ·unfold big at *; omega
def bwL:List UInt8→List UInt8→Int
| [],_=>0
| _::_,[]=>1
| x::a,y::b=>if x=y then bwL a b else if x<y then -1 else 1
theorem cmpB {x y:UInt8}:cmp_Compare_byte x y=some (if x<y then -1 else if y<x then 1 else 0):=by
 unfold cmp_Compare_byte cmp_isNaN_byte;rw[bnd_some',bnd_some',if_neg (by simp),if_neg (by simp)];by_cases c:x<y
 ·rw[if_pos (by have:=UInt8.lt_iff_toNat_lt.1 c; omega),if_pos c]
 ·rw[if_neg (fun h=>c (UInt8.lt_iff_toNat_lt.2 (by omega))),if_neg c];by_cases d:y<x
  ·rw[if_pos (by have:=UInt8.lt_iff_toNat_lt.1 d; omega),if_pos d]
  ·rw[if_neg (fun h=>d (UInt8.lt_iff_toNat_lt.2 (by omega))),if_neg d]
theorem cmpI (x y:Int):cmp_Compare_int x y=some (if x<y then -1 else if x>y then 1 else 0):=by
 unfold cmp_Compare_int cmp_isNaN_int;rw[bnd_some',bnd_some',if_neg (by simp),if_neg (by simp)];by_cases c:x<y
 ·rw[if_pos c,if_pos c]
 ·rw[if_neg c,if_neg c];by_cases d:x>y
  ·rw[if_pos d,if_pos d]
  ·rw[if_neg d,if_neg d]
theorem bw_pre:∀ (pre a b:List UInt8),bwL (pre++a) (pre++b)=bwL a b
 | [],a,b=>rfl
 | x::pre,a,b=>by rw[List.cons_append,List.cons_append,bwL,if_pos rfl,bw_pre]
theorem bwise_eq (a b:List UInt8) (ha:a.length≤100000):num_bytewise a b=some (if bwL a b=0∧a.length<b.length then -1 else bwL a b):=by
 obtain⟨t,h1,h2⟩:=loop_for (f:=num_bytewise.l1 a b) (fun i (_:Unit)=>i) a (fun pre _=>b.take pre.length=pre) (fun t=>t=bwL a b) (fun pre x suf s hs hI=>by
  have hl:a.length=pre.length+(suf.length+1):=by rw[hs]; simp
  have hpl:pre.length≤b.length:=by
   have:=congrArg List.length hI;rw[List.length_take] at this; omega
  have hb:b=pre++b.drop pre.length:=by
   conv=>lhs; rw[← List.take_append_drop pre.length b]
   rw[hI]
  unfold num_bytewise.l1;rw[if_pos (by omega),show idx a (pre.length:Int)=some x by rw[hs]; exact idx_at _ _ _,bnd_some'];have hbw:bwL a b=bwL (x::suf) (b.drop pre.length):=by
   conv=>lhs; rw[hs,hb]
   exact bw_pre _ _ _
  by_cases c:pre.length=b.length
  ·rw[if_pos (by omega)];refine .inr ⟨_,rfl,?_⟩;rw[hbw,List.drop_of_length_le (by omega)]; rfl
  ·have hlt:pre.length<b.length:=by omega
   rw[if_neg (by omega),idx_nat (List.getElem?_eq_getElem hlt),bnd_some'];rw[List.drop_eq_getElem_cons hlt,bwL] at hbw;by_cases d:x=b[pre.length]
   ·rw[if_pos (by rw[d]),w64_id ⟨by omega,by omega⟩];refine .inl ⟨(),rfl,?_⟩;simp only[List.length_append,List.length_cons,List.length_nil,Nat.zero_add];rw[List.take_succ_eq_append_getElem hlt,hI,← d]
   ·rw[if_neg (fun h=>d (UInt8.toNat_inj.1 (by omega))),cmpB,bnd_some'];refine .inr ⟨_,rfl,?_⟩;rw[if_neg d] at hbw;rw[hbw];by_cases e:x<b[pre.length]
    ·rw[if_pos e,if_pos e]
    ·have:b[pre.length]<x:=UInt8.lt_iff_toNat_lt.2 (by
      have h1:¬ x.toNat<b[pre.length].toNat:=fun h=>e (UInt8.lt_iff_toNat_lt.2 h);have h2:x.toNat≠b[pre.length].toNat:=fun h=>d (UInt8.toNat_inj.1 h);omega)
     rw[if_neg e,if_pos this,if_neg e]) (fun s hI=>by
  unfold num_bytewise.l1;rw[if_neg (by omega)];refine⟨_,rfl,?_⟩;have hb:b=a++b.drop a.length:=by
   conv=>lhs; rw[← List.take_append_drop a.length b]
   rw[hI]
  have:=bw_pre a [] (b.drop a.length);rw[List.append_nil,← hb] at this;rw[this]; rfl) (s0:=()) (by simp)
 subst h2;unfold num_bytewise;refine loop_done ?_;unfold num_bytewise.l2;rw[show loop (num_bytewise.l1 a b) 0=_ from h1,bnd_some'];by_cases c:bwL a b=0
 ·rw[if_pos c,bnd_some'];by_cases d:a.length<b.length
  ·rw[decide_eq_true (by omega),if_pos rfl,if_pos ⟨c,d⟩]
  ·rw[decide_eq_false (by omega),if_neg (by simp),if_neg (fun h=>d h.2)]
 ·rw[if_neg c,bnd_some',if_neg (by simp),if_neg (fun h=>c h.1)]
theorem ult {x y:UInt8}:(x<y)↔x.toNat<y.toNat:=UInt8.lt_iff_toNat_lt
def byW (a b:List UInt8):Int:=if Op.bytesLess a b=true then -1 else if Op.bytesLess b a=true then 1 else 0
theorem byW_eq:∀ a b:List UInt8,(if bwL a b=0∧a.length<b.length then -1 else bwL a b)=byW a b
 | [],[]=>rfl
 | [],y::b=>by simp[bwL,byW,Op.bytesLess]
 | x::a,[]=>by simp[bwL,byW,Op.bytesLess]
 | x::a,y::b=>by
  have ih:=byW_eq a b;unfold byW at ih ⊢;unfold bwL Op.bytesLess;by_cases c:x=y
  ·subst c;have hx:decide (x<x)=false:=decide_eq_false (by rw[ult]; omega);rw[if_pos rfl,hx];simp only[List.length_cons,Nat.add_lt_add_iff_right,beq_self_eq_true,Bool.true_and,Bool.false_or];exact ih
  ·have hne:(x==y)=false:=beq_eq_false_iff_ne.2 c;have hne':(y==x)=false:=beq_eq_false_iff_ne.2 (Ne.symm c);rw[if_neg c,hne,hne'];by_cases d:x<y
   ·simp[d]
   ·have d':y<x:=by
     rw[ult] at d ⊢;have:x.toNat≠y.toNat:=fun h=>c (UInt8.toNat_inj.1 h);omega
    simp[d,d']
def cmpT (a b:List UInt8):Int:=if (pz a).2=true then (if (pz b).2=true then (if (pz a).1<(pz b).1 then -1 else if (pz a).1>(pz b).1 then 1 else 0) else -1) else if (pz b).2=true then 1 else byW a b
theorem compare_eq (a b:List UInt8) (ha:a.length≤100000) (hb:b.length≤100000):num_Compare a b=some (cmpT a b):=by
 unfold num_Compare cmpT;rw[nparse_eq a ha,bnd_some',nparse_eq b hb,bnd_some',bwise_eq a b ha,byW_eq];generalize pz a=p;generalize pz b=q;obtain⟨x,p2⟩:=p;obtain⟨y,q2⟩:=q;cases p2 <;> cases q2 <;> simp[cmpI]
def bareL:List UInt8→List UInt8
| []=>[]
| [b]=>[b]
| b::c::l=>if b=48 then bareL (c::l) else b::c::l
theorem bareLoop:∀ s:List UInt8,s.length≤100000→loop ref02_bare.l1 s=some (bareL s)
 | [],_=>loop_done rfl
 | [b],_=>loop_done rfl
 | b::c::l,h=>by
  have hs:ref02_bare.l1 (b::c::l)=if b=48 then some (.next (c::l)) else some (.done (b::c::l)):=by
   unfold ref02_bare.l1;rw[if_pos (by simp only[List.length_cons]; omega),show idx (b::c::l) 0=some b from rfl,bnd_some',bnd_some'];by_cases d:b=48
   ·rw[beq_iff_eq.2 (c48.2 d),if_pos rfl,if_pos d,cut_of ⟨by omega,by simp only[List.length_cons]; omega,by omega⟩,bnd_some',Int.toNat_natCast,List.take_length]; rfl
   ·rw[beq_eq_false_iff_ne.2 (fun h=>d (c48.1 h)),if_neg (by simp),if_neg d]
  rw[bareL];by_cases d:b=48
  ·rw[if_pos d] at hs ⊢;exact loop_next hs (bareLoop (c::l) (by simp at h ⊢; omega))
  ·rw[if_neg d] at hs ⊢;exact loop_done hs
theorem bare_eq (s:List UInt8) (h:s.length≤100000):ref02_bare s=some (bareL s):=by
 unfold ref02_bare;rw[bareLoop s h,bnd_some']
theorem bare_val:∀ s:List UInt8,val (bareL s)=val s
 | []=>rfl
 | [b]=>rfl
 | b::c::l=>by
  rw[bareL];split
  ·rename_i d;rw[bare_val (c::l),val_cons b,d,show dV 48=0 from rfl]; omega
  ·rfl
theorem bare_all:∀ s:List UInt8,s.all dgB=true→(bareL s).all dgB=true
 | [],h=>h
 | [b],h=>h
 | b::c::l,h=>by
  rw[bareL];split
  ·rw[List.all_cons,Bool.and_eq_true] at h;exact bare_all (c::l) h.2
  ·exact h
theorem bare_len:∀ s:List UInt8,(bareL s).length≤s.length
 | []=>Nat.le_refl _
 | [b]=>Nat.le_refl _
 | b::c::l=>by
  rw[bareL];split
  ·have:=bare_len (c::l);simp only[List.length_cons] at this ⊢; omega
  ·exact Nat.le_refl _
theorem bare_ne:∀ s:List UInt8,s≠[]→bareL s≠[]
 | [],h=>absurd rfl h
 | [b],_=>by simp[bareL]
 | b::c::l,_=>by
  rw[bareL];split
  ·exact bare_ne (c::l) (by simp)
  ·simp
def NoLead (s:List UInt8):Prop:=∀ b c l,s=b::c::l→b≠48
theorem bare_lead:∀ s:List UInt8,NoLead (bareL s)
 | []=>fun b c l h=>by simp[bareL] at h
 | [x]=>fun b c l h=>by simp[bareL] at h
 | x::y::m=>by
  rw[bareL];split
  ·exact bare_lead (y::m)
  ·rename_i d;intro b c l h;simp only[List.cons.injEq] at h;rw[← h.1]; exact d
theorem less_same:∀ a b:List UInt8,a.length=b.length→a.all dgB=true→b.all dgB=true→(Op.bytesLess a b=true↔val a<val b)
 | [],[],_,_,_=>by simp[Op.bytesLess,val]
 | [],y::b,h,_,_=>by simp at h
 | x::a,[],h,_,_=>by simp at h
 | x::a,y::b,h,ha,hb=>by
  rw[List.all_cons,Bool.and_eq_true] at ha hb;have hl:a.length=b.length:=by simpa using h
  have ih:=less_same a b hl ha.2 hb.2;have va:=val_lt ha.2;have vb:=val_lt hb.2;have dx:=of_decide_eq_true ha.1;have dy:=of_decide_eq_true hb.1;rw[val_cons,val_cons,← hl];rw[← hl] at vb;unfold Op.bytesLess;generalize 10 ^ a.length=P at *;by_cases c:x=y
  ·subst c;have hx:decide (x<x)=false:=decide_eq_false (by rw[ult]; omega);rw[hx];simp only[beq_self_eq_true,Bool.true_and,Bool.false_or];rw[ih]; omega
  ·have hne:(x==y)=false:=beq_eq_false_iff_ne.2 c;rw[hne];simp only[Bool.false_and,Bool.or_false,decide_eq_true_eq];rw[ult];have hn:x.toNat≠y.toNat:=fun h=>c (UInt8.toNat_inj.1 h);unfold dV;constructor
   ·intro h1;have:=Nat.mul_le_mul_right P (show x.toNat-48+1≤y.toNat-48 by omega);rw[Nat.add_mul] at this;omega
   ·intro h1;by_cases h2:x.toNat<y.toNat
    ·exact h2
    ·have:=Nat.mul_le_mul_right P (show y.toNat-48+1≤x.toNat-48 by omega);rw[Nat.add_mul] at this;omega
theorem less_len {a b:List UInt8} (h:a.length<b.length) (ha:a.all dgB=true) (hb:b.all dgB=true) (hn:NoLead b) (hne:a≠[]):val a<val b:=by
 have va:=val_lt ha;cases b with
 | nil=>simp at h
 | cons y b=>
  cases b with
  | nil=>
   simp at h;exact absurd h hne
  | cons z b=>
   have hy:=hn y z b rfl;rw[List.all_cons,Bool.and_eq_true] at hb;have dy:=of_decide_eq_true hb.1;have h1:1≤dV y:=by
    unfold dV;have:y.toNat≠48:=fun e=>hy (UInt8.toNat_inj.1 (by rw[e]; rfl));omega
   rw[val_cons];have h2:10 ^ a.length≤10 ^ (z::b).length:=Nat.pow_le_pow_right (by omega) (by simp only[List.length_cons] at h ⊢; omega);have h3:=Nat.mul_le_mul_right (10 ^ (z::b).length) h1;omega
theorem rless_eq (a b:List UInt8) (ha:a.all dgB=true) (hb:b.all dgB=true) (na:NoLead a) (nb:NoLead b) (ea:a≠[]) (eb:b≠[]):ref02_less a b=some (decide (val a<val b)):=by
 unfold ref02_less;by_cases c:a.length<b.length
 ·rw[if_pos (by omega),bnd_some',decide_eq_true (less_len c ha hb nb ea)]
 ·rw[if_neg (by omega)];by_cases d:a.length=b.length
  ·rw[if_pos (by omega),bnd_some'];have h:=less_same a b d ha hb;congr 1;by_cases e:val a<val b
   ·rw[decide_eq_true e,h.2 e]
   ·rw[decide_eq_false e];cases hq:Op.bytesLess a b with
    | true=>exact absurd (h.1 hq) e
    | false=>rfl
  ·have:=less_len (show b.length<a.length by omega) hb ha na eb;rw[if_neg (by omega),bnd_some',decide_eq_false (by omega)]
theorem rdigit_eq (x:UInt8):ref02_Digit x=some (dgB x):=by
 unfold ref02_Digit dgB;by_cases c:(x.toNat:Int)≥48
 ·rw[if_pos c,bnd_some'];congr 1;exact decide_eq_decide.2 (by omega)
 ·rw[if_neg c,bnd_some',decide_eq_false (by omega)]
def limP:List UInt8:=[57,50,50,51,51,55,50,48,51,54,56,53,52,55,55,53,56,48,55]
def limN:List UInt8:=[57,50,50,51,51,55,50,48,51,54,56,53,52,55,55,53,56,48,56]
theorem limP_val:val limP=big-1:=by decide
theorem limN_val:val limN=big:=by decide
theorem w64_back {y:Int} (h : -9223372036854775808≤y∧y≤9223372036854775807):w64 (w64 (y+48)-48)=y:=by
 by_cases c:y+48≤9223372036854775807
 ·rw[w64_id (x:=y+48) ⟨by omega,by omega⟩,w64_id ⟨by omega,by omega⟩]; omega
 ·have:w64 (y+48)=y+48-18446744073709551616:=by
   unfold w64 IntKind.wrap;simp only[IntKind.bits,IntKind.signed,Bool.true_and,decide_eq_true_eq,ge_iff_le];split <;> omega
  rw[this];unfold w64 IntKind.wrap;simp only[IntKind.bits,IntKind.signed,Bool.true_and,decide_eq_true_eq,ge_iff_le];split <;> omega
def pzr (neg:Bool) (r:List UInt8):Int × Bool:=if isN neg r then ((if neg=true then -(val r:Int) else (val r:Int)),true) else (0,false)
theorem rloop2 (r:List UInt8) (t:List UInt8) (neg:Bool) (hr:r.length≤100000) (hd:r.all dgB=true) (hv:val r≤(if neg=true then big else big-1)):loop (ref02_Parse.l2 (t,neg) r) (0,0)=some (if neg=true then -(val r:Int) else (val r:Int)):=by
 have hl:=loop_fold (f:=ref02_Parse.l2 (t,neg) r) (fun i (n:Int)=>(n,i)) r (fun pre=>if neg=true then -(val pre:Int) else (val pre:Int)) (t:=if neg=true then -(val r:Int) else (val r:Int)) (fun pre x suf hs=>by
  have hl:r.length=pre.length+(suf.length+1):=by rw[hs]; simp
  have hg:=val_append_ge (pre++[x]) suf;rw[show pre++[x]++suf=r by rw[hs]; simp,val_snoc] at hg;have hx:=List.all_eq_true.1 hd x (by rw[hs]; simp);have h9:=dV_le hx;have hdx:=of_decide_eq_true hx;have hdv:(x.toNat:Int)=(dV x:Int)+48:=by unfold dV; omega
  unfold ref02_Parse.l2;dsimp only;rw[if_pos (by omega),show idx r (pre.length:Int)=some x by rw[hs]; exact idx_at _ _ _];unfold big at hv;cases neg with
  | true=>
   rw[if_pos rfl] at hv;rw[if_pos rfl,if_pos rfl,if_pos rfl,bnd_some',hdv,bnd_some',w64_id (x:=-(val pre:Int)*10) ⟨by omega,by omega⟩,w64_id (x:=(dV x:Int)+48-48) ⟨by omega,by omega⟩,w64_id (x:=-(val pre:Int)*10-((dV x:Int)+48-48)) ⟨by omega,by omega⟩,w64_id ⟨by omega,by omega⟩,val_snoc];congr 3;omega
  | false=>
   rw[if_neg (by simp)] at hv;rw[if_neg (by simp),if_neg (by simp),if_neg (by simp),bnd_some',hdv,bnd_some',w64_id (x:=(val pre:Int)*10) ⟨by omega,by omega⟩,show (val pre:Int)*10+((dV x:Int)+48)=((val pre:Int)*10+(dV x:Int))+48 by omega,w64_back ⟨by omega,by omega⟩,w64_id ⟨by omega,by omega⟩,val_snoc];congr 3) (by
  unfold ref02_Parse.l2;dsimp only;rw[if_neg (by omega)])
 rw[show (if neg=true then -((val []:Nat):Int) else ((val []:Nat):Int))=0 by cases neg <;> rfl] at hl;exact hl
theorem rrest_eq (r:List UInt8) (neg:Bool) (hr:r.length≤100000):(if r=[] then some ((0:Int),false) else bnd (loop (ref02_Parse.l1 (r,neg)) 0:Option (Ex Unit (Int × Bool))) fun t10=>match t10 with
 | .brk u11=>
  bnd (ref02_bare r) fun x24=>
  bnd (if neg=true then some limN else some limP:Option (List UInt8)) fun t25=>
  bnd (ref02_less t25 x24) fun x27=>
  if x27=true then some (0,false) else
   bnd (loop (ref02_Parse.l2 (r,neg) x24) (0,0):Option Int) fun t29=>some (t29,true)
 | .ret u11=>some u11)=some (pzr neg r):=by
 unfold pzr;by_cases e:r=[]
 ·rw[if_pos e,if_neg (fun h=>h.2.1 e)]
 ·rw[if_neg e];obtain⟨q,h1,h2⟩:=loop_for (f:=ref02_Parse.l1 (r,neg)) (fun i (_:Unit)=>i) r (fun pre _=>pre.all dgB=true) (fun q=>match q with | .brk _=>r.all dgB=true | .ret v=>v=(0,false)∧¬ r.all dgB=true) (fun pre x suf s hs hI=>by
   have hl:r.length=pre.length+(suf.length+1):=by rw[hs]; simp
   unfold ref02_Parse.l1;dsimp only;rw[if_pos (by omega),show idx r (pre.length:Int)=some x by rw[hs]; exact idx_at _ _ _,bnd_some',rdigit_eq,bnd_some'];cases hd:dgB x with
   | true=>
    rw[if_pos rfl,w64_id ⟨by omega,by omega⟩];exact .inl ⟨(),rfl,by rw[List.all_append,hI]; simp[hd]⟩
   | false=>
    rw[if_neg (by simp)];refine .inr ⟨_,rfl,rfl,fun h=>?_⟩;have:=List.all_eq_true.1 h x (by rw[hs]; simp);rw[hd] at this; cases this) (fun s hI=>by
   unfold ref02_Parse.l1;dsimp only;rw[if_neg (by omega)];exact⟨_,rfl,hI⟩) (s0:=()) rfl
  rw[show loop (ref02_Parse.l1 (r,neg)) 0=some q from h1,bnd_some'];cases q with
  | ret v=>
   obtain⟨rfl,h3⟩:=h2;dsimp only;rw[if_neg (fun h=>h3 h.1)]
  | brk u=>
   dsimp only at h2 ⊢;have hb:=bare_len r;have hN:(if neg=true then some limN else some limP:Option (List UInt8))=some (if neg=true then limN else limP):=by cases neg <;> rfl
   have hlv:val (if neg=true then limN else limP)=(if neg=true then big else big-1):=by
    cases neg with
    | true=>exact limN_val
    | false=>exact limP_val
   have hla:(if neg=true then limN else limP).all dgB=true:=by cases neg <;> decide
   have hll:NoLead (if neg=true then limN else limP):=by
    intro b c l h;cases neg with
    | true=>
     rw[if_pos rfl] at h;unfold limN at h;simp only[List.cons.injEq] at h;rw[← h.1]; decide
    | false=>
     rw[if_neg (by simp)] at h;unfold limP at h;simp only[List.cons.injEq] at h;rw[← h.1]; decide
   have hle:(if neg=true then limN else limP)≠[]:=by cases neg <;> simp[limN,limP]
   rw[bare_eq r hr,bnd_some',hN,bnd_some',rless_eq _ _ hla (bare_all r h2) hll (bare_lead r) hle (bare_ne r e),bnd_some',hlv,bare_val];by_cases c:(if neg=true then big else big-1)<val r
   ·rw[decide_eq_true c,if_pos rfl,if_neg (fun h=>by have:=h.2.2; omega)]
   ·rw[decide_eq_false c,if_neg (by simp),rloop2 (bareL r) r neg (by omega) (bare_all r h2) (by rw[bare_val]; omega),bnd_some',bare_val,if_pos (show isN neg r from ⟨h2,e,by omega⟩)]
theorem rparse2_eq (a:List UInt8) (ha:a.length≤100000):ref02_Parse a=some (pz a):=by
 unfold ref02_Parse;have ht:(bnd (if (a.length:Int)>0 then bnd (idx a 0) fun x3=>if (x3.toNat:Int)=43 then some true else some ((x3.toNat:Int)==45) else some false:Option Bool) fun t1=>(if t1=true then bnd (idx a 0) fun x7=>bnd (cut a 1 (a.length:Int)) fun x8=>some (x8,((x7.toNat:Int)==45)) else some (a,false):Option ((List UInt8) × Bool)))=some ((sg a).2,(sg a).1):=by
  cases a with
  | nil=>rfl
  | cons b l=>
   have hc:cut (b::l) 1 ((b::l).length:Int)=some l:=by
    rw[cut_of ⟨by omega,by simp only[List.length_cons]; omega,by omega⟩,Int.toNat_natCast,List.take_length]; rfl
   rw[if_pos (by simp only[List.length_cons]; omega),show idx (b::l) 0=some b from rfl,bnd_some'];rw[show sg (b::l)=(if b=45 then (true,l) else if b=43 then (false,l) else (false,b::l)) from rfl];by_cases c:b=45
   ·have n43:¬ (b.toNat:Int)=43:=by rw[c]; decide
    rw[if_neg n43,beq_iff_eq.2 (c45.2 c),bnd_some',if_pos rfl,bnd_some',hc,bnd_some',if_pos c,beq_iff_eq.2 (c45.2 c)]
   ·have n45:((b.toNat:Int)==45)=false:=beq_eq_false_iff_ne.2 fun h=>c (c45.1 h);rw[if_neg c];by_cases d:b=43
    ·rw[if_pos (c43.2 d),bnd_some',if_pos rfl,bnd_some',hc,bnd_some',n45,if_pos d]
    ·rw[if_neg (fun h=>d (c43.1 h)),n45,bnd_some',if_neg (by simp),if_neg d]
 have key:∀ (R:(List UInt8) × Bool→Option (Int × Bool)),(bnd (if (a.length:Int)>0 then bnd (idx a 0) fun x3=>if (x3.toNat:Int)=43 then some true else some ((x3.toNat:Int)==45) else some false:Option Bool) fun t1=>bnd (if t1=true then bnd (idx a 0) fun x7=>bnd (cut a 1 (a.length:Int)) fun x8=>some (x8,((x7.toNat:Int)==45)) else some (a,false):Option ((List UInt8) × Bool)) R)=R ((sg a).2,(sg a).1):=fun R=>by
  cases hq:(if (a.length:Int)>0 then bnd (idx a 0) fun x3=>if (x3.toNat:Int)=43 then some true else some ((x3.toNat:Int)==45) else some false:Option Bool) with
  | none=>rw[hq] at ht; cases ht
  | some q=>rw[hq,bnd_some'] at ht; rw[bnd_some',ht,bnd_some']
 rw[key];have hl:=sg_len a;exact rrest_eq (sg a).2 (sg a).1 (by omega)
theorem rcompare_eq (a b:List UInt8) (ha:a.length≤100000) (hb:b.length≤100000):ref02_Compare a b=some (cmpT a b):=by
 unfold ref02_Compare cmpT;rw[rparse2_eq a ha,bnd_some',rparse2_eq b hb,bnd_some'];unfold byW;generalize pz a=p;generalize pz b=q;obtain⟨x,p2⟩:=p;obtain⟨y,q2⟩:=q;cases p2 <;> cases q2 <;> simp only[bnd_some',Bool.false_eq_true,if_false,if_true,beq_self_eq_true,decide_eq_true_eq,show (true==false)=false from rfl,show (false==true)=false from rfl]
 ·split
  ·rfl
  ·split <;> rfl
 ·split
  ·rfl
  ·split <;> rfl
section
variable {R T:Type} (d:R)
theorem gD_set {h:List R} {i k:Nat} {x:R} (hi:i<h.length):(h.set i x).getD k d=if i=k then x else h.getD k d:=by
 rw[List.getD_eq_getElem?_getD,List.getElem?_set];by_cases e:i=k
 ·subst e; rw[if_pos rfl,if_pos hi,if_pos rfl]; rfl
 ·rw[if_neg e,if_neg e,List.getD_eq_getElem?_getD]
theorem gD_at {h:List R} {i:Nat} (hi:i<h.length):h.getD i d=h[i]:=by
 rw[List.getD_eq_getElem?_getD,List.getElem?_eq_getElem hi]; rfl
def sw (h:List R) (i j:Nat):List R:=(h.set i (h.getD j d)).set j (h.getD i d)
theorem sw_len (h:List R) (i j:Nat):(sw d h i j).length=h.length:=by unfold sw; simp
theorem sw_at {h:List R} {i j k:Nat} (hi:i<h.length) (hj:j<h.length):(sw d h i j).getD k d=if k=j then h.getD i d else if k=i then h.getD j d else h.getD k d:=by
 unfold sw;rw[gD_set d (by simpa using hj),gD_set d hi];by_cases e:j=k
 ·rw[if_pos e,if_pos e.symm]
 ·rw[if_neg e,if_neg (Ne.symm e)];by_cases f:i=k
  ·rw[if_pos f,if_pos f.symm]
  ·rw[if_neg f,if_neg (Ne.symm f)]
theorem sw_perm {h:List R} {i j:Nat} (hi:i<h.length) (hj:j<h.length):(sw d h i j).Perm h:=by
 unfold sw;rw[gD_at d hi,gD_at d hj];exact List.set_set_perm hi hj
def par (k:Nat):Nat:=(k-1) / 2
theorem w64_n {n:Int} (h : -1000000000000≤n∧n≤1000000000000):w64 n=n:=w64_id ⟨by omega,by omega⟩
variable {d} {less:Int→Int→List R→Option Bool} {swap:Int→Int→List R→Option (List R)} {PG le:R→R→Prop}
structure HpOk (d:R) (less:Int→Int→List R→Option Bool) (swap:Int→Int→List R→Option (List R)) (PG le:R→R→Prop):Prop where
  sym:∀ a b,PG a b→PG b a
  trans:∀ a b c,le a b→le b c→le a c
  less:∀ (h:List R) (i j:Nat),i<h.length→j<h.length→PG (h.getD i d) (h.getD j d)→∃ b,less (i:Int) (j:Int) h=some b∧(b=true→le (h.getD i d) (h.getD j d))∧(b=false→le (h.getD j d) (h.getD i d))
  swap:∀ (h:List R) (i j:Nat),i<h.length→j<h.length→swap (i:Int) (j:Int) h=some (sw d h i j)
def PW (d:R) (PG:R→R→Prop) (n:Nat) (h:List R):Prop:=∀ i j,i<n→j<n→i≠j→PG (h.getD i d) (h.getD j d)
def Heap (d:R) (le:R→R→Prop) (n:Nat) (h:List R):Prop:=∀ k,0<k→k<n→le (h.getD (par k) d) (h.getD k d)
theorem PW_sw {n:Nat} {h:List R} (hn:n≤h.length) (hp:PW d PG n h) {i j:Nat} (hi:i<n) (hj:j<n):PW d PG n (sw d h i j):=fun a b ha hb hab=>by
 rw[sw_at d (by omega) (by omega),sw_at d (by omega) (by omega)];split <;> split <;> (try split) <;> (try split) <;> first|omega|(apply hp <;> omega)|(subst_vars; exact absurd rfl hab)
def upR (less:Int→Int→List R→Option Bool) (swap:Int→Int→List R→Option (List R)) (s2:Int × List R):Option (Lp (Int × List R) (List R)):=
 bnd (if (w64 (quo (w64 (s2.1-1)) 1))=s2.1 then
 some true
else
 bnd (less s2.1 (w64 (quo (w64 (s2.1-1)) 1)) s2.2) fun x12=>
 some (!x12):Option Bool) fun t10=>
 if t10=true then
 some (Lp.done s2.2)
else
 bnd (swap (w64 (quo (w64 (s2.1-1)) 1)) s2.1 s2.2) fun x14=>
 some (Lp.next (w64 (quo (w64 (s2.1-1)) 1),x14))
theorem quo_par {j:Nat} (hj:0<j) (hb:j≤1000000):w64 (quo (w64 ((j:Int)-1)) 1)=((par j:Nat):Int):=by
 have:quo ((j:Int)-1) 1=((j:Int)-1) / 2:=Int.tdiv_eq_ediv_of_nonneg (by omega);rw[w64_n (n:=(j:Int)-1) ⟨by omega,by omega⟩,this,w64_n ⟨by omega,by omega⟩];unfold par; omega
theorem quo_par0:w64 (quo (w64 (((0:Nat):Int)-1)) 1)=0:=by decide
theorem up_ok (H:HpOk d less swap PG le):∀ (n j:Nat) (h:List R),j≤n→j<h.length→h.length≤1000000→PW d PG h.length h →
 (∀ k,0<k→k<h.length→k≠j→le (h.getD (par k) d) (h.getD k d))→(0<j→∀ k,0<k→k<h.length→par k=j→le (h.getD (par j) d) (h.getD k d)) →
 ∃ h',loop (upR less swap) ((j:Int),h)=some h'∧h'.Perm h∧Heap d le h'.length h':=by
 intro n
 induction n with
 | zero=>
  intro j h hj hl hb hp h1 h2;obtain rfl:j=0:=by omega
  refine⟨h,loop_done ?_,List.Perm.refl _,fun k k0 kl=>h1 k k0 kl (by omega)⟩;unfold upR;dsimp only;rw[quo_par0,if_pos (show (0:Int)=((0:Nat):Int) from rfl),bnd_some',if_pos rfl]
 | succ n ih=>
  intro j h hj hl hb hp h1 h2;by_cases j0:j=0
  ·subst j0;refine⟨h,loop_done ?_,List.Perm.refl _,fun k k0 kl=>h1 k k0 kl (by omega)⟩;unfold upR;dsimp only;rw[quo_par0,if_pos (show (0:Int)=((0:Nat):Int) from rfl),bnd_some',if_pos rfl]
  ·have hq:=quo_par (j:=j) (by omega) (by omega);have hpl:par j<j:=by unfold par; omega
   obtain⟨b,e1,e2,e3⟩:=H.less h j (par j) hl (by omega) (hp _ _ hl (by omega) (by omega));cases b with
   | false=>
    refine⟨h,loop_done ?_,List.Perm.refl _,fun k k0 kl=>?_⟩
    ·unfold upR;dsimp only;rw[hq,if_neg (by omega),e1,bnd_some',bnd_some',if_pos (by decide)]
    ·by_cases e:k=j
     ·subst e; exact e3 rfl
     ·exact h1 k k0 kl e
   | true=>
    have hstep:upR less swap ((j:Int),h)=some (.next (((par j:Nat):Int),sw d h (par j) j)):=by
     unfold upR;dsimp only;rw[hq,if_neg (by omega),e1,bnd_some',bnd_some',if_neg (by decide),H.swap h (par j) j (by omega) hl,bnd_some']
    have hat:∀ k,(sw d h (par j) j).getD k d=if k=j then h.getD (par j) d else if k=par j then h.getD j d else h.getD k d:=fun k=>sw_at d (by omega) hl;obtain⟨h',g1,g2,g3⟩:=ih (par j) (sw d h (par j) j) (by omega) (by rw[sw_len]; omega) (by rw[sw_len]; exact hb) (by rw[sw_len]; exact PW_sw (Nat.le_refl _) hp (by omega) hl) (fun k k0 kl kp=>by
     rw[sw_len] at kl;rw[hat,hat];by_cases a:k=j
     ·subst a;rw[if_neg (by omega),if_pos rfl,if_pos rfl]; exact e2 rfl
     ·rw[if_neg a,if_neg kp];by_cases b:par k=j
      ·rw[if_pos b]; exact h2 (by omega) k k0 kl b
      ·rw[if_neg b];by_cases c:par k=par j
       ·rw[if_pos c];have:=h1 k k0 kl a;rw[c] at this;exact H.trans _ _ _ (e2 rfl) this
       ·rw[if_neg c]; exact h1 k k0 kl a) (fun p0 k k0 kl kp=>by
     rw[sw_len] at kl;have hpp:par (par j)<par j:=by unfold par at *; omega
     rw[hat,hat,if_neg (by omega),if_neg (by omega)];have hP:=h1 (par j) p0 (by omega) (by omega);by_cases a:k=j
     ·rw[if_pos a]; exact hP
     ·rw[if_neg a,if_neg (by intro e; rw[e] at kp; omega)];have:=h1 k k0 kl a;rw[kp] at this;exact H.trans _ _ _ hP this)
    exact⟨h',loop_next hstep g1,g2.trans (sw_perm d (by omega) hl),g3⟩
def downR (less:Int→Int→List R→Option Bool) (swap:Int→Int→List R→Option (List R)) (a1:Int) (s2:Int × List R):Option (Lp (Int × List R) (Int × List R)):=
 bnd (if (w64 ((w64 (2*s2.1))+1))≥a1 then
 some true
else
 some (decide ((w64 ((w64 (2*s2.1))+1))<0)):Option Bool) fun t10=>
 if t10=true then
 some (Lp.done (s2.1,s2.2))
else
 bnd (if (w64 ((w64 ((w64 (2*s2.1))+1))+1))<a1 then
 bnd (less (w64 ((w64 ((w64 (2*s2.1))+1))+1)) (w64 ((w64 (2*s2.1))+1)) s2.2) fun x15=>
 some x15
else
 some false:Option Bool) fun t13=>
 bnd (if t13=true then
 some (w64 ((w64 ((w64 (2*s2.1))+1))+1))
else
 some (w64 ((w64 (2*s2.1))+1)):Option Int) fun t16=>
 bnd (less t16 s2.1 s2.2) fun x18=>
 if x18=true then
 bnd (swap s2.1 t16 s2.2) fun x20=>
 some (Lp.next (t16,x20))
else
 some (Lp.done (s2.1,s2.2))
theorem down_ok (H : HpOk d less swap PG le) (n : Nat) : ∀ (m i : Nat) (h : List R), n ≤ i + m → n ≤ h.length → i < h.length → h.length ≤ 1000000 → PW d PG n h →
    (∀ k, 0 < k → k < n → par k ≠ i → le (h.getD (par k) d) (h.getD k d)) → (0 < i → ∀ k, 0 < k → k < n → par k = i → le (h.getD (par i) d) (h.getD k d)) →
    ∃ (i' : Nat) (h' : List R), loop (downR less swap (n : Int)) ((i : Int), h) = some ((i' : Int), h') ∧ h'.Perm h ∧ (∀ k, n ≤ k → h'.getD k d = h.getD k d) ∧ Heap d le n h' := by
  intro m
  induction m with
  | zero =>
    intro i h hm hn hi hb hp h1 h2
    refine ⟨i, h, loop_done ?_, List.Perm.refl _, fun _ _ => rfl, fun k k0 kl => h1 k k0 kl (by unfold par; omega)⟩
    unfold downR
    dsimp only
    rw [w64_n (n := 2 * (i : Int)) ⟨by omega, by omega⟩, w64_n (n := 2 * (i : Int) + 1) ⟨by omega, by omega⟩, if_pos (by omega), bnd_some', if_pos rfl]
  | succ m ih =>
    intro i h hm hn hi hb hp h1 h2
    have e1 : w64 (2 * (i : Int)) = 2 * (i : Int) := w64_n ⟨by omega, by omega⟩
    have e2 : w64 (2 * (i : Int) + 1) = ((2 * i + 1 : Nat) : Int) := by rw [w64_n ⟨by omega, by omega⟩]; omega
    have e3 : w64 (((2 * i + 1 : Nat) : Int) + 1) = ((2 * i + 2 : Nat) : Int) := by rw [w64_n ⟨by omega, by omega⟩]; omega
    by_cases c : 2 * i + 1 < n
    ·
      obtain ⟨c', hc, hcn, hpc, hmin, hpick⟩ : ∃ c' : Nat, (c' = 2 * i + 1 ∨ c' = 2 * i + 2) ∧ c' < n ∧ par c' = i ∧ (∀ k, 0 < k → k < n → par k = i → k ≠ c' → le (h.getD c' d) (h.getD k d)) ∧
          (bnd (if ((2 * i + 2 : Nat) : Int) < (n : Int) then bnd (less ((2 * i + 2 : Nat) : Int) ((2 * i + 1 : Nat) : Int) h) fun x15 => some x15 else some false : Option Bool) fun t13 => (if t13 = true then some ((2 * i + 2 : Nat) : Int) else some ((2 * i + 1 : Nat) : Int) : Option Int)) = some (c' : Int) := by
        by_cases c2 : 2 * i + 2 < n
        · obtain ⟨b, f1, f2, f3⟩ := H.less h (2 * i + 2) (2 * i + 1) (by omega) (by omega) (hp _ _ c2 c (by omega))
          cases b with
          | true =>
            refine ⟨2 * i + 2, .inr rfl, c2, by unfold par; omega, fun k k0 kl kp kc => ?_, ?_⟩
            · have : k = 2 * i + 1 := by unfold par at kp; omega
              subst this; exact f2 rfl
            · rw [if_pos (by omega), f1, bnd_some', bnd_some', if_pos rfl]
          | false =>
            refine ⟨2 * i + 1, .inl rfl, c, by unfold par; omega, fun k k0 kl kp kc => ?_, ?_⟩
            · have : k = 2 * i + 2 := by unfold par at kp; omega
              subst this; exact f3 rfl
            · rw [if_pos (by omega), f1, bnd_some', bnd_some', if_neg (by decide)]
        · refine ⟨2 * i + 1, .inl rfl, c, by unfold par; omega, fun k k0 kl kp kc => ?_, ?_⟩
          · unfold par at kp; omega
          · rw [if_neg (by omega), bnd_some', if_neg (by decide)]
      obtain ⟨b, f1, f2, f3⟩ := H.less h c' i (by omega) (by omega) (hp _ _ hcn (by omega) (by omega))
      have hbody : downR less swap (n : Int) ((i : Int), h) = if b = true then some (.next ((c' : Int), sw d h i c')) else some (.done ((i : Int), h)) := by
        unfold downR
        dsimp only
        rw [e1, e2, e3, if_neg (by omega), bnd_some', decide_eq_false (by omega), if_neg (by decide)]
        cases hx : (if ((2 * i + 2 : Nat) : Int) < (n : Int) then bnd (less ((2 * i + 2 : Nat) : Int) ((2 * i + 1 : Nat) : Int) h) fun x15 => some x15 else some false : Option Bool) with
        | none => rw [hx] at hpick; cases hpick
        | some t =>
          rw [hx, bnd_some'] at hpick
          rw [bnd_some', hpick, bnd_some', f1, bnd_some']
          cases b with
          | true => rw [if_pos rfl, if_pos rfl, H.swap h i c' (by omega) (by omega), bnd_some']
          | false => rw [if_neg (by decide), if_neg (by decide)]
      cases b with
      | false =>
        rw [if_neg (by decide)] at hbody
        refine ⟨i, h, loop_done hbody, List.Perm.refl _, fun _ _ => rfl, fun k k0 kl => ?_⟩
        by_cases e : par k = i
        · rw [e]
          by_cases e' : k = c'
          · subst e'; exact f3 rfl
          · exact H.trans _ _ _ (f3 rfl) (hmin k k0 kl e e')
        · exact h1 k k0 kl e
      | true =>
        rw [if_pos rfl] at hbody
        have hat : ∀ k, (sw d h i c').getD k d = if k = c' then h.getD i d else if k = i then h.getD c' d else h.getD k d := fun k => sw_at d (by omega) (by omega)
        obtain ⟨i', h', g1, g2, g3, g4⟩ := ih c' (sw d h i c') (by omega) (by rw [sw_len]; exact hn) (by rw [sw_len]; omega) (by rw [sw_len]; exact hb) (PW_sw hn hp (by omega) hcn) (fun k k0 kl kp => by
          rw [hat, hat, if_neg kp]
          by_cases a : k = c'
          · subst a
            rw [hpc, if_pos rfl, if_pos rfl]; exact f2 rfl
          · rw [if_neg a]
            by_cases b : par k = i
            · rw [if_pos b, if_neg (by unfold par at b; omega)]
              exact hmin k k0 kl b a
            · rw [if_neg b]
              by_cases e : k = i
              · subst e
                rw [if_pos rfl]; exact h2 k0 c' (by omega) hcn hpc
              · rw [if_neg e]; exact h1 k k0 kl b) (fun c0 k k0 kl kp => by
          rw [hat, hat, hpc, if_neg (by omega), if_pos rfl, if_neg (by unfold par at kp; omega), if_neg (by unfold par at kp; omega)]
          have := h1 k k0 kl (by omega)
          rw [kp] at this; exact this)
        refine ⟨i', h', loop_next hbody g1, g2.trans (sw_perm d (by omega) (by omega)), fun k kn => ?_, g4⟩
        rw [g3 k kn, hat, if_neg (by omega), if_neg (by omega)]
    · refine ⟨i, h, loop_done ?_, List.Perm.refl _, fun _ _ => rfl, fun k k0 kl => h1 k k0 kl (by unfold par; omega)⟩
      unfold downR
      dsimp only
      rw [e1, e2, if_pos (by omega), bnd_some', if_pos rfl]
theorem heap_min (tr:∀ a b c,le a b→le b c→le a c) (rf:∀ a,le a a) {n:Nat} {h:List R} (hh:Heap d le n h):∀ k,k<n→le (h.getD 0 d) (h.getD k d):=by
 intro k
 induction k using Nat.strongRecOn with
 | _ k ih=>
  intro hk;by_cases k0:k=0
  ·subst k0; exact rf _
  ·exact tr _ _ _ (ih (par k) (by unfold par; omega) (by unfold par; omega)) (hh k (by omega) hk)
end
section
variable {R T:Type} {d:R} {less:Int→Int→List R→Option Bool} {swap:Int→Int→List R→Option (List R)} {leT:T→T→Prop} {rest:R→List T} {which:R→Int} {mk:List T→Int→R} {z:T} {L:List (List T)}
def RV (rest:R→List T) (which:R→Int) (L:List (List T)) (a:R):Prop:=0≤which a∧which a<(L.length:Int)∧∀ x∈rest a,x∈L.getD (which a).toNat []
def RG (rest:R→List T) (which:R→Int) (L:List (List T)) (a b:R):Prop:=rest a≠[]∧rest b≠[]∧which a≠which b∧RV rest which L a∧RV rest which L b
def RL (rest:R→List T) (z:T) (leT:T→T→Prop) (a b:R):Prop:=leT ((rest a).headD z) ((rest b).headD z)
structure MgOk (d:R) (less:Int→Int→List R→Option Bool) (swap:Int→Int→List R→Option (List R)) (leT:T→T→Prop) (rest:R→List T) (which:R→Int) (mk:List T→Int→R) (z:T) (L:List (List T))
    (push:R→List R→Option (List R)) (pop:List R→Option (R × List R)) (fix:List R→Option (List R)):Prop where
  hp:HpOk d less swap (RG rest which L) (RL rest z leT)
  refl:∀ x,leT x x
  trans:∀ x y w,leT x y→leT y w→leT x w
  mk1:∀ l w,rest (mk l w)=l
  mk2:∀ l w,which (mk l w)=w
  push:∀ x h,h.length≤100000→push x h=loop (upR less swap) ((h.length:Int),h++[x])
  pop:∀ (h:List R) (i':Int) (h':List R),0<h.length→h.length≤100000→h'.length=h.length→loop (downR less swap ((h.length-1:Nat):Int)) (0,sw d h 0 (h.length-1))=some (i',h')→∃ y,pop h=some (y,h'.take (h.length-1))
  fix:∀ (h:List R) (i':Int) (h':List R),0<h.length→h.length≤100000→loop (downR less swap (h.length:Int)) (0,h)=some (i',h')→loop (upR less swap) (0,h')=some h'→fix h=some h'
def HI (d:R) (rest:R→List T) (which:R→Int) (z:T) (leT:T→T→Prop) (L:List (List T)) (h:List R):Prop:=
 Heap d (RL rest z leT) h.length h∧(∀ a∈h,rest a≠[]∧RV rest which L a∧(rest a).Pairwise leT)∧(h.map which).Nodup
theorem HI_pw {h:List R} (hi:(∀ a∈h,rest a≠[]∧RV rest which L a∧(rest a).Pairwise leT)∧(h.map which).Nodup):PW d (RG rest which L) h.length h:=fun i j hi' hj hij=>by
 rw[gD_at d hi',gD_at d hj];obtain⟨a1,a2,_⟩:=hi.1 _ (List.getElem_mem hi');obtain⟨b1,b2,_⟩:=hi.1 _ (List.getElem_mem hj);refine⟨a1,b1,fun e=>?_,a2,b2⟩;have hn:=List.pairwise_iff_getElem.1 hi.2;rcases Nat.lt_or_gt_of_ne hij with c|c
 ·exact hn i j (by simpa using hi') (by simpa using hj) c (by simpa using e)
 ·exact hn j i (by simpa using hj) (by simpa using hi') c (by simpa using e.symm)
theorem HI_perm {h h':List R} (hp:h'.Perm h) (hi:(∀ a∈h,rest a≠[]∧RV rest which L a∧(rest a).Pairwise leT)∧(h.map which).Nodup):(∀ a∈h',rest a≠[]∧RV rest which L a∧(rest a).Pairwise leT)∧(h'.map which).Nodup:=
 ⟨fun a ha=>hi.1 a (hp.mem_iff.1 ha),(hp.map which).nodup_iff.2 hi.2⟩
theorem up0 (less:Int→Int→List R→Option Bool) (swap:Int→Int→List R→Option (List R)) (h:List R):loop (upR less swap) (0,h)=some h:=by
 refine loop_done ?_;have e:w64 (quo (w64 ((0:Int)-1)) 1)=0:=by decide
 unfold upR;dsimp only;rw[e,if_pos rfl,bnd_some',if_pos rfl]
theorem first_ok {push:R→List R→Option (List R)} {pop:List R→Option (R × List R)} {fix:List R→Option (List R)} (M:MgOk d less swap leT rest which mk z L push pop fix) (hL:L.length≤100000) (hs:∀ r∈L,r.Pairwise leT) {most:Int} (hm:most=(L.flatten.length:Int)) (ht:L.flatten.length≤100000) (by_:Nat) (hby:by_≤1000)
 {f1:Int × List R→Option (Lp (Int × List R) (List R))} {f2:List T × List R→Option (Lp (List T × List R) (List T))}
 (hf1:∀ s,f1 s=if s.1<(L.length:Int) then
  bnd (idx L s.1) fun x14=>
  bnd (if (x14.length:Int)>0 then
   bnd (push (mk x14 s.1) s.2) fun x18=>
   some x18
  else
   some s.2:Option (List R)) fun t15=>
  some (Lp.next (w64 (s.1+1),t15))
 else
  some (Lp.done s.2))
 (hf2:∀ s,f2 s=bnd (bnd (some (s.2.length:Int)) fun x33=>
  if x33>0 then
   some (decide ((s.1.length:Int)<most))
  else
   some false:Option Bool) fun t32=>
  if t32=true then
   bnd (idx s.2 0) fun x36=>
   bnd (idx (rest x36) 0) fun x37=>
   bnd (app by_ s.1 [x37]) fun x38=>
   bnd (cut (rest x36) 1 ((rest x36).length:Int)) fun x40=>
   bnd (idx (s.2.set (0:Int).toNat (mk x40 (which x36))) 0) fun x41=>
   if ((rest x41).length:Int)=0 then
    bnd (pop (s.2.set (0:Int).toNat (mk x40 (which x36)))) fun x43=>
    some (Lp.next (x38,x43.2))
   else
    bnd (fix (s.2.set (0:Int).toNat (mk x40 (which x36)))) fun x45=>
    some (Lp.next (x38,x45))
  else
   some (Lp.done s.1)) :
 ∃ h out,loop f1 (0,[])=some h∧loop f2 ([],h)=some out∧out.Pairwise leT∧out.Perm L.flatten:=by
 have hlen:∀ h:List R,(∀ a∈h,rest a≠[])→h.length≤(h.flatMap rest).length:=by
  intro h
  induction h with
  | nil=>simp
  | cons a h ih=>
   intro hh;have:=ih (fun b hb=>hh b (List.mem_cons_of_mem _ hb));have ha:=List.length_pos_iff.2 (hh a List.mem_cons_self);rw[List.flatMap_cons,List.length_append,List.length_cons]; omega
 obtain⟨h,e1,hI,hP⟩:∃ h,loop f1 (0,[])=some h∧HI d rest which z leT L h∧(h.flatMap rest).Perm L.flatten:=by
  obtain⟨h,e1,e2⟩:=loop_for (f:=f1) (σ:=List R) (fun i s=>(i,s)) L (fun pre s=>HI d rest which z leT L s∧(∀ a∈s,which a<(pre.length:Int))∧(s.flatMap rest).Perm pre.flatten) (fun t=>HI d rest which z leT L t∧(t.flatMap rest).Perm L.flatten)
   (fun pre x suf s hl hi=>by
    obtain⟨⟨i1,i2,i3⟩,i4,i5⟩:=hi;have hpl:pre.length<L.length:=by rw[hl]; simp
    have hsl:s.length≤100000:=by
     have h1:=hlen s (fun a ha=>(i2 a ha).1);have h2:=i5.length_eq;have h3:pre.flatten.length≤L.flatten.length:=by rw[hl]; simp
     omega
    rw[hf1];dsimp only;rw[if_pos (by omega),show idx L (pre.length:Int)=some x by rw[hl]; exact idx_at pre x suf,bnd_some'];by_cases hx:x=[]
    ·subst hx;rw[if_neg (show ¬ (([]:List T).length:Int)>0 by simp),bnd_some',w64_n ⟨by omega,by omega⟩];refine .inl ⟨s,rfl,⟨i1,i2,i3⟩,fun a ha=>?_,by simpa using i5⟩;have:=i4 a ha;rw[List.length_append]; simp; omega
    ·have hxl:=List.length_pos_iff.2 hx;have hnew:(∀ a∈s++[mk x (pre.length:Int)],rest a≠[]∧RV rest which L a∧(rest a).Pairwise leT)∧((s++[mk x (pre.length:Int)]).map which).Nodup:=by
      refine⟨fun a ha=>?_,?_⟩
      ·rcases List.mem_append.1 ha with ha|ha
       ·exact i2 a ha
       ·obtain rfl:=List.mem_singleton.1 ha;rw[M.mk1];refine⟨hx,⟨by rw[M.mk2]; omega,by rw[M.mk2]; omega,fun y hy=>?_⟩,hs x (by rw[hl]; simp)⟩;rw[M.mk1] at hy;rw[M.mk2,Int.toNat_natCast,hl,List.getD_eq_getElem?_getD,List.getElem?_append_right (Nat.le_refl _),Nat.sub_self];exact hy
      ·rw[List.map_append,List.map_singleton,List.nodup_append];refine⟨i3,by simp,fun a ha b hb=>?_⟩;obtain⟨c,hc,rfl⟩:=List.mem_map.1 ha;obtain rfl:=List.mem_singleton.1 hb;rw[M.mk2];have:=i4 c hc;omega
     obtain⟨h',g1,g2,g3⟩:=up_ok M.hp s.length s.length (s++[mk x (pre.length:Int)]) (Nat.le_refl _) (by simp) (by simp; omega) (HI_pw hnew) (fun k k0 kl kn=>by
      have kl':k<s.length:=by simp at kl; omega
      have:=i1 k k0 kl';rw[gD_at d kl',gD_at d (show par k<s.length by unfold par; omega)] at this;rw[gD_at d kl,gD_at d (show par k<(s++[mk x (pre.length:Int)]).length by unfold par; simp; omega),List.getElem_append_left kl',List.getElem_append_left];exact this) (fun s0 k k0 kl kp=>by unfold par at kp; simp at kl; omega)
     rw[if_pos (by omega),M.push _ _ hsl,g1,bnd_some',bnd_some',w64_n ⟨by omega,by omega⟩];have g4:=HI_perm g2 hnew;refine .inl ⟨h',rfl,⟨g3,g4.1,g4.2⟩,fun a ha=>?_,?_⟩
     ·rcases List.mem_append.1 (g2.mem_iff.1 ha) with ha|ha
      ·have:=i4 a ha;rw[List.length_append]; simp; omega
      ·obtain rfl:=List.mem_singleton.1 ha;rw[M.mk2,List.length_append]; simp; omega
     ·refine (g2.flatMap_right rest).trans ?_;rw[List.flatMap_append,List.flatten_append];simp only[List.flatMap_cons,List.flatMap_nil,List.append_nil,M.mk1,List.flatten_cons,List.flatten_nil];exact i5.append_right x)
   (fun s hi=>by
    rw[hf1];dsimp only;rw[if_neg (by omega)];exact⟨s,rfl,hi.1,hi.2.2⟩) (s0:=[]) ⟨⟨fun k k0 kl=>by simp at kl,by simp,by simp⟩,by simp,by simp⟩
  exact⟨h,e1,e2⟩
 obtain⟨out,e2,e3⟩:=loop_ind (f:=f2) (fun s=>HI d rest which z leT L s.2∧(s.1++s.2.flatMap rest).Perm L.flatten∧s.1.Pairwise leT∧∀ x∈s.1,∀ y∈s.2.flatMap rest,leT x y) (fun s=>(s.2.flatMap rest).length) (fun out=>out.Pairwise leT∧out.Perm L.flatten)
  (fun s hi=>by
   obtain⟨out,h⟩:=s;obtain⟨⟨i1,i2,i3⟩,i4,i5,i6⟩:=hi;dsimp only at i1 i2 i3 i4 i5 i6 ⊢;rw[hf2];dsimp only;rw[bnd_some'];have hpl:=i4.length_eq;rw[List.length_append] at hpl;cases h with
   | nil=>
    refine .inr ⟨out,?_,i5,by simpa using i4⟩;rw[if_neg (by simp),bnd_some',if_neg (by decide)]
   | cons a t=>
    obtain⟨a1,a2,a3⟩:=i2 a List.mem_cons_self;cases hr:rest a with
    | nil=>exact absurd hr a1
    | cons x xs=>
     have hfl:(a::t).flatMap rest=x::(xs++t.flatMap rest):=by rw[List.flatMap_cons,hr]; rfl
     have hll:(a::t).length≤100000:=by
      have:=hlen (a::t) (fun b hb=>(i2 b hb).1);omega
     have hfl2:((a::t).flatMap rest).length=1+xs.length+(t.flatMap rest).length:=by rw[hfl]; simp; omega
     have hset:(a::t).set (0:Int).toNat (mk xs (which a))=mk xs (which a)::t:=rfl;have hcut:cut (rest a) 1 ((rest a).length:Int)=some xs:=by
      rw[hr,cut_of ⟨by omega,by simp; omega,by omega⟩];simp only[Int.toNat_natCast,List.take_length];rfl
     rw[if_pos (by simp),bnd_some',decide_eq_true (by rw[hm]; omega),if_pos rfl,show idx (a::t) 0=some a from rfl,bnd_some',show idx (rest a) 0=some x by rw[hr]; rfl,bnd_some',
      app_of (by simp; have:(out.length+1)*(by_+1)≤100001*1001:=Nat.mul_le_mul (by omega) (by omega); omega),bnd_some',hcut,bnd_some',hset,show idx (mk xs (which a)::t) 0=some (mk xs (which a)) from rfl,bnd_some',M.mk1]
     have hmin:∀ y∈xs++t.flatMap rest,leT x y:=fun y hy=>by
      rcases List.mem_append.1 hy with hy|hy
      ·rw[hr] at a3;exact (List.pairwise_cons.1 a3).1 y hy
      ·obtain⟨b,hb,hyb⟩:=List.mem_flatMap.1 hy;obtain⟨k,hk,rfl⟩:=List.mem_iff_getElem.1 hb;have h0:=heap_min M.hp.trans (fun a=>M.refl _) i1 (k+1) (by simpa using hk);rw[gD_at d (by simp),gD_at d (show k+1<(a::t).length by simpa using hk)] at h0;have h1:leT x ((rest t[k]).headD z):=by
        have:RL rest z leT a t[k]:=h0;unfold RL at this;rw[hr] at this; exact this
       obtain⟨b1,_,b3⟩:=i2 _ (List.mem_cons_of_mem a (List.getElem_mem hk));cases hrb:rest t[k] with
       | nil=>exact absurd hrb b1
       | cons u us=>
        rw[hrb] at h1 b3 hyb;rcases List.mem_cons.1 hyb with rfl|hyb
        ·exact h1
        ·exact M.trans _ _ _ h1 ((List.pairwise_cons.1 b3).1 y hyb)
     have hout:(out++[x]).Pairwise leT:=by
      rw[List.pairwise_append];exact⟨i5,by simp,fun u hu v hv=>by
       obtain rfl:=List.mem_singleton.1 hv;exact i6 u hu _ (by rw[hfl]; exact List.mem_cons_self)⟩
     have hthen:∀ h':List R,(h'.flatMap rest).Perm (xs++t.flatMap rest)→((out++[x])++h'.flatMap rest).Perm L.flatten∧(∀ u∈out++[x],∀ y∈h'.flatMap rest,leT u y):=fun h' hp=>by
      refine⟨?_,fun u hu y hy=>?_⟩
      ·rw[hfl] at i4;refine List.Perm.trans ?_ i4;rw[List.append_assoc];exact (hp.cons x).append_left out
      ·have hy':=hp.mem_iff.1 hy;rcases List.mem_append.1 hu with hu|hu
       ·exact i6 u hu y (by rw[hfl]; exact List.mem_cons_of_mem _ hy')
       ·obtain rfl:=List.mem_singleton.1 hu;exact hmin y hy'
     have htail:(∀ b∈t,rest b≠[]∧RV rest which L b∧(rest b).Pairwise leT)∧(t.map which).Nodup:=⟨fun b hb=>i2 b (List.mem_cons_of_mem _ hb),(List.nodup_cons.1 (by simpa using i3)).2⟩;have hat:∀ k,(mk xs (which a)::t).getD (k+1) d=(a::t).getD (k+1) d:=fun k=>rfl;by_cases hxs:xs=[]
     ·subst hxs;rw[if_pos (show (([]:List T).length:Int)=0 from rfl)];have hn:(mk [] (which a)::t).length-1=t.length:=by simp
      have hpt:PW d (RG rest which L) t.length (sw d (mk [] (which a)::t) 0 t.length):=fun i j hi hj hij=>by
       have hT:=HI_pw (d:=d) htail;have at1:∀ k,k<t.length→(sw d (mk [] (which a)::t) 0 t.length).getD k d=if k=0 then t.getD (t.length-1) d else t.getD (k-1) d:=fun k hk=>by
        rw[sw_at d (by simp) (by simp),if_neg (by omega)];by_cases k0:k=0
        ·rw[if_pos k0,if_pos k0];obtain⟨m,hm⟩:∃ m,t.length=m+1:=⟨t.length-1,by omega⟩;rw[hm]; rfl
        ·rw[if_neg k0,if_neg k0];obtain⟨m,hm⟩:∃ m,k=m+1:=⟨k-1,by omega⟩;rw[hm]; rfl
       rw[at1 i hi,at1 j hj];split <;> split <;> first|omega|(apply hT <;> omega)
      obtain⟨i',h',g1,g2,g3,g4⟩:=down_ok M.hp t.length t.length 0 (sw d (mk [] (which a)::t) 0 t.length) (by omega) (by rw[sw_len]; simp) (by rw[sw_len]; simp) (by rw[sw_len]; simp at hll ⊢; omega) hpt (fun k k0 kl kp=>by
       have at1:∀ k,0<k→k<t.length→(sw d (mk [] (which a)::t) 0 t.length).getD k d=(a::t).getD k d:=fun k k0 hk=>by
        rw[sw_at d (by simp) (by simp),if_neg (by omega),if_neg (by omega)];obtain⟨m,hm⟩:∃ m,k=m+1:=⟨k-1,by omega⟩;rw[hm]; rfl
       rw[at1 k k0 kl,at1 (par k) (by unfold par at *; omega) (by unfold par; omega)];exact i1 k k0 (by simp; omega)) (fun h0=>by omega)
      have hl':h'.length=t.length+1:=by rw[g2.length_eq,sw_len]; simp
      obtain⟨y,hy⟩:=M.pop (mk [] (which a)::t) i' h' (by simp) (by simpa using hll) (by simp[hl']) (by rw[hn]; exact g1);rw[hy,bnd_some'];dsimp only;rw[hn];have hlast:h'=h'.take t.length++[mk [] (which a)]:=by
       apply List.ext_getElem
       ·simp[hl']
       ·intro k h1 h2;by_cases c:k<t.length
        ·rw[List.getElem_append_left (by simp; omega),List.getElem_take]
        ·have hk:k=t.length:=by omega
         subst hk;rw[List.getElem_append_right (by rw[List.length_take]; omega)];have:=g3 t.length (Nat.le_refl _);rw[sw_at d (by simp) (by simp),if_pos rfl,gD_at d (by omega)] at this;simpa using this
      have hpm:(h'.take t.length).Perm t:=by
       have h1:(h'.take t.length++[mk [] (which a)]).Perm (t++[mk [] (which a)]):=by
        rw[← hlast];refine (g2.trans (sw_perm d (by simp) (by simp))).trans ?_;exact (List.perm_append_singleton _ _).symm
       exact (List.perm_append_right_iff _).1 h1
      have hnew:=HI_perm hpm htail;have hfm:=hpm.flatMap_right rest;refine .inl ⟨_,rfl,⟨⟨?_,hnew.1,hnew.2⟩,(hthen _ (by simpa using hfm)).1,hout,(hthen _ (by simpa using hfm)).2⟩,?_⟩
      ·intro k k0 kl;have kl':k<t.length:=by simp at kl; omega
       have:=g4 k k0 kl';have tk:∀ q,q<t.length→(h'.take t.length).getD q d=h'.getD q d:=fun q hq=>by
        rw[gD_at d (by simp; omega),gD_at d (by omega),List.getElem_take]
       rw[tk _ kl',tk _ (by unfold par; omega)];exact this
      ·show ((h'.take t.length).flatMap rest).length<((a::t).flatMap rest).length;rw[hfm.length_eq,hfl2,List.length_nil]; omega
     ·have hxl:=List.length_pos_iff.2 hxs;rw[if_neg (by omega)];have hnew:(∀ b∈mk xs (which a)::t,rest b≠[]∧RV rest which L b∧(rest b).Pairwise leT)∧((mk xs (which a)::t).map which).Nodup:=by
       refine⟨fun b hb=>?_,?_⟩
       ·rcases List.mem_cons.1 hb with rfl|hb
        ·rw[M.mk1];refine⟨hxs,⟨by rw[M.mk2]; exact a2.1,by rw[M.mk2]; exact a2.2.1,fun y hy=>?_⟩,?_⟩
         ·rw[M.mk1] at hy;rw[M.mk2];exact a2.2.2 y (by rw[hr]; exact List.mem_cons_of_mem _ hy)
         ·rw[hr] at a3; exact (List.pairwise_cons.1 a3).2
        ·exact htail.1 b hb
       ·rw[List.map_cons,M.mk2];simpa using i3
      obtain⟨i',h',g1,g2,g3,g4⟩:=down_ok M.hp (mk xs (which a)::t).length (mk xs (which a)::t).length 0 (mk xs (which a)::t) (by omega) (Nat.le_refl _) (by simp) (by simp at hll ⊢; omega) (HI_pw hnew) (fun k k0 kl kp=>by
       obtain⟨m,hm⟩:∃ m,k=m+1:=⟨k-1,by omega⟩;obtain⟨q,hq⟩:∃ q,par k=q+1:=⟨par k-1,by omega⟩;have:=i1 k k0 (by simpa using kl);rw[hq,hm] at this ⊢;exact this) (fun h0=>by omega)
      rw[M.fix (mk xs (which a)::t) i' h' (by simp) (by simpa using hll) g1 (up0 _ _ _),bnd_some'];have hnew':=HI_perm g2 hnew;have hfm:=g2.flatMap_right rest;have hfm2:(mk xs (which a)::t).flatMap rest=xs++t.flatMap rest:=by rw[List.flatMap_cons,M.mk1]
      rw[hfm2] at hfm;refine .inl ⟨_,rfl,⟨⟨?_,hnew'.1,hnew'.2⟩,(hthen _ hfm).1,hout,(hthen _ hfm).2⟩,?_⟩
      ·rw[g2.length_eq]; exact g4
      ·show (h'.flatMap rest).length<((a::t).flatMap rest).length;rw[hfm.length_eq,hfl2,List.length_append]; omega) (s:=([],h)) ⟨hI,by simpa using hP,List.Pairwise.nil,fun x hx=>by cases hx⟩
 exact⟨h,out,e1,e2,e3⟩
end
section
variable {T:Type}
theorem seg_snoc {l:List T} {p i:Nat} (hp:p≤i) (hi:i<l.length):(l.take (i+1)).drop p=(l.take i).drop p++[l[i]]:=by
 rw[List.take_succ_eq_append_getElem hi,List.drop_append_of_le_length (by rw[List.length_take]; omega)]
theorem runs_ok {leT:T→T→Prop} (tr:∀ x y w,leT x y→leT y w→leT x w) (rf:∀ x,leT x x) {cmp:T→T→Option Int} {clone:Int→Int→List T→Option (List T)} (l:List T) (hl:l.length≤100000) {C:T→T→Int} (hc:∀ x∈l,∀ y∈l,cmp x y=some (C x y)) (hC:∀ x y,leT x y↔C x y≤0)
 (hclone:∀ lo hi r,r.length≤100000→cut l lo hi=some r→clone lo hi r=some r) {f:Int × Int × List (List T)→Option (Lp (Int × Int × List (List T)) (List (List T)))}
 (hf:∀ s,f s=if s.2.1<(l.length:Int) then
  bnd (bnd (if (w64 (s.2.1+1))<(l.length:Int) then
   bnd (idx l s.2.1) fun x18=>
   bnd (idx l (w64 (s.2.1+1))) fun x19=>
   bnd (cmp x18 x19) fun x20=>
   some (decide (x20≤0))
  else
   some false:Option Bool) fun t15=>
  if t15=true then
   some (s.1,s.2.2)
  else
   bnd (cut l s.1 (w64 (s.2.1+1))) fun x22=>
   bnd (clone s.1 (w64 (s.2.1+1)) x22) fun x23=>
   bnd (app 24 s.2.2 [x23]) fun x25=>
   some (w64 (s.2.1+1),x25):Option (Int × (List (List T)))) fun t13=>
  some (Lp.next (t13.1,w64 (s.2.1+1),t13.2))
 else
  some (Lp.done s.2.2)) :
 ∃ L,loop f (0,0,[])=some L∧L.flatten=l∧(∀ r∈L,r≠[]∧r.Pairwise leT)∧L.length≤l.length∧(L.length≤1↔l.Pairwise leT):=by
 have key:∀ m i p (out:List (List T)),i+m=l.length→p≤i→out.length≤p→out.flatten=l.take p→(∀ r∈out,r≠[]∧r.Pairwise leT)→((l.take i).drop p).Pairwise leT→(∀ (h:i<l.length),p<i→leT l[i-1] l[i])→(i=l.length→p=l.length) →
  ((out=[]∧p=0)∨(p=l.length∧out.length=1)∨¬ l.Pairwise leT) →
  ∃ L,loop f ((p:Int),(i:Int),out)=some L∧L.flatten=l∧(∀ r∈L,r≠[]∧r.Pairwise leT)∧L.length≤l.length∧(L.length≤1↔l.Pairwise leT):=by
  intro m
  induction m with
  | zero=>
   intro i p out hm hp ho hfl hr hseg hlk hend hcase;have hi:i=l.length:=by omega
   have hpl:=hend hi;have hfl':out.flatten=l:=by rw[hfl,hpl,List.take_length]
   refine⟨out,loop_done (by rw[hf]; dsimp only; rw[if_neg (by omega)]),hfl',hr,by omega,fun h1=>?_,fun h1=>?_⟩
   ·match out,h1,hfl',hr with
    | [],_,h,_=>rw[← h]; simp
    | [r],_,h,hr=>rw[← h]; simpa using (hr r List.mem_cons_self).2
   ·rcases hcase with ⟨h,_⟩|⟨_,h⟩|h
    ·rw[h]; simp
    ·omega
    ·exact absurd h1 h
  | succ m ih=>
   intro i p out hm hp ho hfl hr hseg hlk hend hcase;have hi:i<l.length:=by omega
   have hw:w64 ((i:Int)+1)=((i+1:Nat):Int):=by rw[w64_n ⟨by omega,by omega⟩]; omega
   have hseg':((l.take (i+1)).drop p).Pairwise leT:=by
    rw[seg_snoc hp hi,List.pairwise_append];refine⟨hseg,by simp,fun x hx y hy=>?_⟩;obtain rfl:=List.mem_singleton.1 hy;by_cases hpi:p<i
    ·have h1:=hlk hi hpi;have hlast:(l.take i).drop p=(l.take (i-1)).drop p++[l[i-1]]:=by
      have:=seg_snoc (l:=l) (p:=p) (i:=i-1) (by omega) (by omega);rwa[show i-1+1=i by omega] at this
     rw[hlast] at hx hseg;rcases List.mem_append.1 hx with hx|hx
     ·exact tr _ _ _ ((List.pairwise_append.1 hseg).2.2 x hx _ List.mem_cons_self) h1
     ·obtain rfl:=List.mem_singleton.1 hx; exact h1
    ·have:(l.take i).drop p=[]:=List.drop_eq_nil_of_le (by rw[List.length_take]; omega);rw[this] at hx; cases hx
   have hcut:cut l (p:Int) ((i+1:Nat):Int)=some ((l.take (i+1)).drop p):=by
    rw[cut_of ⟨by omega,by omega,by omega⟩,Int.toNat_natCast,Int.toNat_natCast]
   have hlen:((l.take (i+1)).drop p).length=i+1-p:=by rw[List.length_drop,List.length_take,Nat.min_eq_left (by omega)]
   obtain⟨b,hb,hbt,hbf⟩:∃ b,(if ((i+1:Nat):Int)<(l.length:Int) then bnd (idx l (i:Int)) fun x18=>bnd (idx l ((i+1:Nat):Int)) fun x19=>bnd (cmp x18 x19) fun x20=>some (decide (x20≤0)) else some false:Option Bool)=some b∧(b=true→∃ h:i+1<l.length,leT l[i] l[i+1])∧(b=false→∀ h:i+1<l.length,¬ leT l[i] l[i+1]):=by
    by_cases c:i+1<l.length
    ·refine⟨decide (C l[i] l[i+1]≤0),?_,fun h=>⟨c,(hC _ _).2 (of_decide_eq_true h)⟩,fun h _ h2=>of_decide_eq_false h ((hC _ _).1 h2)⟩;rw[if_pos (by omega),idx_nat (List.getElem?_eq_getElem hi),bnd_some',idx_nat (List.getElem?_eq_getElem c),bnd_some',hc _ (List.getElem_mem hi) _ (List.getElem_mem c),bnd_some']
    ·exact⟨false,by rw[if_neg (by omega)],fun h=>(by cases h),fun _ h=>absurd h c⟩
   cases b with
   | true=>
    obtain⟨c,hle⟩:=hbt rfl;have hstep:f ((p:Int),(i:Int),out)=some (.next ((p:Int),((i+1:Nat):Int),out)):=by
     rw[hf]; dsimp only;rw[if_pos (by omega),hw,hb,bnd_some',if_pos rfl,bnd_some']
    obtain⟨L,g⟩:=ih (i+1) p out (by omega) (by omega) ho hfl hr hseg' (fun h _=>hle) (fun h=>by omega) hcase;exact⟨L,loop_next hstep g.1,g.2⟩
   | false=>
    have hstep:f ((p:Int),(i:Int),out)=some (.next (((i+1:Nat):Int),((i+1:Nat):Int),out++[(l.take (i+1)).drop p])):=by
     rw[hf]; dsimp only;rw[if_pos (by omega),hw,hb,bnd_some',if_neg (by decide),hcut,bnd_some',hclone _ _ _ (by omega) hcut,bnd_some',app_of (by simp; omega),bnd_some',bnd_some']
    obtain⟨L,g⟩:=ih (i+1) (i+1) (out++[(l.take (i+1)).drop p]) (by omega) (Nat.le_refl _) (by rw[List.length_append,List.length_singleton]; omega) (by
     rw[List.flatten_append,hfl];simp only[List.flatten_cons,List.flatten_nil,List.append_nil];have:l.take p=(l.take (i+1)).take p:=by rw[List.take_take,Nat.min_eq_left (by omega)]
     rw[this,List.take_append_drop]) (fun r hr'=>by
     rcases List.mem_append.1 hr' with h|h
     ·exact hr r h
     ·obtain rfl:=List.mem_singleton.1 h;exact⟨fun e=>by rw[e] at hlen; simp at hlen; omega,hseg'⟩) (by rw[List.drop_eq_nil_of_le (by rw[List.length_take]; omega)]; exact List.Pairwise.nil) (fun h h'=>by omega) (fun h=>by omega) (by
     by_cases c:i+1<l.length
     ·refine .inr (.inr fun hpw=>hbf rfl c ?_);exact List.pairwise_iff_getElem.1 hpw i (i+1) hi c (by omega)
     ·rcases hcase with ⟨h,h'⟩|⟨h,h'⟩|h
      ·exact .inr (.inl ⟨by omega,by rw[h]; rfl⟩)
      ·omega
      ·exact .inr (.inr h))
    exact⟨L,loop_next hstep g.1,g.2⟩
 have:=key l.length 0 0 [] (by omega) (Nat.le_refl _) (Nat.le_refl _) rfl (fun r hr=>by cases hr) (by simp) (fun h h'=>by omega) (fun h=>h) (.inl ⟨rfl,rfl⟩);exact this
theorem reps_le {eq:T→T→Prop} (sy:∀ a b,eq a b→eq b a) (tr:∀ a b c,eq a b→eq b c→eq a c):∀ (A B:List T),A.Pairwise (fun a b=>¬ eq a b)→(∀ a∈A,∃ b∈B,eq a b)→A.length≤B.length
 | [],B,_,_=>Nat.zero_le _
 | a::A,B,hA,h=>by
  obtain⟨b,hb,hab⟩:=h a List.mem_cons_self;obtain⟨B1,B2,rfl⟩:=List.append_of_mem hb;have:=reps_le sy tr A (B1++B2) (List.pairwise_cons.1 hA).2 (fun c hc=>by
   obtain⟨e,he,hce⟩:=h c (List.mem_cons_of_mem _ hc);rcases List.mem_append.1 he with he|he
   ·exact⟨e,List.mem_append_left _ he,hce⟩
   ·rcases List.mem_cons.1 he with rfl|he
    ·exact absurd (tr _ _ _ hab (sy _ _ hce)) ((List.pairwise_cons.1 hA).1 c hc)
    ·exact⟨e,List.mem_append_right _ he,hce⟩)
  simp at this ⊢; omega
def kF (eq:T→T→Bool):List T→List T→List T
| _,[]=>[]
| pre,x::suf=>if pre.any (eq x)=true then kF eq (pre++[x]) suf else x::kF eq (pre++[x]) suf
theorem kF_snoc (eq:T→T→Bool) (x:T):∀ (pre l:List T),kF eq pre (l++[x])=kF eq pre l++(if (pre++l).any (eq x)=true then [] else [x])
 | pre,[]=>by
  show (if _ then _ else _)=_;rw[List.append_nil];unfold kF;split <;> simp
 | pre,y::l=>by
  rw[List.cons_append,kF,kF,kF_snoc eq x (pre++[y]) l,List.append_assoc];split <;> simp
theorem kF_mem (eq:T→T→Bool):∀ (l pre:List T),∀ x∈kF eq pre l,x∈l
 | [],_,x,h=>by simp[kF] at h
 | y::l,pre,x,h=>by
  unfold kF at h;split at h
  ·exact List.mem_cons_of_mem _ (kF_mem eq l _ x h)
  ·rcases List.mem_cons.1 h with rfl|h
   ·exact List.mem_cons_self
   ·exact List.mem_cons_of_mem _ (kF_mem eq l _ x h)
theorem kF_apart (eq:T→T→Bool):∀ (l pre:List T),(kF eq pre l).Pairwise (fun a b=>¬ eq b a=true)∧∀ x∈kF eq pre l,∀ q∈pre,¬ eq x q=true
 | [],pre=>⟨by simp[kF],by simp[kF]⟩
 | y::l,pre=>by
  obtain⟨h1,h2⟩:=kF_apart eq l (pre++[y]);unfold kF;split
  ·exact⟨h1,fun x hx q hq=>h2 x hx q (List.mem_append_left _ hq)⟩
  ·rename_i c;refine⟨List.pairwise_cons.2 ⟨fun b hb=>h2 b hb y (by simp),h1⟩,fun x hx q hq=>?_⟩;rcases List.mem_cons.1 hx with rfl|hx
   ·intro e;exact c (List.any_eq_true.2 ⟨q,hq,e⟩)
   ·exact h2 x hx q (List.mem_append_left _ hq)
theorem kF_cover {eq:T→T→Bool} (rf:∀ a,eq a a=true) (tr:∀ a b c,eq a b=true→eq b c=true→eq a c=true):∀ (l pre:List T),∀ x∈l,(∃ q∈pre,eq x q=true)∨∃ b∈kF eq pre l,eq x b=true
 | [],_,x,h=>by cases h
 | y::l,pre,x,h=>by
  have base:(∃ q∈pre,eq y q=true)∨∃ b∈kF eq pre (y::l),eq y b=true:=by
   unfold kF;split
   ·rename_i c;obtain⟨q,hq,e⟩:=List.any_eq_true.1 c;exact .inl ⟨q,hq,e⟩
   ·exact .inr ⟨y,List.mem_cons_self,rf y⟩
  have sub:∀ b∈kF eq (pre++[y]) l,b∈kF eq pre (y::l):=fun b hb=>by
   unfold kF;split
   ·exact hb
   ·exact List.mem_cons_of_mem _ hb
  rcases List.mem_cons.1 h with rfl|h
  ·exact base
  ·rcases kF_cover rf tr l (pre++[y]) x h with ⟨q,hq,e⟩|⟨b,hb,e⟩
   ·rcases List.mem_append.1 hq with hq|hq
    ·exact .inl ⟨q,hq,e⟩
    ·obtain rfl:=List.mem_singleton.1 hq;rcases base with ⟨p,hp,e2⟩|⟨b,hb,e2⟩
     ·exact .inl ⟨p,hp,tr _ _ _ e e2⟩
     ·exact .inr ⟨b,hb,tr _ _ _ e e2⟩
   ·exact .inr ⟨b,sub b hb,e⟩
theorem kF_len {eq:T→T→Bool} (rf:∀ a,eq a a=true) (sy:∀ a b,eq a b=true→eq b a=true) (tr:∀ a b c,eq a b=true→eq b c=true→eq a c=true) {l:List T} {A:List T} (h1:A.Pairwise (fun a b=>¬ eq a b=true)) (h2:∀ a∈A,a∈l) (h3:∀ x∈l,∃ a∈A,eq x a=true):A.length=(kF eq [] l).length:=by
 have hk:(kF eq [] l).Pairwise (fun a b=>¬ eq a b=true):=(kF_apart eq l []).1.imp fun h e=>h (sy _ _ e);refine Nat.le_antisymm (reps_le (eq:=fun a b=>eq a b=true) sy tr _ _ h1 fun a ha=>?_) (reps_le (eq:=fun a b=>eq a b=true) sy tr _ _ hk fun a ha=>h3 a (kF_mem eq l [] a ha));rcases kF_cover rf tr l [] a (h2 a ha) with ⟨q,hq,_⟩|h
 ·cases hq
 ·exact h
theorem kF_le (eq:T→T→Bool) (l:List T):∀ pre,(kF eq pre l).length≤l.length:=by
 induction l with
 | nil=>intro pre; simp[kF]
 | cons x l ih=>
  intro pre;unfold kF;have:=ih (pre++[x]);split <;> simp <;> omega
def fst (eq:T→T→Bool) (z:T) (s:List T) (i:Nat):Bool:=i==0 || !(eq (s.getD i z) (s.getD (i-1) z))
def cnt (eq:T→T→Bool) (z:T) (s:List T) (m:Nat):Nat:=((List.range m).filter (fst eq z s)).length
theorem cnt_succ (eq:T→T→Bool) (z:T) (s:List T) (m:Nat):cnt eq z s (m+1)=cnt eq z s m+if fst eq z s m=true then 1 else 0:=by
 unfold cnt;rw[List.range_succ,List.filter_append,List.length_append];congr 1;rw[List.filter_cons];split <;> simp
theorem cnt_le (eq:T→T→Bool) (z:T) (s:List T) (m:Nat):cnt eq z s m≤m:=by
 have:=List.length_filter_le (fst eq z s) (List.range m);rwa[List.length_range] at this
theorem cnt_kinds {C:T→T→Int} (an:∀ a b,C a b = - C b a) (tr:∀ a b c,C a b≤0→C b c≤0→C a c≤0) (z:T) {s l:List T} (hp:s.Perm l) (hs:s.Pairwise (fun a b=>C a b≤0)):cnt (fun a b=>C a b==0) z s s.length=(kF (fun a b=>C a b==0) [] l).length:=by
 have rf:∀ a,(C a a==0)=true:=fun a=>by have:=an a a; simp; omega
 have sy:∀ a b,(C a b==0)=true→(C b a==0)=true:=fun a b h=>by have:=an a b; simp at h ⊢; omega
 have tr0:∀ a b c,(C a b==0)=true→(C b c==0)=true→(C a c==0)=true:=fun a b c h1 h2=>by
  simp at h1 h2 ⊢;have:=an a b; have:=an b c; have:=an a c;have:=tr a b c (by omega) (by omega);have:=tr c b a (by omega) (by omega);omega
 have hlt:∀ i j (hi:i<s.length) (hj:j<s.length),i≤j→C s[i] s[j]≤0:=fun i j hi hj hij=>by
  rcases Nat.lt_or_ge i j with c|c
  ·exact List.pairwise_iff_getElem.1 hs i j hi hj c
  ·obtain rfl:i=j:=by omega
   have:=an s[i] s[i]; omega
 have gd:∀ i (hi:i<s.length),s.getD i z=s[i]:=fun i hi=>gD_at z hi;have:cnt (fun a b=>C a b==0) z s s.length=(((List.range s.length).filter (fst (fun a b=>C a b==0) z s)).map fun i=>s.getD i z).length:=by rw[List.length_map]; rfl
 rw[this];refine kF_len rf sy tr0 ?_ (fun a ha=>?_) (fun x hx=>?_)
 ·rw[List.pairwise_map];have hsub:((List.range s.length).filter (fst (fun a b=>C a b==0) z s)).Pairwise (· < ·):=(List.pairwise_lt_range (n:=s.length)).sublist List.filter_sublist;refine List.Pairwise.imp_of_mem (fun {i j} hi hj hij=>?_) hsub;obtain⟨hi1,hi2⟩:=List.mem_filter.1 hi;obtain⟨hj1,hj2⟩:=List.mem_filter.1 hj;have hi1:=List.mem_range.1 hi1;have hj1:=List.mem_range.1 hj1;unfold fst at hj2;rw[gd j hj1,gd (j-1) (by omega)] at hj2;rw[gd i hi1,gd j hj1];have hj0:(j==0)=false:=beq_eq_false_iff_ne.2 (by omega);rw[hj0,Bool.false_or] at hj2;simp at hj2 ⊢;have a1:=hlt i (j-1) hi1 (by omega) (by omega);have a2:=hlt (j-1) j (by omega) hj1 (by omega);intro e;have:=an s[j] s[j-1];have:=an s[i] s[j];have:=tr s[j] s[i] s[j-1] (by omega) a1;omega
 ·obtain⟨i,hi,rfl⟩:=List.mem_map.1 ha;have:=List.mem_range.1 (List.mem_filter.1 hi).1;rw[gd i this];exact hp.mem_iff.1 (List.getElem_mem this)
 ·have hx':=hp.mem_iff.2 hx;obtain⟨i,hi,rfl⟩:=List.mem_iff_getElem.1 hx';clear hx hx'
  induction i with
  | zero=>exact⟨s[0],List.mem_map.2 ⟨0,List.mem_filter.2 ⟨List.mem_range.2 hi,rfl⟩,gd 0 hi⟩,rf _⟩
  | succ i ih=>
   by_cases c:fst (fun a b=>C a b==0) z s (i+1)=true
   ·exact⟨s[i+1],List.mem_map.2 ⟨i+1,List.mem_filter.2 ⟨List.mem_range.2 hi,c⟩,gd _ hi⟩,rf _⟩
   ·obtain⟨a,ha,e⟩:=ih (by omega);refine⟨a,ha,tr0 _ _ _ ?_ e⟩;unfold fst at c;rw[gd (i+1) hi,show i+1-1=i from rfl,gd i (by omega)] at c;simp at c ⊢;exact c
end
structure Cm {α:Type} (c:α→α→Int):Prop where
  an:∀ a b,c a b = - c b a
  tr:∀ a b d,c a b≤0→c b d≤0→c a d≤0
theorem less_as:∀ a b:List UInt8,Op.bytesLess a b=true→Op.bytesLess b a=false
 | [],[],h=>by cases h
 | [],_::_,_=>rfl
 | _::_,[],h=>by cases h
 | x::a,y::b,h=>by
  unfold Op.bytesLess at h ⊢;simp only[Bool.or_eq_true,decide_eq_true_eq,Bool.and_eq_true,beq_iff_eq,ult] at h;rw[Bool.eq_false_iff];simp only[ne_eq,Bool.or_eq_true,decide_eq_true_eq,Bool.and_eq_true,beq_iff_eq,ult];rintro (h2|⟨rfl,h2⟩)
  ·rcases h with h|⟨rfl,h⟩ <;> omega
  ·rcases h with h|⟨_,h⟩
   ·omega
   ·rw[less_as a b h] at h2; cases h2
theorem less_wk:∀ a b d:List UInt8,Op.bytesLess a d=true→Op.bytesLess a b=true∨Op.bytesLess b d=true
 | [],[],d,h=>.inr h
 | [],y::b,d,h=>.inl rfl
 | x::a,b,[],h=>by cases h
 | x::a,[],z::d,h=>.inr rfl
 | x::a,y::b,z::d,h=>by
  unfold Op.bytesLess at h ⊢;simp only[Bool.or_eq_true,decide_eq_true_eq,Bool.and_eq_true,beq_iff_eq,ult] at h ⊢;by_cases c:x.toNat<y.toNat
  ·exact .inl (.inl c)
  ·by_cases c2:y.toNat<z.toNat
   ·exact .inr (.inl c2)
   ·rcases h with h|⟨rfl,h⟩
    ·omega
    ·obtain rfl:x=y:=UInt8.toNat_inj.1 (by omega);rcases less_wk a b d h with h|h
     ·exact .inl (.inr ⟨rfl,h⟩)
     ·exact .inr (.inr ⟨rfl,h⟩)
theorem byW_le {a b:List UInt8}:byW a b≤0↔Op.bytesLess b a=false:=by
 unfold byW;by_cases h:Op.bytesLess a b=true
 ·rw[if_pos h,less_as a b h]; simp
 ·rw[if_neg h];cases hq:Op.bytesLess b a <;> simp
theorem byW_cm:Cm byW where
 an a b:=by
  unfold byW;by_cases h:Op.bytesLess a b=true
  ·rw[if_pos h,less_as a b h,if_neg (by simp),if_pos h]
  ·rw[if_neg h,if_neg h];split <;> rfl
 tr a b d h1 h2:=by
  rw[byW_le] at h1 h2 ⊢;cases hq:Op.bytesLess d a with
  | false=>rfl
  | true=>
   rcases less_wk d b a hq with h|h
   ·rw[h] at h2; cases h2
   ·rw[h] at h1; cases h1
theorem cmpT_bd (a b:List UInt8) : -1≤cmpT a b∧cmpT a b≤1:=by
 unfold cmpT byW
 repeat' split
 all_goals omega
theorem cmpT_cm:Cm cmpT where
 an a b:=by
  have h:=byW_cm.an a b;unfold cmpT;by_cases h1:(pz a).2=true <;> by_cases h2:(pz b).2=true
  ·rw[if_pos h1,if_pos h2,if_pos h2,if_pos h1]
   repeat' split
   all_goals omega
  ·rw[if_pos h1,if_neg h2,if_neg h2,if_pos h1]
  ·rw[if_neg h1,if_pos h2,if_pos h2,if_neg h1]; rfl
  ·rw[if_neg h1,if_neg h2,if_neg h2,if_neg h1]; exact h
 tr a b d:=by
  have h:=byW_cm.tr a b d;unfold cmpT;by_cases h1:(pz a).2=true <;> by_cases h2:(pz b).2=true <;> by_cases h3:(pz d).2=true <;> simp only[h1,h2,h3,if_true,if_false,Bool.false_eq_true]
  ·repeat' split
   all_goals omega
  ·intro _ _; omega
  ·intro _ _; omega
  ·intro _ _; omega
  ·intro _ _; omega
  ·intro _ _; omega
  ·intro _ _; omega
  ·exact h
def fl (b:Bool) (z:Int):Int:=if b=true then -z else z
def stK (t u:Int→List UInt8):List (Int × Bool)→Int
| []=>0
| k::ks=>if fl k.2 (cmpT (t k.1) (u k.1))=0 then stK t u ks else fl k.2 (cmpT (t k.1) (u k.1))
theorem fl_cm (b:Bool):Cm (fun x y=>fl b (cmpT x y)) where
 an x y:=by
  have:=cmpT_cm.an x y;cases b <;> simp only[fl,if_true,if_false,Bool.false_eq_true] <;> omega
 tr x y w:=by
  cases b
  ·exact cmpT_cm.tr x y w
  ·intro h1 h2;simp only[fl,if_true] at h1 h2 ⊢;have e1:=cmpT_cm.an x y;have e2:=cmpT_cm.an y w;have e3:=cmpT_cm.an x w;have:=cmpT_cm.tr w y x (by omega) (by omega);omega
theorem stK_cm:∀ ks:List (Int × Bool),Cm (fun t u=>stK t u ks)
 | []=>⟨fun _ _=>rfl,fun _ _ _ _ _=>Int.le_refl 0⟩
 | k::ks=>by
  have ih:=stK_cm ks;have c:=fl_cm k.2;refine⟨fun t u=>?_,fun t u v=>?_⟩
  ·have e:=c.an (t k.1) (u k.1);have i:=ih.an t u;show stK t u (k::ks) = - stK u t (k::ks)
   replace e:fl k.2 (cmpT (t k.1) (u k.1)) = - fl k.2 (cmpT (u k.1) (t k.1)):=e
   replace i:stK t u ks = - stK u t ks:=i
   unfold stK;by_cases h:fl k.2 (cmpT (t k.1) (u k.1))=0
   ·rw[if_pos h,if_pos (by omega)]; exact i
   ·rw[if_neg h,if_neg (by omega)]; exact e
  ·have e1:=c.an (t k.1) (u k.1);have e2:=c.an (u k.1) (v k.1);have e3:=c.an (t k.1) (v k.1);have t1:=c.tr (t k.1) (u k.1) (v k.1);have t2:=c.tr (v k.1) (t k.1) (u k.1);have t3:=c.tr (u k.1) (v k.1) (t k.1);have i:=ih.tr t u v;simp only[stK];intro h1 h2;split at h1 <;> split at h2 <;> split <;> omega
theorem stand_loop {f:Int→Option (Lp Int (Ex Unit Int))} (t u:Int→List UInt8) (ks:List (Int × Bool)) (hl:ks.length≤100000)
 (hf:∀ (i:Nat) (h:i<ks.length),f i=if fl ks[i].2 (cmpT (t ks[i].1) (u ks[i].1))=0 then some (.next (w64 ((i:Int)+1))) else some (.done (.ret (fl ks[i].2 (cmpT (t ks[i].1) (u ks[i].1))))))
 (hd:f (ks.length:Int)=some (.done (.brk ()))):∀ (n i:Nat),i+n=ks.length→∃ e,loop f (i:Int)=some e∧(match e with | .brk _=>stK t u (ks.drop i)=0 | .ret v=>stK t u (ks.drop i)=v)
 | 0,i,h=>by
  obtain rfl:i=ks.length:=by omega
  exact⟨_,loop_done hd,by rw[List.drop_length]; rfl⟩
 | n+1,i,h=>by
  have hi:i<ks.length:=by omega
  have hs:=hf i hi;rw[List.drop_eq_getElem_cons hi];by_cases c:fl ks[i].2 (cmpT (t ks[i].1) (u ks[i].1))=0
  ·rw[if_pos c,w64_id ⟨by omega,by omega⟩] at hs;obtain⟨e,h1,h2⟩:=stand_loop t u ks hl hf hd n (i+1) (by omega);refine⟨e,loop_next hs h1,?_⟩;unfold stK;rw[if_pos c];exact h2
  ·rw[if_neg c] at hs;exact⟨_,loop_done hs,by unfold stK; rw[if_neg c]⟩
theorem fl_w64 (b:Bool) (x y:List UInt8):(if b=true then some (w64 (0-cmpT x y)) else some (cmpT x y):Option Int)=some (fl b (cmpT x y)):=by
 have:=cmpT_bd x y;cases b
 ·rfl
 ·rw[if_pos rfl,w64_id ⟨by omega,by omega⟩]; show some (0-cmpT x y)=some (- cmpT x y); rw[Int.zero_sub]
def txtAt (w:List UInt8) (d:Dr) (c:Int):List UInt8:=if 0≤c then (match d.1[c.toNat]? with|some j=>txt w j|none=>[]) else []
theorem txtAt_len {w:List UInt8} {d:Dr} (hd:okD w d) (c:Int):(txtAt w d c).length≤400:=by
 unfold txtAt;split
 ·cases hq:d.1[c.toNat]? with
  | none=>simp
  | some j=>exact txt_len w j (hd.1 j (List.mem_of_getElem? hq)).2
 ·simp
theorem none_bytes (w:List UInt8):cell_Cell_Bytes ⟨⟨[],0⟩,⟨0,0⟩,false⟩ w=some []:=by
 unfold cell_Cell_Bytes piece_Text_Flat;dsimp only;rw[loop_done (t:=[]) (by unfold piece_Text_Flat.l1; rfl),bnd_some',bnd_some']
theorem at_bytes {w:List UInt8} (hw:w.length≤4096) {d:Dr} (hd:okD w d) (c:Int):∃ x,row_Row_At (dR w d) c=some x∧cell_Cell_Bytes x.1 w=some (txtAt w d c):=by
 have h40:=hd.2;have hml:(dR w d).fCells.length=d.1.length:=List.length_map _;unfold row_Row_At row_Row_has txtAt;by_cases h0:0≤c
 ·rw[if_pos (show c≥0 from h0),bnd_some',bnd_some',if_pos h0];by_cases h1:c<(d.1.length:Int)
  ·have hlt:c.toNat<d.1.length:=by omega
   have hj:=hd.1 d.1[c.toNat] (List.getElem_mem hlt);rw[decide_eq_true (by omega),if_pos rfl,show idx (dR w d).fCells c=some (kc w d.1[c.toNat]) by
    unfold idx; rw[if_pos h0]; show (d.1.map (kc w))[c.toNat]? = _; rw[List.getElem?_map,List.getElem?_eq_getElem hlt]; rfl,bnd_some',List.getElem?_eq_getElem hlt]
   exact⟨_,rfl,cellBytes_eq w hw _ hj.1 hj.2⟩
  ·rw[decide_eq_false (by omega),if_neg (by simp),List.getElem?_eq_none (by omega)];exact⟨_,rfl,none_bytes w⟩
 ·rw[if_neg (show ¬ c≥0 from h0),bnd_some',bnd_some',if_neg (by simp),if_neg h0];exact⟨_,rfl,none_bytes w⟩
theorem otext_eq {w:List UInt8} (hw:w.length≤4096) {d:Dr} (hd:okD w d) (c:Int):order_text (dR w d) c w=some (txtAt w d c):=by
 obtain⟨x,h1,h2⟩:=at_bytes hw hd c;unfold order_text;rw[h1,bnd_some',h2,bnd_some']
theorem rtext_eq (w:List UInt8) (d:Dr) (c:Int):ref16_text (dW w d) c=some (txtAt w d c):=by
 have hml:(dW w d).fCells.length=d.1.length:=List.length_map _;unfold ref16_text txtAt;by_cases h0:c<0
 ·rw[if_pos h0,bnd_some',if_pos rfl,if_neg (by omega)]
 ·rw[if_neg h0,bnd_some',if_pos (show 0≤c by omega)];by_cases h1:c<(d.1.length:Int)
  ·have hlt:c.toNat<d.1.length:=by omega
   rw[decide_eq_false (by omega),if_neg (by simp),show idx (dW w d).fCells c=some (pc w d.1[c.toNat]) by
    unfold idx; rw[if_pos (by omega)]; show (d.1.map (pc w))[c.toNat]? = _; rw[List.getElem?_map,List.getElem?_eq_getElem hlt]; rfl,bnd_some',List.getElem?_eq_getElem hlt]
   rfl
  ·rw[decide_eq_true (by omega),if_pos rfl,List.getElem?_eq_none (by omega)]
def stD (w:List UInt8) (ks:List (Int × Bool)) (d e:Dr):Int:=stK (txtAt w d) (txtAt w e) ks
theorem stD_cm (w:List UInt8) (ks:List (Int × Bool)):Cm (stD w ks):=⟨fun a b=>(stK_cm ks).an _ _,fun a b d=>(stK_cm ks).tr _ _ _⟩
def kB (k:order_By):Int × Bool:=(k.fCol,k.fDown)
theorem stand_eq {w:List UInt8} (hw:w.length≤4096) {d e:Dr} (hd:okD w d) (he:okD w e) (ks:List order_By) (hk:ks.length≤1000):order_standing_1 (dR w d) (dR w e) ks w=some (stD w (ks.map kB) d e):=by
 have hml:(ks.map kB).length=ks.length:=List.length_map _;unfold order_standing_1 stD;obtain⟨q,h1,h2⟩:=stand_loop (f:=order_standing_1.l1 (dR w d) (dR w e) ks w) (txtAt w d) (txtAt w e) (ks.map kB) (by omega) (fun i h=>by
  rw[hml] at h;have l1:=txtAt_len hd ks[i].fCol;have l2:=txtAt_len he ks[i].fCol;unfold order_standing_1.l1;rw[if_pos (by omega),idx_nat (List.getElem?_eq_getElem h),bnd_some',otext_eq hw hd,bnd_some',otext_eq hw he,bnd_some',compare_eq _ _ (by omega) (by omega),bnd_some',fl_w64,bnd_some',List.getElem_map];rfl) (by
  unfold order_standing_1.l1;rw[if_neg (by omega)]) (ks.map kB).length 0 (by omega)
 rw[show loop (order_standing_1.l1 (dR w d) (dR w e) ks w) 0=_ from h1,bnd_some'];rw[List.drop_zero] at h2;cases q with
 | brk u=>rw[h2]
 | ret v=>rw[h2]
def okM (n:Nat) (a:List Int):Prop:=(∀ x∈a,0≤x∧x<(n:Int))∧a.Nodup
def marksL (n:Nat) (a:List Int):List Bool:=(List.range n).map fun k:Nat=>decide ((k:Int)∈a)
theorem marksL_len (n:Nat) (a:List Int):(marksL n a).length=n:=by simp[marksL]
theorem marksL_at (n:Nat) (a:List Int) {x:Int} (h:0≤x∧x<(n:Int)):idx (marksL n a) x=some (decide (x∈a)):=by
 unfold idx marksL;rw[if_pos h.1,List.getElem?_map,List.getElem?_range (by omega)];simp only[Option.map_some,Option.some.injEq];rw[show ((x.toNat:Nat):Int)=x by omega]
theorem marksL_set (n:Nat) (pre:List Int) {x:Int} (h:0≤x∧x<(n:Int)):(marksL n pre).set x.toNat true=marksL n (pre++[x]):=by
 refine List.ext_getElem (by simp[marksL]) fun i h1 h2=>?_;rw[List.getElem_set];simp only[marksL,List.getElem_map,List.getElem_range,List.mem_append,List.mem_singleton];split
 ·rename_i c;rw[decide_eq_true]; right; omega
 ·rename_i c;refine decide_eq_decide.2 ⟨.inl,fun hh=>hh.resolve_right (by omega)⟩
theorem okM_snoc {n:Nat} {pre:List Int} {x:Int} (h:okM n pre) (h1:0≤x∧x<(n:Int)) (h2:x ∉ pre):okM n (pre++[x]):=
 ⟨fun y hy=>(List.mem_append.1 hy).elim (h.1 y) fun hy=>by obtain rfl:=List.mem_singleton.1 hy; exact h1,List.nodup_append.2 ⟨h.2,by simp,fun a ha b hb=>by obtain rfl:=List.mem_singleton.1 hb; rintro rfl; exact h2 ha⟩⟩
theorem marks_eq (n:Nat) (hn:n≤4000) (a:List Int) (ha:a.length≤1000):(okM n a→order_marks (n:Int) a=some (marksL n a,true))∧(¬ okM n a→order_marks (n:Int) a=some ([],false)):=by
 obtain⟨q,h1,h2⟩:=loop_for (f:=order_marks.l1 (n:Int) a) (fun i (s:List Bool)=>(i,s)) a (fun pre s=>s=marksL n pre∧okM n pre) (fun q=>match q with | .brk m=>okM n a∧m=marksL n a | .ret v=>v=([],false)∧¬ okM n a) (fun pre x suf s hs hI=>by
  obtain⟨rfl,hI⟩:=hI;have hl:a.length=pre.length+(suf.length+1):=by rw[hs]; simp
  have hxa:x∈a:=by rw[hs]; simp
  unfold order_marks.l1;dsimp only;rw[if_pos (by omega),show idx a (pre.length:Int)=some x by rw[hs]; exact idx_at _ _ _,bnd_some'];by_cases c0:x<0
  ·rw[if_pos c0,bnd_some',if_pos rfl];exact .inr ⟨_,rfl,rfl,fun h=>by have:=(h.1 x hxa).1; omega⟩
  ·rw[if_neg c0];by_cases c1:x≥(n:Int)
   ·rw[if_pos c1,bnd_some',if_pos rfl];exact .inr ⟨_,rfl,rfl,fun h=>by have:=(h.1 x hxa).2; omega⟩
   ·have hx:0≤x∧x<(n:Int):=⟨by omega,by omega⟩;rw[if_neg c1,marksL_at n pre hx,bnd_some',bnd_some',bnd_some'];by_cases c2:x∈pre
    ·rw[decide_eq_true c2,if_pos rfl];refine .inr ⟨_,rfl,rfl,fun h=>?_⟩;have:=h.2;rw[hs,List.nodup_append] at this;exact this.2.2 x c2 x (by simp) rfl
    ·rw[decide_eq_false c2,if_neg (by simp),marksL_set n pre hx,w64_id ⟨by omega,by omega⟩];exact .inl ⟨_,rfl,rfl,okM_snoc hI hx c2⟩) (fun s hI=>by
  obtain⟨rfl,hI⟩:=hI;unfold order_marks.l1;dsimp only;rw[if_neg (by omega)];exact⟨_,rfl,hI,rfl⟩) (s0:=marksL n []) ⟨rfl,⟨(fun x hx=>nomatch hx),List.nodup_nil⟩⟩
 have hz:List.replicate n false=marksL n []:=by
  refine List.ext_getElem (by simp[marksL]) fun i _ _=>?_;simp[marksL]
 have e:order_marks (n:Int) a=(match (generalizing:=false) q with | .brk u=>some (u,true) | .ret u=>some u):=by
  unfold order_marks;rw[mkz_of ⟨by omega,by omega⟩,bnd_some',Int.toNat_natCast,hz,show loop (order_marks.l1 (n:Int) a) (0,marksL n [])=_ from h1,bnd_some'];cases q <;> rfl
 rw[e];cases q with
 | brk m=>
  obtain⟨h2,rfl⟩:=h2;exact⟨fun _=>rfl,fun h=>absurd h2 h⟩
 | ret v=>
  obtain⟨rfl,h2⟩:=h2;exact⟨fun h=>absurd h h2,fun _=>rfl⟩
theorem eqB_eq (a b:List Bool) (ha:a.length≤4000):slices_Equal_bool_bool a b=some (decide (a=b)):=by
 unfold slices_Equal_bool_bool;by_cases hl:a.length=b.length
 ·rw[if_pos (by omega)];obtain⟨q,h1,h2⟩:=loop_same (ρ:=Unit) (f:=slices_Equal_bool_bool.l1 a b) () a b hl (by omega) (fun i=>by
   unfold slices_Equal_bool_bool.l1;simp only[beq_iff_eq])
  rw[h1,bnd_some'];cases q with
  | brk u=>rw[decide_eq_true h2]
  | ret v=>
   obtain⟨rfl,h3⟩:=h2;rw[decide_eq_false h3]
 ·rw[if_neg (by omega),decide_eq_false (fun h=>hl (by rw[h]))]
def PutOk (n:Nat) (a b:List Int):Prop:=okM n a∧okM n b∧∀ x,x∈a↔x∈b
theorem marksL_same {n:Nat} {a b:List Int} (ha:okM n a) (hb:okM n b):marksL n a=marksL n b↔∀ x,x∈a↔x∈b:=by
 constructor
 ·intro h x;have key:0≤x∧x<(n:Int)→(x∈a↔x∈b):=fun hx=>by
   have h1:=marksL_at n a hx;rw[h,marksL_at n b hx] at h1;have:=Option.some.inj h1;exact (decide_eq_decide.1 this).symm
  exact⟨fun hh=>(key (ha.1 x hh)).1 hh,fun hh=>(key (hb.1 x hh)).2 hh⟩
 ·intro h;unfold marksL;refine List.map_congr_left fun k _=>decide_eq_decide.2 (h _)
theorem PutOk.len {n:Nat} {a b:List Int} (h:PutOk n a b):a.length=b.length:=((List.perm_ext_iff_of_nodup h.1.2 h.2.1.2).2 h.2.2).length_eq
def puts {T:Type} (z:T) (D:List T) (ab:List (Int × Int)):List T:=ab.foldl (fun acc p=>acc.set p.1.toNat (D.getD p.2.toNat z)) D
theorem puts_len {T:Type} (z:T) (D:List T) (ab:List (Int × Int)):(puts z D ab).length=D.length:=by
 unfold puts;have key:∀ (ab:List (Int × Int)) (acc:List T),(ab.foldl (fun acc p=>acc.set p.1.toNat (D.getD p.2.toNat z)) acc).length=acc.length:=by
  intro ab
  induction ab with
  | nil=>intro acc; rfl
  | cons p ab ih=>intro acc; rw[List.foldl_cons,ih,List.length_set]
 exact key ab D
theorem puts_snoc {T:Type} (z:T) (D:List T) (ab:List (Int × Int)) (p:Int × Int):puts z D (ab++[p])=(puts z D ab).set p.1.toNat (D.getD p.2.toNat z):=by
 unfold puts; rw[List.foldl_append]; rfl
theorem puts_mem {T:Type} {z:T} {D:List T} {n:Nat} (hn:D.length=n):∀ {ab:List (Int × Int)},(∀ p∈ab,0≤p.2∧p.2<(n:Int))→∀ d∈puts z D ab,d∈D:=by
 have key:∀ (ab:List (Int × Int)) (acc:List T),(∀ p∈ab,0≤p.2∧p.2<(n:Int))→(∀ d∈acc,d∈D)→∀ d∈ab.foldl (fun acc p=>acc.set p.1.toNat (D.getD p.2.toNat z)) acc,d∈D:=by
  intro ab
  induction ab with
  | nil=>intro acc _ h; exact h
  | cons p ab ih=>
   intro acc hp h;rw[List.foldl_cons];refine ih _ (fun q hq=>hp q (List.mem_cons_of_mem _ hq)) fun d hd=>?_;rcases List.mem_or_eq_of_mem_set hd with hd|rfl
   ·exact h d hd
   ·have:=hp p List.mem_cons_self;rw[gD_at z (by omega)];exact List.getElem_mem _
 exact fun {ab} hp=>key ab D hp fun _ h=>h
def dz:Dr:=([],0,false)
theorem zip_take {a b:List Int} {i:Nat} (ha:i<a.length) (hb:i<b.length):(a.zip b).take (i+1)=(a.zip b).take i++[(a[i],b[i])]:=by
 have:i<(a.zip b).length:=by rw[List.length_zip]; omega
 rw[List.take_succ_eq_append_getElem this,List.getElem_zip]
theorem oput_eq {w:List UInt8} {D:List Dr} {t:tTr} (ht:IsT t (D.map (dR w))) (hl:D.length≤400) (tl:Bool) (e:Int) (a b:List Int) (ha:a.length≤1000) (hb:b.length≤1000) :
 (PutOk D.length a b→∃ u,order_Put ⟨t,tl,e⟩ a b=some (⟨u,tl,e⟩,0)∧IsT u ((puts dz D (a.zip b)).map (dR w)))∧(¬ PutOk D.length a b→order_Put ⟨t,tl,e⟩ a b=some (⟨⟨none⟩,false,0⟩,1)):=by
 have hml:(D.map (dR w)).length=D.length:=List.length_map _;have ma:=marks_eq D.length (by omega) a ha;have mb:=marks_eq D.length (by omega) b hb;unfold order_Put grid_Grid_Len;dsimp only;rw[Len_eq t _ ht,bnd_some',bnd_some',hml];by_cases ca:okM D.length a
 ·rw[ma.1 ca,bnd_some',bnd_some'];by_cases cb:okM D.length b
  ·rw[mb.1 cb,bnd_some'];dsimp only;rw[if_pos rfl,if_pos rfl,eqB_eq _ _ (by rw[marksL_len]; omega),bnd_some',bnd_some'];by_cases cm:∀ x,x∈a↔x∈b
   ·rw[decide_eq_true ((marksL_same ca cb).2 cm),if_neg (by simp),wAll_eq t _ ht (by omega),bnd_some'];refine⟨fun hg=>?_,fun h=>absurd ⟨ca,cb,cm⟩ h⟩;have hlen:=hg.len;have hlp:=loop_nat (f:=order_Put.l1 ⟨t,tl,e⟩ a b) (fun i (s:List row_Row)=>(i,s)) a.length (fun k=>(puts dz D ((a.zip b).take k)).map (dR w)) (t:=(puts dz D (a.zip b)).map (dR w)) (fun i hi=>by
     have hai:=ca.1 a[i] (List.getElem_mem hi);have hbi:=cb.1 (b[i]'(by omega)) (List.getElem_mem (by omega));unfold order_Put.l1;dsimp only;rw[if_pos (by omega),idx_nat (List.getElem?_eq_getElem hi),bnd_some',idx_nat (List.getElem?_eq_getElem (show i<b.length by omega)),bnd_some'];rw[show b[i]'(by omega)=(((b[i]'(by omega)).toNat:Nat):Int) by omega,gridRow_eq t tl e _ ht (by omega) _ (by omega),bnd_some'];have hpl:=puts_len dz D ((a.zip b).take i);rw[show idx ((puts dz D ((a.zip b).take i)).map (dR w)) a[i]=some (((puts dz D ((a.zip b).take i)).map (dR w))[a[i].toNat]'(by rw[List.length_map]; omega)) from idx_int hai.1 (List.getElem?_eq_getElem _),bnd_some',w64_id ⟨by omega,by omega⟩];rw[zip_take hi (by omega),puts_snoc,List.map_set];dsimp only;rw[gD_at dz (by omega),List.getElem_map]) (by
     unfold order_Put.l1;dsimp only;rw[if_neg (by omega),List.take_of_length_le (by rw[List.length_zip]; omega)])
    rw[show loop (order_Put.l1 ⟨t,tl,e⟩ a b) (0,D.map (dR w))=_ from hlp,bnd_some'];obtain⟨u,u1,u2⟩:=Of_eq ((puts dz D (a.zip b)).map (dR w)) (by rw[List.length_map,puts_len]; omega);exact⟨u,by rw[u1,bnd_some'],u2⟩
   ·rw[decide_eq_false (fun h=>cm ((marksL_same ca cb).1 h)),if_pos (by simp)];exact⟨fun h=>absurd h.2.2 cm,fun _=>rfl⟩
  ·rw[mb.2 cb,bnd_some'];dsimp only;rw[if_pos rfl,if_neg (by simp),bnd_some',if_pos rfl];exact⟨fun h=>absurd h.2.1 cb,fun _=>rfl⟩
 ·rw[ma.2 ca,bnd_some',bnd_some'];refine⟨fun h=>absurd h.1 ca,fun _=>?_⟩;by_cases cb:okM D.length b
  ·rw[mb.1 cb,bnd_some'];dsimp only;rw[if_neg (by simp),bnd_some',if_pos rfl]
  ·rw[mb.2 cb,bnd_some'];dsimp only;rw[if_neg (by simp),bnd_some',if_pos rfl]
def visL:List Dr→Nat→List Int
| [],_=>[]
| d::D,i=>if d.2.2=true then visL D (i+1) else (i:Int)::visL D (i+1)
theorem visL_append:∀ (A B:List Dr) (i:Nat),visL (A++B) i=visL A i++visL B (i+A.length)
 | [],B,i=>rfl
 | d::A,B,i=>by
  rw[List.cons_append,visL,visL,visL_append A B (i+1),show i+1+A.length=i+(d::A).length by simp; omega];split <;> rfl
theorem visL_in:∀ (D:List Dr) (i:Nat),∀ x∈visL D i,(i:Int)≤x∧x<((i+D.length:Nat):Int)
 | [],i,x,h=>by cases h
 | d::D,i,x,h=>by
  have ih:=visL_in D (i+1) x;simp only[List.length_cons];rw[visL] at h;split at h
  ·have:=ih h; omega
  ·rcases List.mem_cons.1 h with rfl|h
   ·omega
   ·have:=ih h; omega
theorem visL_lt:∀ (D:List Dr) (i:Nat),(visL D i).Pairwise (· < ·)
 | [],i=>List.Pairwise.nil
 | d::D,i=>by
  rw[visL];split
  ·exact visL_lt D (i+1)
  ·exact List.pairwise_cons.2 ⟨fun x hx=>by have:=(visL_in D (i+1) x hx).1; omega,visL_lt D (i+1)⟩
theorem visL_len:∀ (D:List Dr) (i:Nat),(visL D i).length≤D.length
 | [],i=>Nat.le_refl _
 | d::D,i=>by
  have:=visL_len D (i+1);rw[visL];split <;> simp only[List.length_cons] <;> omega
theorem visL_hid:∀ (D E:List Dr) (i:Nat),D.map (·.2.2)=E.map (·.2.2)→visL D i=visL E i
 | [],[],i,_=>rfl
 | [],_::_,i,h=>by simp at h
 | _::_,[],i,h=>by simp at h
 | d::D,e::E,i,h=>by
  simp only[List.map_cons,List.cons.injEq] at h;rw[visL,visL,visL_hid D E (i+1) h.2,h.1]
theorem visL_show:∀ (D:List Dr) (i k:Nat),((i+k:Nat):Int)∈visL D i↔∃ d,D[k]? = some d∧d.2.2=false
 | [],i,k=>by simp[visL]
 | d::D,i,0=>by
  have h1:¬ ((i:Int)∈visL D (i+1)):=fun h=>by have:=(visL_in D (i+1) _ h).1; omega
  rw[visL];cases hq:d.2.2 with
  | true=>
   rw[if_pos rfl];simp only[Nat.add_zero,List.getElem?_cons_zero,Option.some.injEq,exists_eq_left',hq];simp[h1]
  | false=>
   rw[if_neg (by simp)];simp only[Nat.add_zero,List.getElem?_cons_zero,Option.some.injEq,exists_eq_left',hq];simp
 | d::D,i,k+1=>by
  have ih:=visL_show D (i+1) k;rw[visL,List.getElem?_cons_succ,← ih,show i+(k+1)=i+1+k by omega];split
  ·rfl
  ·rw[List.mem_cons];exact⟨fun h=>h.resolve_left (by omega),.inr⟩
theorem rvis_eq (w:List UInt8) (D:List Dr) (hl:D.length≤400) (tl:Bool) (e:Int):ref11_Visible ⟨D.map (dW w),tl,e⟩=some (visL D 0):=by
 have hml:(D.map (dW w)).length=D.length:=List.length_map _;unfold ref11_Visible;have hlp:=loop_fold (f:=ref11_Visible.l1 ⟨D.map (dW w),tl,e⟩) (fun k (s:List Int)=>(k,s)) D (fun pre=>visL pre 0) (t:=visL D 0) (fun pre x suf hs=>by
  have hlen:D.length=pre.length+(suf.length+1):=by rw[hs]; simp
  have hi:idx (D.map (dW w)) (pre.length:Int)=some (dW w x):=by
   rw[hs,List.map_append,List.map_cons];have:=idx_at (pre.map (dW w)) (dW w x) (suf.map (dW w));rwa[List.length_map] at this
  have hv:=visL_len pre 0;unfold ref11_Visible.l1;dsimp only;rw[if_pos (by omega),hi,bnd_some',visL_append,Nat.zero_add,w64_id ⟨by omega,by omega⟩];by_cases c:x.2.2=true
  ·rw[if_pos (show (dW w x).fHidden=true from c),bnd_some',visL,if_pos c,visL,List.append_nil]
  ·rw[if_neg (show ¬ (dW w x).fHidden=true from c),app_of (by simp only[List.length_cons,List.length_nil]; omega),bnd_some',bnd_some',visL,if_neg c,visL]) (by
  unfold ref11_Visible.l1;dsimp only;rw[if_neg (by omega)])
 rw[show loop (ref11_Visible.l1 ⟨D.map (dW w),tl,e⟩) (0,[])=_ from hlp,bnd_some']
theorem goVis (w:List UInt8):∀ (D:List Dr) (i:Nat) (acc:List Int),acc.length+D.length≤4000→goR (fun i x (s:List Int)=>bnd (grid_Grid_Visible_r0_2 i x s) fun s'=>some (.inl s':List Int ⊕ List Int)) id (D.map (dR w)) (i:Int) acc=some (acc++visL D i)
 | [],i,acc,_=>by simp[goR,visL]
 | x::D,i,acc,h=>by
  simp only[List.length_cons] at h;rw[List.map_cons,visL];unfold goR;by_cases c:x.2.2=true
  ·rw[show grid_Grid_Visible_r0_2 (i:Int) (dR w x) acc=some acc from if_pos c,bnd_some',bnd_some',if_pos c];exact goVis w D (i+1) acc (by omega)
  ·rw[show grid_Grid_Visible_r0_2 (i:Int) (dR w x) acc=some (acc++[(i:Int)]) by
    unfold grid_Grid_Visible_r0_2;rw[if_neg (show ¬ (dR w x).fHidden=true from c),app_of (by simp only[List.length_cons,List.length_nil]; omega),bnd_some'],bnd_some',bnd_some',if_neg c]
   have:=goVis w D (i+1) (acc++[(i:Int)]) (by simp; omega);rw[List.append_assoc] at this;exact this
theorem vis_eq {w:List UInt8} {D:List Dr} {t:tTr} (ht:IsT t (D.map (dR w))) (hl:D.length≤400) (tl:Bool) (e:Int):grid_Grid_Visible ⟨t,tl,e⟩=some (visL D 0):=by
 have hml:(D.map (dR w)).length=D.length:=List.length_map _;have hg:=goVis w D 0 [] (by simp; omega);unfold grid_Grid_Visible grid_Grid_Len;dsimp only;rw[Len_eq t _ ht,bnd_some',bnd_some',wRange_eq t _ ht,bnd_some'];dsimp only;generalize hL:D.map (dR w)=l at ht hml hg ⊢;rw[show stA l.length 0=0 by unfold stA; simp,show stB l.length 0 (l.length:Int)=l.length by unfold stB stA; omega];unfold walk_Range_row_Row_1;rcases ht with ⟨rfl,rfl⟩|⟨h,z,rfl,hr⟩
 ·have:D=[]:=List.length_eq_zero_iff.1 (by simpa using hml.symm);subst this; rfl
 ·have hpos:0<l.length:=List.length_pos_iff.2 hr.2.2.2;have hlow:=hr.low (by omega);obtain⟨stk,d1,d2,d3⟩:=down_eq (first:=0) (i:=0) hr.1 hr.2.1 hpos (by omega) (by omega);rw[if_neg (by omega)];dsimp only;rw[root_eq hr,bnd_some'];dsimp only;have hlp:=range_loop (f:=walk_Range_row_Row_1.l1 (l.length:Int)) (fun i stk (s:List Int)=>(i,s,stk)) (fun i x (s:List Int)=>bnd (grid_Grid_Visible_r0_2 i x s) fun s'=>some (.inl s':List Int ⊕ List Int)) id l.length hr.2.1 (by omega) (show h≤400 by omega) (Nat.le_refl _) (fun i stk s hi=>by
   have e:walk_Range_row_Row_1.l1 (l.length:Int) ((i:Int),s,stk)=if (i:Int)<(l.length:Int) then rstep stk (fun x st'=>bnd (grid_Grid_Visible_r0_2 (i:Int) x s) fun x39=>some (Lp.next (w64 ((i:Int)+1),x39,st'))) else some (Lp.done s):=rfl;rw[e,if_pos (by omega)];congr 1;funext x st';cases grid_Grid_Visible_r0_2 (i:Int) x s <;> rfl) (fun stk s=>by
   have e:walk_Range_row_Row_1.l1 (l.length:Int) ((l.length:Int),s,stk)=if (l.length:Int)<(l.length:Int) then rstep stk (fun x st'=>bnd (grid_Grid_Visible_r0_2 (l.length:Int) x s) fun x39=>some (Lp.next (w64 ((l.length:Int)+1),x39,st'))) else some (Lp.done s):=rfl;rw[e,if_neg (by omega)]; rfl) l.length 0 stk [] (visL D 0) (by omega) d2 (by rw[List.take_length,List.drop_zero]; simpa using hg)
  rw[show (((0:Nat)+0:Nat):Int)=((0:Nat):Int) from rfl,show ((0:Nat):Int)=0 from rfl] at d1;rw[show ((0:Nat):Int)=0 from rfl] at hlp ⊢;rw[d1,bnd_some',hlp,bnd_some',bnd_some']
def vr (D:List Dr):List Dr:=(visL D 0).map fun x=>D.getD x.toNat dz
theorem vr_len (D:List Dr):(vr D).length=(visL D 0).length:=by simp[vr]
theorem vr_ok {w:List UInt8} {D:List Dr} (hD:∀ d∈D,okD w d):∀ d∈vr D,okD w d:=fun d hd=>by
 obtain⟨x,hx,rfl⟩:=List.mem_map.1 hd;have:=visL_in D 0 x hx;rw[gD_at dz (by omega)];exact hD _ (List.getElem_mem _)
theorem ovis_eq {w:List UInt8} {D:List Dr} {t:tTr} (ht:IsT t (D.map (dR w))) (hl:D.length≤400) (tl:Bool) (e:Int):order_visible ⟨t,tl,e⟩=some ((vr D).map (dR w),visL D 0):=by
 have hml:(D.map (dR w)).length=D.length:=List.length_map _;have hv:=visL_len D 0;have hvl:=vr_len D;unfold order_visible;rw[vis_eq ht hl,bnd_some',mkz_of ⟨by omega,by omega⟩,bnd_some',Int.toNat_natCast];have hlp:=loop_nat (f:=order_visible.l1 ⟨t,tl,e⟩ (visL D 0)) (fun i (s:List row_Row)=>(i,s)) (visL D 0).length (fun k=>((vr D).take k).map (dR w)++List.replicate ((visL D 0).length-k) (⟨[],0,false⟩:row_Row)) (t:=(vr D).map (dR w)) (fun i hi=>by
  have hx:=visL_in D 0 ((visL D 0)[i]) (List.getElem_mem hi);unfold order_visible.l1;dsimp only;rw[if_pos (by omega),idx_nat (List.getElem?_eq_getElem hi),bnd_some'];rw[show (visL D 0)[i]=(((visL D 0)[i].toNat:Nat):Int) by omega,gridRow_eq t tl e _ ht (by omega) _ (by omega),bnd_some'];have hlt:(((vr D).take i).map (dR w)).length=i:=by rw[List.length_map,List.length_take]; omega
  rw[show (visL D 0).length-i=((visL D 0).length-(i+1))+1 by omega,List.replicate_succ];have hi2:=idx_at (((vr D).take i).map (dR w)) (⟨[],0,false⟩:row_Row) (List.replicate ((visL D 0).length-(i+1)) ⟨[],0,false⟩);rw[hlt] at hi2;rw[hi2,bnd_some',w64_id ⟨by omega,by omega⟩,Int.toNat_natCast,List.set_append_right _ _ (by omega),hlt,Nat.sub_self,List.set_cons_zero,List.take_succ_eq_append_getElem (show i<(vr D).length by omega),List.map_append,List.append_assoc];simp only[List.map_cons,List.map_nil,List.cons_append,List.nil_append];rw[show (vr D)[i]'(by omega)=D[((visL D 0)[i]).toNat]'(by omega) by unfold vr; rw[List.getElem_map,gD_at dz (by omega)],List.getElem_map]) (by
  unfold order_visible.l1;dsimp only;rw[if_neg (by omega),Nat.sub_self,List.take_of_length_le (by omega)];simp)
 rw[show (List.replicate (visL D 0).length (⟨[],0,false⟩:row_Row))=((vr D).take 0).map (dR w)++List.replicate ((visL D 0).length-0) (⟨[],0,false⟩:row_Row) from rfl,show loop (order_visible.l1 ⟨t,tl,e⟩ (visL D 0)) (0,_)=_ from hlp,bnd_some']
theorem bnd_r {α:Type} (o:Option α):(bnd o fun x=>some x)=o:=by cases o <;> rfl
theorem idx_head {T:Type} (z:T) {l:List T} (h:l≠[]):idx l 0=some (l.headD z):=by
 cases l with
 | nil=>exact absurd rfl h
 | cons x l=>rfl
theorem idx_len {T:Type} (d:T) {l:List T} {i:Nat} (h:i<l.length):idx l (i:Int)=some (l.getD i d):=by rw[gD_at d h]; exact idx_nat (List.getElem?_eq_getElem h)
section
variable {R T:Type}
theorem mg_mk {d:R} {less:Int→Int→List R→Option Bool} {swap:Int→Int→List R→Option (List R)} {leT:T→T→Prop} {rest:R→List T} {which:R→Int} {mk:List T→Int→R} (z:T) {L:List (List T)}
 {push:R→List R→Option (List R)} {pop:List R→Option (R × List R)} {fix:List R→Option (List R)} {cmp:T→T→Option Int}
 (rf:∀ x,leT x x) (tr:∀ x y w,leT x y→leT y w→leT x w) (mk1:∀ l w,rest (mk l w)=l) (mk2:∀ l w,which (mk l w)=w)
 (hless:∀ i j h,less i j h=bnd (idx h i) fun x2=>bnd (idx h j) fun x3=>bnd (idx (rest x2) 0) fun x5=>bnd (idx (rest x3) 0) fun x6=>bnd (cmp x5 x6) fun x7=>if x7=0 then some (decide (which x2<which x3)) else some (decide (x7<0)))
 (hswap:∀ i j h,swap i j h=bnd (idx h j) fun x2=>bnd (idx h i) fun x3=>bnd (idx (h.set i.toNat x2) j) fun x4=>some ((h.set i.toNat x2).set j.toNat x3))
 (hpush:∀ x h,push x h=bnd (bnd (app 32 h [x]) fun x2=>some x2) fun x1=>bnd (some (x1.length:Int)) fun x3=>bnd (bnd (loop (upR less swap) (w64 (x3-1),x1)) fun t1=>some t1) fun x4=>some x4)
 (hpop:∀ h,pop h=bnd (some (h.length:Int)) fun x1=>bnd (swap 0 (w64 (x1-1)) h) fun x2=>bnd (bnd (loop (downR less swap (w64 (x1-1))) (0,x2)) fun t1=>some (decide (t1.1>0),t1.2)) fun x3=>bnd (bnd (idx x3.2 (w64 ((x3.2.length:Int)-1))) fun x1=>bnd (cut x3.2 0 (w64 ((x3.2.length:Int)-1))) fun x3=>some (x1,x3)) fun x4=>some (x4.1,x4.2))
 (hfix:∀ h,fix h=bnd (some (h.length:Int)) fun x1=>bnd (bnd (loop (downR less swap x1) (0,h)) fun t1=>some (decide (t1.1>0),t1.2)) fun x2=>if x2.1=true then some x2.2 else bnd (bnd (loop (upR less swap) (0,x2.2)) fun t1=>some t1) fun x4=>some x4)
 (hc:∀ a b,RG rest which L a b→∃ c,cmp ((rest a).headD z) ((rest b).headD z)=some c∧((c<0∨c=0∧which a<which b)→leT ((rest a).headD z) ((rest b).headD z))∧(¬ (c<0∨c=0∧which a<which b)→leT ((rest b).headD z) ((rest a).headD z))) :
 MgOk d less swap leT rest which mk z L push pop fix:=by
 have hsw:∀ (h:List R) (i j:Nat),i<h.length→j<h.length→swap (i:Int) (j:Int) h=some (sw d h i j):=fun h i j hi hj=>by
  rw[hswap,idx_len d hj,bnd_some',idx_len d hi,bnd_some',idx_len d (by rw[List.length_set]; exact hj),bnd_some',Int.toNat_natCast,Int.toNat_natCast];rfl
 refine⟨⟨fun a b h=>⟨h.2.1,h.1,h.2.2.1.symm,h.2.2.2.2,h.2.2.2.1⟩,fun a b c h1 h2=>tr _ _ _ h1 h2,fun h i j hi hj hg=>?_,hsw⟩,rf,tr,mk1,mk2,fun x h hh=>?_,fun h i' h' h0 hh hl' hd=>?_,fun h i' h' h0 hh hd hu=>?_⟩
 ·obtain⟨c,c1,c2,c3⟩:=hc _ _ hg;have e:less (i:Int) (j:Int) h=some (decide (c<0∨c=0∧which (h.getD i d)<which (h.getD j d))):=by
   rw[hless,idx_len d hi,bnd_some',idx_len d hj,bnd_some',idx_head z hg.1,bnd_some',idx_head z hg.2.1,bnd_some',c1,bnd_some'];by_cases c0:c=0
   ·rw[if_pos c0];congr 1;exact decide_eq_decide.2 ⟨fun h=>.inr ⟨c0,h⟩,fun h=>h.elim (fun h=>by omega) (·.2)⟩
   ·rw[if_neg c0];congr 1;exact decide_eq_decide.2 ⟨.inl,fun h=>h.elim id fun h=>absurd h.1 c0⟩
  exact⟨_,e,fun h=>c2 (of_decide_eq_true h),fun h=>c3 (of_decide_eq_false h)⟩
 ·rw[hpush,app_of (by simp only[List.length_cons,List.length_nil]; omega),bnd_some',bnd_some',bnd_some',bnd_r,bnd_r,List.length_append,List.length_cons,List.length_nil,w64_id ⟨by omega,by omega⟩,show ((h.length+(0+1):Nat):Int)-1=(h.length:Int) by omega]
 ·rw[hpop,bnd_some',w64_id ⟨by omega,by omega⟩,show (h.length:Int)-1=((h.length-1:Nat):Int) by omega,show (0:Int)=((0:Nat):Int) from rfl,hsw h 0 (h.length-1) h0 (by omega),bnd_some'];rw[show loop (downR less swap ((h.length-1:Nat):Int)) (((0:Nat):Int),sw d h 0 (h.length-1))=_ from hd,bnd_some',bnd_some'];dsimp only;rw[hl',w64_id ⟨by omega,by omega⟩,show (h.length:Int)-1=((h.length-1:Nat):Int) by omega,idx_len d (by omega),bnd_some',cut_of ⟨by omega,by omega,by omega⟩,bnd_some',bnd_some'];exact⟨_,by rw[Int.toNat_natCast]; rfl⟩
 ·rw[hfix,bnd_some',hd,bnd_some',bnd_some'];dsimp only;split
  ·rfl
  ·rw[hu,bnd_some',bnd_some']
theorem count_gen {f:Int × Int→Option (Lp (Int × Int) Int)} (L:List (List T)) (hL:L.length≤100000) (ht:L.flatten.length≤100000)
 (hf:∀ s,f s=if s.2<(L.length:Int) then bnd (idx L s.2) fun x11=>some (Lp.next (w64 (s.1+(x11.length:Int)),w64 (s.2+1))) else some (Lp.done s.1)):loop f (0,0)=some (L.flatten.length:Int):=by
 refine loop_fold (f:=f) (fun i (s:Int)=>(s,i)) L (fun pre=>(pre.flatten.length:Int)) (fun pre x suf hs=>?_) ?_
 ·have hl:L.length=pre.length+(suf.length+1):=by rw[hs]; simp
  have h2:L.flatten.length=pre.flatten.length+(x.length+suf.flatten.length):=by rw[hs]; simp
  rw[hf];dsimp only;rw[if_pos (by omega),show idx L (pre.length:Int)=some x by rw[hs]; exact idx_at _ _ _,bnd_some',w64_id ⟨by omega,by omega⟩,w64_id ⟨by omega,by omega⟩];simp
 ·rw[hf];dsimp only;rw[if_neg (by omega)]
end
noncomputable def rt (w:List UInt8) (r:row_Row) (c:Int):List UInt8:=(order_text r c w).getD []
noncomputable def stR (w:List UInt8) (ks:List (Int × Bool)) (r s:row_Row):Int:=stK (rt w r) (rt w s) ks
theorem stR_cm (w:List UInt8) (ks:List (Int × Bool)):Cm (stR w ks):=⟨fun a b=>(stK_cm ks).an _ _,fun a b d=>(stK_cm ks).tr _ _ _⟩
theorem rt_eq {w:List UInt8} (hw:w.length≤4096) {d:Dr} (hd:okD w d):rt w (dR w d)=txtAt w d:=funext fun c=>by unfold rt; rw[otext_eq hw hd]; rfl
theorem stR_eq {w:List UInt8} (hw:w.length≤4096) {d e:Dr} (hd:okD w d) (he:okD w e) (ks:List (Int × Bool)):stR w ks (dR w d) (dR w e)=stD w ks d e:=by unfold stR stD; rw[rt_eq hw hd,rt_eq hw he]
theorem Cm.rf {α:Type} {c:α→α→Int} (h:Cm c) (a:α):c a a=0:=by have:=h.an a a; omega
theorem standR {w:List UInt8} (hw:w.length≤4096) {ds:List Dr} (hD:∀ d∈ds,okD w d) {ks:List order_By} (hk:ks.length≤1000):∀ x∈ds.map (dR w),∀ y∈ds.map (dR w),order_standing_1 x y ks w=some (stR w (ks.map kB) x y):=fun x hx y hy=>by
 obtain⟨d,hd,rfl⟩:=List.mem_map.1 hx;obtain⟨e,he,rfl⟩:=List.mem_map.1 hy;rw[stand_eq hw (hD d hd) (hD e he) ks hk,stR_eq hw (hD d hd) (hD e he)]
theorem runsR {w:List UInt8} (hw:w.length≤4096) {ds:List Dr} (hD:∀ d∈ds,okD w d) (hl:ds.length≤400) {ks:List order_By} (hk:ks.length≤1000) :
 ∃ L,merge_Runs_row_Row (ds.map (dR w)) ks w=some L∧L.flatten=ds.map (dR w)∧(∀ r∈L,r≠[]∧r.Pairwise fun a b=>stR w (ks.map kB) a b≤0)∧L.length≤(ds.map (dR w)).length∧(L.length≤1↔(ds.map (dR w)).Pairwise fun a b=>stR w (ks.map kB) a b≤0):=by
 have cm:=stR_cm w (ks.map kB);have hml:(ds.map (dR w)).length=ds.length:=List.length_map _;obtain⟨L,h1,h2⟩:=runs_ok (leT:=fun a b=>stR w (ks.map kB) a b≤0) (fun x y v=>cm.tr x y v) (fun x=>by rw[cm.rf]; exact Int.le_refl 0) (cmp:=fun x y=>order_standing_1 x y ks w) (clone:=fun _ _ r=>slices_Clone_row_Row_row_Row r) (ds.map (dR w)) (by omega) (C:=stR w (ks.map kB)) (standR hw hD hk) (fun _ _=>Iff.rfl) (fun lo hi r hr _=>by
  unfold slices_Clone_row_Row_row_Row;rw[app_of (by simp only[List.length_nil]; omega),bnd_some']; rfl) (f:=merge_Runs_row_Row.l1 (ds.map (dR w)) ks w) (fun s=>rfl)
 refine⟨L,?_,h2⟩;unfold merge_Runs_row_Row;rw[h1,bnd_some']
theorem sortR {w:List UInt8} (hw:w.length≤4096) {ds:List Dr} (hD:∀ d∈ds,okD w d) (hl:ds.length≤400) {ks:List order_By} (hk:ks.length≤1000) :
 ∃ out,merge_Sort_row_Row (ds.map (dR w)) ks w=some out∧(out.Pairwise fun a b=>stR w (ks.map kB) a b≤0)∧out.Perm (ds.map (dR w)):=by
 have cm:=stR_cm w (ks.map kB);have hml:(ds.map (dR w)).length=ds.length:=List.length_map _;obtain⟨L,h1,h2,h3,h4,h5⟩:=runsR hw hD hl hk;have M:MgOk (⟨[],0⟩:merge_run_damier_row_Row) (fun i j h=>merge_runs_row_Row_Less i j h ks w) (fun i j h=>merge_runs_row_Row_Swap i j h ks w) (fun a b=>stR w (ks.map kB) a b≤0) (fun r=>r.fRest) (fun r=>r.fWhich) (fun l v=>⟨l,v⟩) (⟨[],0,false⟩:row_Row) L (fun x h=>container_heap_Push_4 x h ks w) (fun h=>container_heap_Pop_2 h ks w) (fun h=>container_heap_Fix_2 0 h ks w):=
  mg_mk (cmp:=fun x y=>order_standing_1 x y ks w) ⟨[],0,false⟩ (fun x=>by rw[cm.rf]; exact Int.le_refl 0) (fun x y v=>cm.tr x y v) (fun _ _=>rfl) (fun _ _=>rfl) (fun _ _ _=>rfl) (fun _ _ _=>rfl) (fun _ _=>rfl) (fun _=>rfl) (fun _=>rfl) (fun a b hg=>by
   have hin:∀ a:merge_run_damier_row_Row,a.fRest≠[]→RV (fun r=>r.fRest) (fun r=>r.fWhich) L a→a.fRest.headD ⟨[],0,false⟩∈ds.map (dR w):=fun a ha hv=>by
    rw[← h2];have hm:a.fRest.headD ⟨[],0,false⟩∈a.fRest:=by
     cases hq:a.fRest with
     | nil=>exact absurd hq ha
     | cons x l=>exact List.mem_cons_self
    have hx:=hv.2.2 _ hm;have v1:=hv.1;have v2:=hv.2.1;rw[gD_at [] (by omega)] at hx;exact List.mem_flatten.2 ⟨_,List.getElem_mem _,hx⟩
   refine⟨_,standR hw hD hk _ (hin a hg.1 hg.2.2.2.1) _ (hin b hg.2.1 hg.2.2.2.2),fun h=>by omega,fun h=>?_⟩;rw[cm.an]; omega)
 obtain⟨h,out,o1,o2,o3,o4⟩:=first_ok M (by omega) (fun r hr=>(h3 r hr).2) rfl (by rw[h2]; omega) 40 (by omega) (f1:=merge_first_row_Row.l1 L ks w) (f2:=merge_first_row_Row.l2 (L.flatten.length:Int) ks w) (fun _=>rfl) (fun _=>rfl);refine⟨out,?_,o3,by rw[← h2]; exact o4⟩;unfold merge_Sort_row_Row merge_Merge_row_Row merge_count_row_Row merge_first_row_Row;rw[h1,bnd_some',show loop (merge_count_row_Row.l1 L) (0,0)=_ from count_gen L (by omega) (by rw[h2]; omega) (fun _=>rfl),bnd_some',bnd_some',o1,bnd_some',o2,bnd_some',bnd_some',bnd_some']
theorem fst_at {T:Type} (eq:T→T→Bool) (z:T) {s:List T} {i:Nat} (h0:0<i) (h:i<s.length):fst eq z s i = !(eq s[i] s[i-1]):=by
 unfold fst;rw[gD_at z h,gD_at z (by omega),beq_eq_false_iff_ne.2 (by omega),Bool.false_or]
theorem fillZ_len {T:Type} (l:List T) {lo hi:Int} (z:T) (h:0≤lo∧lo≤hi∧hi≤l.length):(fillZ l lo hi z).length=l.length:=by
 unfold fillZ;simp only[List.length_append,List.length_take,List.length_replicate,List.length_drop];omega
section
variable {w:List UInt8} {ks:List order_By} (z:row_Row) {s:List row_Row} {eq:row_Row→row_Row→Bool}
theorem compact1 (he:∀ x∈s,∀ y∈s,order_Kinds_1 x y ks w=some (eq x y)) (hl:s.length≤400) (k:Nat):∀ (n j K:Nat) (arr:List row_Row),k+j+n=s.length→1≤j→arr.length=s.length→(∀ i,k+j-1≤i→i<s.length→arr[i]? = s[i]?)→K=cnt eq z s (k+j)→K≤k+j-1 →
 ∃ arr',loop (slices_CompactFunc_row_Row_row_Row.l1 s ks w (k:Int)) ((K:Int),(j:Int),arr)=some ((cnt eq z s s.length:Int),arr')∧arr'.length=s.length:=by
 intro n
 induction n with
 | zero=>
  intro j K arr hn hj ha hs hK hKl;refine⟨arr,loop_done ?_,ha⟩;unfold slices_CompactFunc_row_Row_row_Row.l1;dsimp only;rw[cut_of ⟨by omega,by omega,by omega⟩,bnd_some',Int.toNat_natCast,Int.toNat_natCast,if_neg (by simp only[List.length_drop,List.length_take]; omega),hK,show k+j=s.length by omega]
 | succ n ih=>
  intro j K arr hn hj ha hs hK hKl;have hi:k+j<s.length:=by omega
  have e1:arr[k+j]? = some s[k+j]:=by rw[hs _ (by omega) hi]; exact List.getElem?_eq_getElem hi
  have e2:arr[k+(j-1)]? = some (s[k+j-1]'(by omega)):=by rw[hs _ (by omega) (by omega),List.getElem?_eq_getElem (by omega)]; congr 1; congr 1; omega
  have hf:=fst_at eq z (s:=s) (i:=k+j) (by omega) hi;have hc:=cnt_succ eq z s (k+j);have step:slices_CompactFunc_row_Row_row_Row.l1 s ks w (k:Int) ((K:Int),(j:Int),arr)=if eq s[k+j] (s[k+j-1]'(by omega))=true then some (.next ((K:Int),((j+1:Nat):Int),arr)) else some (.next (((K+1:Nat):Int),((j+1:Nat):Int),arr.set K s[k+j])):=by
   unfold slices_CompactFunc_row_Row_row_Row.l1;dsimp only;rw[cut_of ⟨by omega,by omega,by omega⟩,bnd_some',Int.toNat_natCast,Int.toNat_natCast,List.take_of_length_le (by omega),if_pos (by rw[List.length_drop]; omega),idx_nat (by rw[List.getElem?_drop]; exact e1),bnd_some',w64_id ⟨by omega,by omega⟩,show (j:Int)-1=((j-1:Nat):Int) by omega,idx_nat (by rw[List.getElem?_drop]; exact e2),bnd_some',he _ (List.getElem_mem _) _ (List.getElem_mem _),bnd_some',w64_id ⟨by omega,by omega⟩];split
   ·rw[bnd_some',w64_id ⟨by omega,by omega⟩]; rfl
   ·rw[idx_nat (List.getElem?_eq_getElem (show K<arr.length by omega)),bnd_some',bnd_some',w64_id (x:=(j:Int)+1) ⟨by omega,by omega⟩,Int.toNat_natCast];rfl
  by_cases c:eq s[k+j] (s[k+j-1]'(by omega))=true
  ·rw[if_pos c] at step;rw[c] at hf;rw[hf] at hc;obtain⟨arr',h1,h2⟩:=ih (j+1) K arr (by omega) (by omega) ha (fun i h1 h2=>hs i (by omega) h2) (by rw[hK,← Nat.add_assoc,hc]; simp) (by omega);exact⟨arr',loop_next step h1,h2⟩
  ·rw[if_neg c] at step;rw[Bool.eq_false_iff.2 c] at hf;rw[hf] at hc;obtain⟨arr',h1,h2⟩:=ih (j+1) (K+1) (arr.set K s[k+j]) (by omega) (by omega) (by rw[List.length_set]; exact ha) (fun i h1 h2=>by rw[List.getElem?_set_ne (by omega)]; exact hs i (by omega) h2) (by rw[hK,← Nat.add_assoc,hc]; simp) (by omega);exact⟨arr',loop_next step h1,h2⟩
theorem compact2 (he:∀ x∈s,∀ y∈s,order_Kinds_1 x y ks w=some (eq x y)) (hl:s.length≤400):∀ (n i:Nat),i+n=s.length→1≤i→cnt eq z s i=i →
 ∃ e,loop (slices_CompactFunc_row_Row_row_Row.l2 s ks w) (i:Int)=some e∧(match e with | .brk _=>cnt eq z s s.length=s.length | .ret v=>∃ a,v = .inr (0,(cnt eq z s s.length:Int),a)∧a.length=s.length):=by
 intro n
 induction n with
 | zero=>
  intro i hn hi hc;refine⟨.brk (),loop_done ?_,by rw[show s.length=i by omega]; exact hc⟩;unfold slices_CompactFunc_row_Row_row_Row.l2;rw[if_neg (by omega)]
 | succ n ih=>
  intro i hn hi hc;have hlt:i<s.length:=by omega
  have hf:=fst_at eq z (s:=s) (i:=i) (by omega) hlt;have hc1:=cnt_succ eq z s i;have hk:=cnt_le eq z s s.length;by_cases c:eq s[i] (s[i-1]'(by omega))=true
  ·rw[c] at hf;rw[hf] at hc1;obtain⟨a,a1,a2⟩:=compact1 z he hl i (n:=n) (j:=1) (K:=i) (arr:=s) (by omega) (Nat.le_refl 1) rfl (fun _ _ _=>rfl) (by rw[hc1,hc]; simp) (by omega);have hz:=fillZ_len a (lo:=(cnt eq z s s.length:Int)) (hi:=(a.length:Int)) (⟨[],0,false⟩:row_Row) ⟨by omega,by omega,by omega⟩;refine⟨.ret (.inr (0,(cnt eq z s s.length:Int),_)),loop_done ?_,_,rfl,hz.trans a2⟩;unfold slices_CompactFunc_row_Row_row_Row.l2;rw[if_pos (by omega),idx_nat (List.getElem?_eq_getElem hlt),bnd_some',w64_id ⟨by omega,by omega⟩,show (i:Int)-1=((i-1:Nat):Int) by omega,idx_nat (List.getElem?_eq_getElem (show i-1<s.length by omega)),bnd_some',he _ (List.getElem_mem _) _ (List.getElem_mem _),bnd_some',if_pos c,cut_of ⟨by omega,by omega,by omega⟩,bnd_some',show loop (slices_CompactFunc_row_Row_row_Row.l1 s ks w (i:Int)) ((i:Int),1,s)=_ from a1,bnd_some'];dsimp only;rw[cut_of (l:=a) ⟨by omega,by omega,by omega⟩,bnd_some',cut_of ⟨by omega,by omega,by omega⟩,bnd_some']
  ·rw[Bool.eq_false_iff.2 c] at hf;rw[hf] at hc1;obtain⟨e,h1,h2⟩:=ih (i+1) (by omega) (by omega) (by rw[hc1,hc]; simp);refine⟨e,loop_next (s':=((i+1:Nat):Int)) ?_ h1,h2⟩;unfold slices_CompactFunc_row_Row_row_Row.l2;rw[if_pos (by omega),idx_nat (List.getElem?_eq_getElem hlt),bnd_some',w64_id ⟨by omega,by omega⟩,show (i:Int)-1=((i-1:Nat):Int) by omega,idx_nat (List.getElem?_eq_getElem (show i-1<s.length by omega)),bnd_some',he _ (List.getElem_mem _) _ (List.getElem_mem _),bnd_some',if_neg c,w64_id ⟨by omega,by omega⟩];rfl
theorem compact_eq (he:∀ x∈s,∀ y∈s,order_Kinds_1 x y ks w=some (eq x y)) (hl:s.length≤400):(bnd (slices_CompactFunc_row_Row_row_Row s ks w) fun x7=>match x7 with
 | .inl x7=>some (s.length:Int)
 | .inr x7=>bnd (cut x7.2.2 x7.1 x7.2.1) fun x8=>some (x8.length:Int))=some (cnt eq z s s.length:Int):=by
 have c1:0<s.length→cnt eq z s 1=1:=fun _=>by rw[cnt_succ]; rfl
 unfold slices_CompactFunc_row_Row_row_Row;by_cases c:s.length<2
 ·rw[if_pos (by omega),bnd_some'];rcases Nat.lt_or_ge 0 s.length with h|h
  ·have:=c1 h;dsimp only;rw[show s.length=1 by omega,this]
  ·dsimp only;rw[show s.length=0 by omega]; rfl
 ·rw[if_neg (by omega)];obtain⟨e,h1,h2⟩:=compact2 z he hl (s.length-1) 1 (by omega) (Nat.le_refl 1) (c1 (by omega));rw[show loop (slices_CompactFunc_row_Row_row_Row.l2 s ks w) 1=_ from h1,bnd_some'];cases e with
  | brk u=>
   dsimp only at h2 ⊢;rw[bnd_some',h2]
  | ret v=>
   obtain⟨a,rfl,h3⟩:=h2;have hk:=cnt_le eq z s s.length;dsimp only;rw[bnd_some'];dsimp only;rw[cut_of ⟨by omega,by omega,by omega⟩,bnd_some',Int.toNat_natCast];congr 1;simp only[List.length_drop,List.length_take,Int.toNat_zero];omega
end
theorem kF_map {T U:Type} (g:T→U) (eq:U→U→Bool):∀ (l pre:List T),kF eq (pre.map g) (l.map g)=(kF (fun a b=>eq (g a) (g b)) pre l).map g
 | [],pre=>rfl
 | x::l,pre=>by
  rw[List.map_cons,kF,kF,show pre.map g++[g x]=(pre++[x]).map g by simp,kF_map g eq l (pre++[x]),List.any_map];show (if (pre.any fun a=>eq (g x) (g a))=true then _ else _)=_;split <;> rfl
theorem kF_congr {T:Type} {e1 e2:T→T→Bool}:∀ (l pre:List T),(∀ a,a∈l∨a∈pre→∀ b,b∈l∨b∈pre→e1 a b=e2 a b)→kF e1 pre l=kF e2 pre l
 | [],pre,_=>rfl
 | x::l,pre,h=>by
  have mm:∀ a,a∈l∨a∈pre++[x]→a∈x::l∨a∈pre:=fun a ha=>ha.elim (fun h=>.inl (List.mem_cons_of_mem _ h)) fun h=>(List.mem_append.1 h).elim .inr fun h=>.inl (by rw[List.mem_singleton.1 h]; exact List.mem_cons_self);have ih:=kF_congr (e1:=e1) (e2:=e2) l (pre++[x]) (fun a ha b hb=>h a (mm a ha) b (mm b hb));have e:pre.any (e1 x)=pre.any (e2 x):=by
   rw[Bool.eq_iff_iff,List.any_eq_true,List.any_eq_true];constructor
   ·rintro ⟨y,hy,h2⟩;exact⟨y,hy,by rw[← h x (.inl List.mem_cons_self) y (.inr hy)]; exact h2⟩
   ·rintro ⟨y,hy,h2⟩;exact⟨y,hy,by rw[h x (.inl List.mem_cons_self) y (.inr hy)]; exact h2⟩
  rw[kF,kF,ih,e]
def kinds (w:List UInt8) (D:List Dr) (c:Int):Nat:=(kF (fun d e=>cmpT (txtAt w d c) (txtAt w e c)==0) [] (vr D)).length
theorem stD_one (w:List UInt8) (c:Int) (d e:Dr):stD w [(c,false)] d e=cmpT (txtAt w d c) (txtAt w e c):=by
 unfold stD stK;by_cases h:fl false (cmpT (txtAt w d c) (txtAt w e c))=0
 ·rw[if_pos h]; exact h.symm
 ·rw[if_neg h]; rfl
theorem okinds_eq {w:List UInt8} (hw:w.length≤4096) {D:List Dr} (hD:∀ d∈D,okD w d) (hl:D.length≤400) {t:tTr} (ht:IsT t (D.map (dR w))) (tl:Bool) (e:Int) (c:Int):order_Kinds ⟨t,tl,e⟩ c w=some (kinds w D c:Int):=by
 have hv:=visL_len D 0;have hvl:=vr_len D;have hok:=vr_ok hD;have cm:=stR_cm w [(c,false)];obtain⟨out,o1,o2,o3⟩:=sortR hw hok (by omega) (ks:=[⟨c,false⟩]) (by simp);have hol:=o3.length_eq;rw[List.length_map] at hol;unfold order_Kinds order_standing;rw[ovis_eq ht hl,bnd_some',bnd_some',o1,bnd_some'];have hm:∀ x∈out,x∈(vr D).map (dR w):=fun x hx=>o3.mem_iff.1 hx;have hcp:=compact_eq (⟨[],0,false⟩:row_Row) (w:=w) (ks:=[⟨c,false⟩]) (s:=out) (eq:=fun a b=>stR w [(c,false)] a b==0) (fun x hx y hy=>by
  unfold order_Kinds_1;rw[standR hw hok (ks:=[⟨c,false⟩]) (by simp) x (hm x hx) y (hm y hy),bnd_some']; rfl) (by omega)
 rw[cnt_kinds (C:=stR w [(c,false)]) (fun a b=>cm.an a b) (fun a b d=>cm.tr a b d) ⟨[],0,false⟩ o3 o2] at hcp;have hk:=kF_map (dR w) (fun a b=>stR w [(c,false)] a b==0) (vr D) [];rw[List.map_nil] at hk;rw[hk,List.length_map,kF_congr (e2:=fun d e=>cmpT (txtAt w d c) (txtAt w e c)==0) (vr D) [] (fun a ha b hb=>by
  rw[stR_eq hw (hok a (ha.resolve_right (by simp))) (hok b (hb.resolve_right (by simp))),stD_one])] at hcp
 exact hcp
theorem rkinds_eq {w:List UInt8} {D:List Dr} (hD:∀ d∈D,okD w d) (hl:D.length≤400) (tl:Bool) (e:Int) (c:Int):ref16_Kinds ⟨D.map (dW w),tl,e⟩ c=some (kinds w D c:Int):=by
 have hv:=visL_len D 0;unfold ref16_Kinds kinds vr;have hml:(D.map (dW w)).length=D.length:=List.length_map _;have hk:=kF_map (fun x:Int=>D.getD x.toNat dz) (fun d e=>cmpT (txtAt w d c) (txtAt w e c)==0) (visL D 0) [];rw[List.map_nil] at hk;rw[hk,List.length_map,rvis_eq w D hl,bnd_some'];have hg:∀ x∈visL D 0,idx (D.map (dW w)) x=some (dW w (D.getD x.toNat dz))∧okD w (D.getD x.toNat dz):=fun x hx=>by
  have hi:=visL_in D 0 x hx;have hlt:x.toNat<D.length:=by omega
  rw[gD_at dz hlt];exact⟨idx_int hi.1 (by rw[List.getElem?_map,List.getElem?_eq_getElem hlt]; rfl),hD _ (List.getElem_mem _)⟩
 generalize hq:(fun a b:Int=>cmpT (txtAt w (D.getD a.toNat dz) c) (txtAt w (D.getD b.toNat dz) c)==0)=eq;have hlp:=loop_fold (f:=ref16_Kinds.l2 ⟨D.map (dW w),tl,e⟩ c (visL D 0)) (fun i (s:Int)=>(s,i)) (visL D 0) (fun pre=>((kF eq [] pre).length:Int)) (t:=((kF eq [] (visL D 0)).length:Int)) (fun pre x suf hs=>by
  have hlen:(visL D 0).length=pre.length+(suf.length+1):=by rw[hs]; simp
  have hx:=hg x (by rw[hs]; simp);have hlx:=txtAt_len hx.2 c;have hin:=loop_fold (f:=ref16_Kinds.l1 ⟨D.map (dW w),tl,e⟩ c x pre) (fun i (s:Bool)=>(s,i)) pre (fun p=>!(p.any (eq x))) (t:=!(pre.any (eq x))) (fun p y s' hs'=>by
   have hl2:pre.length=p.length+(s'.length+1):=by rw[hs']; simp
   have hy:=hg y (by rw[hs,hs']; simp);have hly:=txtAt_len hy.2 c;unfold ref16_Kinds.l1;dsimp only;rw[if_pos (by omega),show idx pre (p.length:Int)=some y by rw[hs']; exact idx_at _ _ _,bnd_some',hx.1,bnd_some',rtext_eq,bnd_some',hy.1,bnd_some',rtext_eq,bnd_some',rcompare_eq _ _ (by omega) (by omega),bnd_some',w64_id ⟨by omega,by omega⟩,List.any_append];rw[show (cmpT (txtAt w (D.getD x.toNat dz) c) (txtAt w (D.getD y.toNat dz) c)==0)=eq x y by rw[← hq]];cases p.any (eq x) with
   | true=>rfl
   | false=>simp) (by
   unfold ref16_Kinds.l1;dsimp only;rw[if_neg (by omega)])
  have hkl:=kF_le eq pre [];unfold ref16_Kinds.l2;dsimp only;rw[if_pos (by omega),show idx (visL D 0) (pre.length:Int)=some x by rw[hs]; exact idx_at _ _ _,bnd_some',show cut (visL D 0) 0 (pre.length:Int)=some pre by rw[cut_of ⟨by omega,by omega,by omega⟩,Int.toNat_natCast,hs]; simp,bnd_some',show loop (ref16_Kinds.l1 ⟨D.map (dW w),tl,e⟩ c x pre) (true,0)=_ from hin,bnd_some',kF_snoc,List.nil_append,w64_id (x:=(pre.length:Int)+1) ⟨by omega,by omega⟩];cases pre.any (eq x) with
  | true=>rw[if_neg (by simp),bnd_some',if_pos rfl,List.append_nil]
  | false=>rw[if_pos (show (!false)=true from rfl),bnd_some',if_neg (by simp),w64_id ⟨by omega,by omega⟩,List.length_append]; rfl) (by
  unfold ref16_Kinds.l2;dsimp only;rw[if_neg (by omega)])
 rw[show loop (ref16_Kinds.l2 ⟨D.map (dW w),tl,e⟩ c (visL D 0)) (0,0)=_ from hlp,bnd_some']
def leS (C:Int→Int→Int) (i j:Int):Prop:=C i j<0∨C i j=0∧i≤j
theorem leS_rf {C:Int→Int→Int} (h:Cm C) (x:Int):leS C x x:=.inr ⟨h.rf x,Int.le_refl x⟩
theorem leS_tr {C:Int→Int→Int} (h:Cm C) (x y v:Int) (h1:leS C x y) (h2:leS C y v):leS C x v:=by
 have a1:=h.an x y;have a2:=h.an y v;have a3:=h.an x v;have t1:=h.tr x y v;have t2:=h.tr v x y;have t3:=h.tr y v x;unfold leS at *;omega
def rightB (ks:List (Int × Bool)):Bool:=decide (ks≠[])&&ks.all fun k=>decide (0≤k.1∧k.1<40)
theorem oright_eq (a:List order_By) (ha:a.length≤1000):order_Right a=some (rightB (a.map kB)):=by
 have hI:slices_IndexFunc_order_By_order_By a=some (if (a.map kB).all (fun k=>decide (0≤k.1∧k.1<40))=true then (-1:Int) else ((a.findIdx fun k=>!decide (0≤k.fCol∧k.fCol<40):Nat):Int)):=by
  have hone:∀ x:order_By,order_Right_1 x=some (!decide (0≤x.fCol∧x.fCol<40)):=fun x=>by
   unfold order_Right_1;by_cases c:x.fCol<0
   ·rw[if_pos c,bnd_some',decide_eq_false (by omega)]; rfl
   ·rw[if_neg c,bnd_some',← decide_not];congr 1;exact decide_eq_decide.2 (by omega)
  unfold slices_IndexFunc_order_By_order_By;obtain⟨q,h1,h2⟩:=loop_for (f:=slices_IndexFunc_order_By_order_By.l1 a) (fun i (_:Unit)=>i) a (fun pre _=>pre.all (fun k=>decide (0≤k.fCol∧k.fCol<40))=true) (fun q=>q=if (a.map kB).all (fun k=>decide (0≤k.1∧k.1<40))=true then .brk () else .ret ((a.findIdx fun k=>!decide (0≤k.fCol∧k.fCol<40):Nat):Int)) (fun pre x suf s hs hI=>by
   have hl:a.length=pre.length+(suf.length+1):=by rw[hs]; simp
   unfold slices_IndexFunc_order_By_order_By.l1;rw[if_pos (by omega),show idx a (pre.length:Int)=some x by rw[hs]; exact idx_at _ _ _,bnd_some',hone,bnd_some'];cases hd:decide (0≤x.fCol∧x.fCol<40) with
   | true=>
    rw[if_neg (by simp),w64_id ⟨by omega,by omega⟩];exact .inl ⟨(),rfl,by rw[List.all_append,hI]; simp only[List.all_cons,List.all_nil,hd]; rfl⟩
   | false=>
    rw[if_pos (by rfl)];refine .inr ⟨_,rfl,?_⟩;have hn:¬ (a.map kB).all (fun k=>decide (0≤k.1∧k.1<40))=true:=fun h=>by
     have:=List.all_eq_true.1 h (kB x) (List.mem_map_of_mem (by rw[hs]; simp));rw[show decide (0≤(kB x).1∧(kB x).1<40)=false from hd] at this; cases this
    rw[if_neg hn];congr 2;rw[hs,List.findIdx_append,List.findIdx_eq_length_of_false (fun y hy=>by rw[List.all_eq_true.1 hI y hy]; rfl),if_neg (by omega),List.findIdx_cons,hd];simp) (fun s hI=>by
   unfold slices_IndexFunc_order_By_order_By.l1;rw[if_neg (by omega)];refine⟨_,rfl,?_⟩;rw[if_pos (by rw[List.all_map]; exact hI)]) (s0:=()) rfl
  rw[show loop (slices_IndexFunc_order_By_order_By.l1 a) 0=_ from h1,bnd_some',h2];by_cases c:(a.map kB).all (fun k=>decide (0≤k.1∧k.1<40))=true
  ·rw[if_pos c,if_pos c]
  ·rw[if_neg c,if_neg c]
 unfold order_Right slices_ContainsFunc_order_By_order_By rightB;by_cases h0:a=[]
 ·subst h0; rfl
 ·have:0<a.length:=List.length_pos_iff.2 h0;rw[if_pos (by omega),hI,bnd_some',bnd_some',bnd_some',decide_eq_true (show a.map kB≠[] by simpa using h0),Bool.true_and];by_cases c:(a.map kB).all (fun k=>decide (0≤k.1∧k.1<40))=true
  ·rw[if_pos c,c]; rfl
  ·rw[if_neg c,Bool.eq_false_iff.2 c,decide_eq_true (by omega)]; rfl
def rangeN (n:Nat):List Int:=(List.range n).map fun i:Nat=>(i:Int)
theorem rangeN_len (n:Nat):(rangeN n).length=n:=by simp[rangeN]
theorem rangeN_succ (n:Nat):rangeN (n+1)=rangeN n++[(n:Int)]:=by simp[rangeN,List.range_succ]
theorem rangeN_mem {n:Nat} {x:Int}:x∈rangeN n↔0≤x∧x<(n:Int):=by
 unfold rangeN;rw[List.mem_map];constructor
 ·rintro ⟨i,hi,rfl⟩;have:=List.mem_range.1 hi;omega
 ·intro h;exact⟨x.toNat,List.mem_range.2 (by omega),by omega⟩
theorem rangeN_lt (n:Nat):(rangeN n).Pairwise (· < ·):=by
 unfold rangeN;rw[List.pairwise_map];exact (List.pairwise_lt_range (n:=n)).imp fun h=>by omega
theorem permI {w:List UInt8} (hw:w.length≤4096) {ds:List Dr} (hD:∀ d∈ds,okD w d) (hl:ds.length≤400) {ks:List order_By} (hk:ks.length≤1000) :
 ∃ out,merge_Perm_row_Row (ds.map (dR w)) ks w=some out∧(out.Pairwise (leS fun i j=>stD w (ks.map kB) (ds.getD i.toNat dz) (ds.getD j.toNat dz)))∧out.Perm (rangeN ds.length):=by
 have hml:(ds.map (dR w)).length=ds.length:=List.length_map _;have cD:=stD_cm w (ks.map kB);have cm:Cm (fun i j:Int=>stD w (ks.map kB) (ds.getD i.toNat dz) (ds.getD j.toNat dz)):=⟨fun a b=>cD.an _ _,fun a b d=>cD.tr _ _ _⟩;have hc:∀ x∈rangeN ds.length,∀ y∈rangeN ds.length,merge_Perm_row_Row_1 x y (ds.map (dR w)) ks w=some (stD w (ks.map kB) (ds.getD x.toNat dz) (ds.getD y.toNat dz)):=fun x hx y hy=>by
  have hx:=rangeN_mem.1 hx;have hy:=rangeN_mem.1 hy;have ix:idx (ds.map (dR w)) x=some (dR w (ds[x.toNat]'(by omega))):=idx_int hx.1 (by rw[List.getElem?_map,List.getElem?_eq_getElem (by omega)]; rfl);have iy:idx (ds.map (dR w)) y=some (dR w (ds[y.toNat]'(by omega))):=idx_int hy.1 (by rw[List.getElem?_map,List.getElem?_eq_getElem (by omega)]; rfl);unfold merge_Perm_row_Row_1;rw[ix,bnd_some',iy,bnd_some',stand_eq hw (hD _ (List.getElem_mem _)) (hD _ (List.getElem_mem _)) ks hk,bnd_some',gD_at dz (by omega),gD_at dz (by omega)]
 generalize hC:(fun i j:Int=>stD w (ks.map kB) (ds.getD i.toNat dz) (ds.getD j.toNat dz))=C at cm ⊢
 replace hc:∀ x∈rangeN ds.length,∀ y∈rangeN ds.length,merge_Perm_row_Row_1 x y (ds.map (dR w)) ks w=some (C x y):=fun x hx y hy=>by rw[hc x hx y hy,← hC]
 have hn:=rangeN_len ds.length;obtain⟨L,h1,h2,h3,h4,h5⟩:=runs_ok (leT:=fun a b=>C a b≤0) (fun x y v=>cm.tr x y v) (fun x=>by rw[cm.rf]; exact Int.le_refl 0) (cmp:=fun x y=>merge_Perm_row_Row_1 x y (ds.map (dR w)) ks w) (clone:=fun lo hi r=>slices_Clone_int_int lo hi (rangeN ds.length)) (rangeN ds.length) (by omega) (C:=C) hc (fun _ _=>Iff.rfl) (fun lo hi r hr hcut=>by
  unfold slices_Clone_int_int;rw[hcut,bnd_some',app_of (by simp only[List.length_nil]; omega),bnd_some']; rfl) (f:=merge_Runs_int.l1 (rangeN ds.length) (ds.map (dR w)) ks w) (fun s=>rfl)
 have hlt:=rangeN_lt ds.length;rw[← h2,List.pairwise_flatten] at hlt;have hsl:∀ r∈L,r.Pairwise (leS C):=fun r hr=>((h3 r hr).2.and (hlt.1 r hr)).imp fun {a b} h=>by have:=h.1; have:=h.2; unfold leS; omega
 have hin:∀ a:merge_run_int,a.fRest≠[]→RV (fun r=>r.fRest) (fun r=>r.fWhich) L a→∃ hj:a.fWhich.toNat<L.length,a.fRest.headD 0∈L[a.fWhich.toNat]:=fun a ha hv=>by
  have hm:a.fRest.headD 0∈a.fRest:=by
   cases hq:a.fRest with
   | nil=>exact absurd hq ha
   | cons x l=>exact List.mem_cons_self
  have hx:a.fRest.headD 0∈L.getD a.fWhich.toNat []:=hv.2.2 _ hm;have v1:0≤a.fWhich:=hv.1;have v2:a.fWhich<(L.length:Int):=hv.2.1;rw[gD_at [] (by omega)] at hx;exact⟨by omega,hx⟩
 have M:MgOk (⟨[],0⟩:merge_run_int) (fun i j h=>merge_runs_int_Less i j h (ds.map (dR w)) ks w) (fun i j h=>merge_runs_int_Swap i j h (ds.map (dR w)) ks w) (leS C) (fun r=>r.fRest) (fun r=>r.fWhich) (fun l v=>⟨l,v⟩) (0:Int) L (fun x h=>container_heap_Push_2 x h (ds.map (dR w)) ks w) (fun h=>container_heap_Pop h (ds.map (dR w)) ks w) (fun h=>container_heap_Fix 0 h (ds.map (dR w)) ks w):=
  mg_mk (cmp:=fun x y=>merge_Perm_row_Row_1 x y (ds.map (dR w)) ks w) 0 (leS_rf cm) (leS_tr cm) (fun _ _=>rfl) (fun _ _=>rfl) (fun _ _ _=>rfl) (fun _ _ _=>rfl) (fun _ _=>rfl) (fun _=>rfl) (fun _=>rfl) (fun a b hg=>by
   obtain⟨ja,ma⟩:=hin a hg.1 hg.2.2.2.1;obtain⟨jb,mb⟩:=hin b hg.2.1 hg.2.2.2.2;have v1:0≤a.fWhich:=hg.2.2.2.1.1;have v2:0≤b.fWhich:=hg.2.2.2.2.1;have hne:=hg.2.2.1;have ia:a.fRest.headD 0∈rangeN ds.length:=by rw[← h2]; exact List.mem_flatten.2 ⟨_,List.getElem_mem _,ma⟩
   have ib:b.fRest.headD 0∈rangeN ds.length:=by rw[← h2]; exact List.mem_flatten.2 ⟨_,List.getElem_mem _,mb⟩
   have o1:a.fWhich<b.fWhich→a.fRest.headD 0<b.fRest.headD 0:=fun h=>List.pairwise_iff_getElem.1 hlt.2 _ _ ja jb (by omega) _ ma _ mb;have o2:b.fWhich<a.fWhich→b.fRest.headD 0<a.fRest.headD 0:=fun h=>List.pairwise_iff_getElem.1 hlt.2 _ _ jb ja (by omega) _ mb _ ma;have an:=cm.an (a.fRest.headD 0) (b.fRest.headD 0);refine⟨_,hc _ ia _ ib,fun h=>?_,fun h=>?_⟩
   ·unfold leS;rcases h with h|h
    ·exact .inl h
    ·have:=o1 h.2;exact .inr ⟨h.1,by omega⟩
   ·unfold leS;have hne':a.fWhich≠b.fWhich:=hne;by_cases c:C (a.fRest.headD 0) (b.fRest.headD 0)=0
    ·have:=o2 (by
      have:¬ a.fWhich<b.fWhich:=fun hh=>h (.inr ⟨c,hh⟩);omega)
     exact .inr ⟨by omega,by omega⟩
    ·exact .inl (by
      have:¬ C (a.fRest.headD 0) (b.fRest.headD 0)<0:=fun hh=>h (.inl hh);omega))
 obtain⟨h,out,o1,o2,o3,o4⟩:=first_ok M (by omega) hsl rfl (by rw[h2]; omega) 8 (by omega) (f1:=merge_first_int.l1 L (ds.map (dR w)) ks w) (f2:=merge_first_int.l2 (L.flatten.length:Int) (ds.map (dR w)) ks w) (fun _=>rfl) (fun _=>rfl);refine⟨out,?_,o3,by rw[← h2]; exact o4⟩;unfold merge_Perm_row_Row;rw[hml,mkz_of ⟨by omega,by omega⟩,bnd_some',Int.toNat_natCast];have hlp:=loop_nat (f:=merge_Perm_row_Row.l1 (List.replicate ds.length (0:Int))) (fun i (s:List Int)=>(i,s)) ds.length (fun k=>rangeN k++List.replicate (ds.length-k) (0:Int)) (t:=rangeN ds.length) (fun i hi=>by
  have hrl:=rangeN_len i;unfold merge_Perm_row_Row.l1;dsimp only;rw[if_pos (by rw[List.length_replicate]; omega),show ds.length-i=(ds.length-(i+1))+1 by omega,List.replicate_succ];have hi2:=idx_at (rangeN i) (0:Int) (List.replicate (ds.length-(i+1)) 0);rw[hrl] at hi2;rw[hi2,bnd_some',w64_id ⟨by omega,by omega⟩,Int.toNat_natCast,List.set_append_right _ _ (by omega),hrl,Nat.sub_self,List.set_cons_zero,rangeN_succ,List.append_assoc];rfl) (by
  unfold merge_Perm_row_Row.l1;dsimp only;rw[if_neg (by rw[List.length_replicate]; omega),Nat.sub_self,List.replicate_zero,List.append_nil])
 rw[show loop (merge_Perm_row_Row.l1 (List.replicate ds.length (0:Int))) (0,List.replicate ds.length (0:Int))=_ from hlp,bnd_some'];unfold merge_Sort_int merge_Runs_int merge_Merge_int merge_count_int merge_first_int;rw[h1,bnd_some',bnd_some',show loop (merge_count_int.l1 L) (0,0)=_ from count_gen L (by omega) (by rw[h2]; omega) (fun _=>rfl),bnd_some',bnd_some',o1,bnd_some',o2,bnd_some',bnd_some',bnd_some',bnd_some']
def cP (w:List UInt8) (ks:List (Int × Bool)) (D:List Dr) (x y:Int):Int:=stD w ks (D.getD x.toNat dz) (D.getD y.toNat dz)
theorem operm_eq {w:List UInt8} (hw:w.length≤4096) {D:List Dr} (hD:∀ d∈D,okD w d) (hl:D.length≤400) {t:tTr} (ht:IsT t (D.map (dR w))) (tl:Bool) (e:Int) {ks:List order_By} (hk:ks.length≤1000) :
 (rightB (ks.map kB)=true→∃ P,order_Perm ⟨t,tl,e⟩ ks w=some P∧P.Perm (visL D 0)∧P.Pairwise (leS (cP w (ks.map kB) D)))∧(rightB (ks.map kB)=false→order_Perm ⟨t,tl,e⟩ ks w=some []):=by
 have hv:=visL_len D 0;have hvl:=vr_len D;unfold order_Perm order_standing;rw[oright_eq ks hk,bnd_some'];refine⟨fun hr=>?_,fun hr=>by rw[hr,if_neg (by simp)]⟩;obtain⟨out,o1,o2,o3⟩:=permI hw (vr_ok hD) (by omega) hk;rw[hr,if_pos rfl,ovis_eq ht hl,bnd_some',bnd_some',o1,bnd_some'];have hol:out.length=(visL D 0).length:=by rw[o3.length_eq,rangeN_len,hvl]
 have hin:∀ x∈out,0≤x∧x<((visL D 0).length:Int):=fun x hx=>by
  have:=rangeN_mem.1 (o3.mem_iff.1 hx);omega
 have hlp:=loop_nat (f:=order_Perm.l1 ((vr D).map (dR w),visL D 0) out) (fun i (s:List Int)=>(i,s)) out.length (fun k=>(out.take k).map (fun i=>(visL D 0).getD i.toNat 0)++out.drop k) (t:=out.map (fun i=>(visL D 0).getD i.toNat 0)) (fun i hi=>by
  have hlt:((out.take i).map fun i=>(visL D 0).getD i.toNat 0).length=i:=by rw[List.length_map,List.length_take]; omega
  have hx:=hin out[i] (List.getElem_mem hi);unfold order_Perm.l1;dsimp only;rw[if_pos (by omega),List.drop_eq_getElem_cons hi];have hi2:=idx_at ((out.take i).map fun i=>(visL D 0).getD i.toNat 0) out[i] (out.drop (i+1));rw[hlt] at hi2;rw[hi2,bnd_some',show idx (visL D 0) out[i]=some ((visL D 0).getD out[i].toNat 0) by rw[gD_at 0 (by omega)]; exact idx_int hx.1 (List.getElem?_eq_getElem _),bnd_some',w64_id ⟨by omega,by omega⟩,Int.toNat_natCast,List.set_append_right _ _ (by omega),hlt,Nat.sub_self,List.set_cons_zero,List.take_succ_eq_append_getElem hi,List.map_append,List.append_assoc];rfl) (by
  unfold order_Perm.l1;dsimp only;rw[if_neg (by omega),List.take_length,List.drop_length,List.append_nil])
 refine⟨out.map (fun i=>(visL D 0).getD i.toNat 0),by rw[show loop (order_Perm.l1 ((vr D).map (dR w),visL D 0) out) (0,out)=_ from hlp,bnd_some'],?_,?_⟩
 ·have:=o3.map (fun i:Int=>(visL D 0).getD i.toNat 0);rwa[show (rangeN (vr D).length).map (fun i:Int=>(visL D 0).getD i.toNat 0)=visL D 0 by
   refine List.ext_getElem (by rw[List.length_map,rangeN_len,hvl]) fun i h1 h2=>?_;simp only[rangeN,List.getElem_map,List.getElem_range,Int.toNat_natCast];exact gD_at 0 h2] at this
 ·rw[List.pairwise_map];refine List.Pairwise.imp_of_mem (fun {i j} hi hj h=>?_) o2;have i1:=hin i hi;have j1:=hin j hj;have ei:(vr D).getD i.toNat dz=D.getD ((visL D 0).getD i.toNat 0).toNat dz:=by
   rw[gD_at dz (by omega),gD_at 0 (by omega:i.toNat<(visL D 0).length)]; simp[vr]
  have ej:(vr D).getD j.toNat dz=D.getD ((visL D 0).getD j.toNat 0).toNat dz:=by
   rw[gD_at dz (by omega),gD_at 0 (by omega:j.toNat<(visL D 0).length)]; simp[vr]
  unfold leS at h ⊢;unfold cP;dsimp only at h;rw[ei,ej] at h;rcases h with h|⟨h,h'⟩
  ·exact .inl h
  ·refine .inr ⟨h,?_⟩;rcases Int.lt_or_eq_of_le h' with c|rfl
   ·have:=List.pairwise_iff_getElem.1 (visL_lt D 0) i.toNat j.toNat (by omega) (by omega) (by omega);rw[gD_at 0 (by omega),gD_at 0 (by omega)];omega
   ·exact Int.le_refl _
theorem puts_at {T:Type} (z:T) (D:List T) {x:Int} (h0:0≤x) (h1:x<(D.length:Int)):∀ (ab:List (Int × Int)),(ab.map (·.1)).Nodup→(∀ p∈ab,0≤p.1)→((∀ y,(x,y)∈ab→(puts z D ab).getD x.toNat z=D.getD y.toNat z)∧((∀ y,(x,y) ∉ ab)→(puts z D ab).getD x.toNat z=D.getD x.toNat z)):=by
 intro ab
 induction hq:ab.length generalizing ab with
 | zero=>
  obtain rfl:=List.length_eq_zero_iff.1 hq;exact fun _ _=>⟨(fun y h=>nomatch h),fun _=>rfl⟩
 | succ n ih=>
  intro hnd hp;have hne:ab≠[]:=by rintro rfl; simp at hq
  have hs:=(List.dropLast_concat_getLast hne).symm;generalize ab.dropLast=ini at hs;generalize ab.getLast hne=p at hs;subst hs;rw[List.map_append,List.nodup_append] at hnd;obtain⟨i1,i2⟩:=ih ini (by simpa using hq) hnd.1 (fun q hq=>hp q (List.mem_append_left _ hq));have hpl:=puts_len z D ini;have hp0:=hp p (by simp);rw[puts_snoc,gD_at z (by rw[List.length_set]; omega),List.getElem_set];constructor
  ·intro y hy;rcases List.mem_append.1 hy with hy|hy
   ·have:p.1≠x:=fun h=>hnd.2.2 x (List.mem_map.2 ⟨_,hy,rfl⟩) p.1 (by simp) h.symm;rw[if_neg (by omega),← i1 y hy];exact (gD_at z (show x.toNat<(puts z D ini).length by omega)).symm
   ·obtain rfl:=List.mem_singleton.1 hy;rw[if_pos rfl]
  ·intro hno;have:p.1≠x:=fun h=>hno p.2 (by rw[← h]; simp);rw[if_neg (by omega),← i2 (fun y hy=>hno y (List.mem_append_left _ hy))];exact (gD_at z (show x.toNat<(puts z D ini).length by omega)).symm
def sortD (D:List Dr) (P:List Int):List Dr:=puts dz D ((visL D 0).zip P)
theorem vis_ok (D:List Dr):okM D.length (visL D 0):=⟨fun x hx=>by have:=visL_in D 0 x hx; omega,List.nodup_iff_pairwise_ne.2 ((visL_lt D 0).imp fun h=>by omega)⟩
theorem perm_ok {D:List Dr} {P:List Int} (hP:P.Perm (visL D 0)):PutOk D.length (visL D 0) P:=⟨vis_ok D,⟨fun x hx=>(vis_ok D).1 x (hP.mem_iff.1 hx),hP.nodup_iff.2 (vis_ok D).2⟩,fun x=>hP.mem_iff.symm⟩
theorem sortD_len {D:List Dr} {P:List Int} (hP:P.Perm (visL D 0)):(sortD D P).length=D.length:=puts_len _ _ _
theorem sortD_vis {D:List Dr} {P:List Int} (hP:P.Perm (visL D 0)) {k:Nat} (hk:k<P.length):(sortD D P).getD ((visL D 0)[k]'(by rw[← hP.length_eq]; exact hk)).toNat dz=D.getD P[k].toNat dz:=by
 have hl:=hP.length_eq;have hz:k<((visL D 0).zip P).length:=by rw[List.length_zip]; omega
 have hv:=(vis_ok D).1 _ (List.getElem_mem (show k<(visL D 0).length by omega));refine (puts_at dz D hv.1 hv.2 ((visL D 0).zip P) (by rw[List.map_fst_zip (by omega)]; exact (vis_ok D).2) (fun p hp=>((vis_ok D).1 _ (List.of_mem_zip hp).1).1)).1 _ ?_;rw[← List.getElem_zip (h:=hz)];exact List.getElem_mem _
theorem sortD_hid {D:List Dr} {P:List Int} (hP:P.Perm (visL D 0)) {x:Int} (h:0≤x∧x<(D.length:Int)) (hx:x ∉ visL D 0):(sortD D P).getD x.toNat dz=D.getD x.toNat dz:=by
 have hl:=hP.length_eq;exact (puts_at dz D h.1 h.2 ((visL D 0).zip P) (by rw[List.map_fst_zip (by omega)]; exact (vis_ok D).2) (fun p hp=>((vis_ok D).1 _ (List.of_mem_zip hp).1).1)).2 fun y hy=>hx (List.of_mem_zip hy).1
theorem sortD_show {D:List Dr} {P:List Int} (hP:P.Perm (visL D 0)):(sortD D P).map (·.2.2)=D.map (·.2.2):=by
 have hsl:=sortD_len hP;refine List.ext_getElem (by rw[List.length_map,List.length_map,hsl]) fun i h1 h2=>?_;rw[List.length_map] at h1 h2;rw[List.getElem_map,List.getElem_map];have sh:∀ x∈visL D 0,(D.getD x.toNat dz).2.2=false:=fun x hx=>by
  have hv:=visL_in D 0 x hx;obtain⟨d,e1,e2⟩:=(visL_show D 0 x.toNat).1 (by rw[show ((0+x.toNat:Nat):Int)=x by omega]; exact hx);rw[List.getD_eq_getElem?_getD,e1]; exact e2
 by_cases c:(i:Int)∈visL D 0
 ·obtain⟨k,hk,e⟩:=List.getElem_of_mem c;have h:=sortD_vis hP (k:=k) (by rw[hP.length_eq]; exact hk);rw[e,Int.toNat_natCast,gD_at dz h1] at h;have s1:=sh (i:Int) c;rw[Int.toNat_natCast,gD_at dz h2] at s1;rw[h,s1];exact sh _ (hP.mem_iff.1 (List.getElem_mem _))
 ·have h:=sortD_hid hP (x:=(i:Int)) ⟨by omega,by omega⟩ c;rw[Int.toNat_natCast,gD_at dz h1,gD_at dz h2] at h;rw[h]
theorem sortD_visL {D:List Dr} {P:List Int} (hP:P.Perm (visL D 0)):visL (sortD D P) 0=visL D 0:=visL_hid _ _ 0 (sortD_show hP)
theorem sortD_vr {D:List Dr} {P:List Int} (hP:P.Perm (visL D 0)):vr (sortD D P)=P.map fun x=>D.getD x.toNat dz:=by
 have hl:=hP.length_eq;unfold vr;rw[sortD_visL hP];refine List.ext_getElem (by rw[List.length_map,List.length_map,hl]) fun i h1 h2=>?_;rw[List.length_map] at h1 h2;rw[List.getElem_map,List.getElem_map];exact sortD_vis hP h2
theorem sortD_ok {D:List Dr} {P:List Int} (hP:P.Perm (visL D 0)) {w:List UInt8} (hD:∀ d∈D,okD w d):∀ d∈sortD D P,okD w d:=fun d hd=>hD d (puts_mem rfl (fun p hp=>(vis_ok D).1 _ (hP.mem_iff.1 (List.of_mem_zip hp).2)) d hd)
theorem osort_eq {w:List UInt8} (hw:w.length≤4096) {D:List Dr} (hD:∀ d∈D,okD w d) (hl:D.length≤400) {t:tTr} (ht:IsT t (D.map (dR w))) (tl:Bool) (e:Int) {ks:List order_By} (hk:ks.length≤1000) :
 (rightB (ks.map kB)=true→∃ P u,order_Perm ⟨t,tl,e⟩ ks w=some P∧P.Perm (visL D 0)∧P.Pairwise (leS (cP w (ks.map kB) D))∧order_Sort ⟨t,tl,e⟩ ks w=some (⟨u,tl,e⟩,0)∧IsT u ((sortD D P).map (dR w)))∧(rightB (ks.map kB)=false→order_Sort ⟨t,tl,e⟩ ks w=some (⟨⟨none⟩,false,0⟩,1)):=by
 have hv:=visL_len D 0;unfold order_Sort;rw[oright_eq ks hk,bnd_some'];refine⟨fun hr=>?_,fun hr=>by rw[hr,if_neg (by simp)]⟩;obtain⟨P,p1,p2,p3⟩:=(operm_eq hw hD hl ht tl e hk).1 hr;have hpl:=p2.length_eq;obtain⟨u,u1,u2⟩:=(oput_eq ht hl tl e (visL D 0) P (by omega) (by omega)).1 (perm_ok p2);refine⟨P,u,p1,p2,p3,?_,u2⟩;rw[hr,if_pos rfl,vis_eq ht hl,bnd_some',p1,bnd_some',u1,bnd_some']
theorem kinds_perm {D E:List Dr} (w:List UInt8) (c:Int) (h:(vr E).Perm (vr D)):kinds w E c=kinds w D c:=by
 unfold kinds;have rf:∀ a:Dr,(cmpT (txtAt w a c) (txtAt w a c)==0)=true:=fun a=>by rw[cmpT_cm.rf]; rfl
 have sy:∀ a b:Dr,(cmpT (txtAt w a c) (txtAt w b c)==0)=true→(cmpT (txtAt w b c) (txtAt w a c)==0)=true:=fun a b h=>by
  have:=cmpT_cm.an (txtAt w a c) (txtAt w b c);rw[beq_iff_eq] at h ⊢; omega
 have tr:∀ a b d:Dr,(cmpT (txtAt w a c) (txtAt w b c)==0)=true→(cmpT (txtAt w b c) (txtAt w d c)==0)=true→(cmpT (txtAt w a c) (txtAt w d c)==0)=true:=fun a b d h1 h2=>by
  rw[beq_iff_eq] at h1 h2 ⊢;have a1:=cmpT_cm.an (txtAt w a c) (txtAt w b c);have a2:=cmpT_cm.an (txtAt w b c) (txtAt w d c);have a3:=cmpT_cm.an (txtAt w a c) (txtAt w d c);have t1:=cmpT_cm.tr (txtAt w a c) (txtAt w b c) (txtAt w d c) (by omega) (by omega);have t2:=cmpT_cm.tr (txtAt w d c) (txtAt w b c) (txtAt w a c) (by omega) (by omega);omega
 refine kF_len (eq:=fun d e=>cmpT (txtAt w d c) (txtAt w e c)==0) rf sy tr ?_ (fun a ha=>h.mem_iff.1 (kF_mem _ _ _ a ha)) (fun x hx=>?_)
 ·exact ((kF_apart _ _ _).1).imp fun {a b} h1 h2=>h1 (sy a b h2)
 ·rcases kF_cover rf tr (vr E) [] x (h.mem_iff.2 hx) with ⟨q,hq,_⟩|⟨b,hb,h2⟩
  ·cases hq
  ·exact⟨b,hb,h2⟩
theorem awake16k_eq:law16_awake=some true:=by decide +kernel
theorem rem39:∀ n:Nat,n<256→(ub (rem (n:Int) 39)).toNat<40:=by decide +kernel
theorem OrderKinds_holds {P0 P1 P2:Prop} (a0:List UInt8) (a1:Int) (a2:UInt8) (w0:P0) (w1:P1) (w2:P2):law16_OrderKinds a0 a1 a2=some true:=by
 unfold law16_OrderKinds;cases hb:isBad (a0.take 1500) with
 | true=>
  rw[hide_bad a0 a1 hb,bnd_some'];dsimp only;rw[if_neg (by simp),awake16k_eq,bnd_some']
 | false=>
  obtain⟨t,D,tl,e,h1,h2,h3,h4⟩:=hide_ok a0 a1 hb;have hw:(a0.take 1500).length≤4096:=by simp; omega
  generalize a0.take 1500=w at h1 h2 h4 hw;have hc:=rem39 a2.toNat a2.toNat_lt;rw[h1,bnd_some'];generalize (ub (rem (a2.toNat:Int) 39)).toNat=c at hc ⊢;dsimp only;obtain⟨P,u,p1,p2,p3,p4,p5⟩:=(osort_eq hw h4 h3 h2 tl e (ks:=[⟨(c:Int),true⟩]) (by simp)).1 (by
   show (true&&([((c:Int),true)].all fun k=>decide (0≤k.1∧k.1<40)))=true;simp only[List.all_cons,List.all_nil,Bool.and_true,Bool.true_and,decide_eq_true_eq]; omega)
  have hk:kinds w (sortD D P) (c:Int)=kinds w D (c:Int):=kinds_perm w _ (by
   rw[sortD_vr p2];exact p2.map _)
  have hle:(kinds w D (c:Int):Int)≤((visL D 0).length:Int):=by
   have:=kF_le (fun d e=>cmpT (txtAt w d (c:Int)) (txtAt w e (c:Int))==0) (vr D) [];rw[vr_len] at this;unfold kinds; omega
  rw[if_pos rfl,okinds_eq hw h4 h3 h2,bnd_some',p4,bnd_some',rkinds_eq h4 h3,bnd_some',if_pos rfl,vis_eq h2 h3,bnd_some',if_pos hle];dsimp only;rw[if_pos rfl,okinds_eq hw (sortD_ok p2 h4) (by rw[sortD_len p2]; exact h3) p5,bnd_some',hk,if_pos rfl,awake16k_eq,bnd_some',bnd_some']
end Go.Proofs.YtpmhiiemklhbhaaGreat.S
