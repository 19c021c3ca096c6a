import Derived.Test.YtpmhiiemklhbhaaGreatSB
set_option linter.unusedVariables false
namespace Go.Sm
section
variable {α β σ S τ:Type}
theorem snoc_ind {P:List α→Prop} (nil:P []) (snoc:∀ l x,P l→P (l++[x])) (l:List α):P l:=by
 have key:∀ m:List α,P m.reverse:=by
  intro m
  induction m with
  | nil=>exact nil
  | cons x m ih=>rw[List.reverse_cons]; exact snoc _ x ih
 have:=key l.reverse;rwa[List.reverse_reverse] at this
@[simp] theorem z0 (a:α) (f:α→Option β):bnd (some a) f=f a:=rfl
theorem w9 (pre:List α) (x:α) (suf:List α):idx (pre++x::suf) (pre.length:Int)=some x:=tq (by simp)
theorem wq {l:List α} {i:Nat} {a:α} (h:l[i]? = some a):idx l (i:Int)=some a:=tq h
theorem p9 {l:List α} {i:Int} {a:α} (h0:0≤i) (h:l[i.toNat]? = some a):idx l i=some a:=by unfold idx; rw[if_pos h0]; exact h
theorem uP {l:List α} {lo hi:Int} (h:0≤lo∧lo≤hi∧hi≤l.length):cut l lo hi=some ((l.take hi.toNat).drop lo.toNat):=if_pos h
theorem vP {f:S→Option (Lp S τ)} (mk:Int→σ→S) (l:List α) (I:List α→σ→Prop) (P:τ→Prop)
 (step:∀ pre x suf s,l=pre++x::suf→I pre s→(∃ s',f (mk (pre.length:Int) s)=some (.next (mk ((pre.length:Int)+1) s'))∧I (pre++[x]) s')∨(∃ t,f (mk (pre.length:Int) s)=some (.done t)∧P t))
 (fin:∀ s,I l s→∃ t,f (mk (l.length:Int) s)=some (.done t)∧P t) {s0:σ} (h0:I [] s0):∃ t,loop f (mk 0 s0)=some t∧P t:=by
 have key:∀ (suf pre:List α) (s:σ),l=pre++suf→I pre s→∃ t,loop f (mk (pre.length:Int) s)=some t∧P t:=by
  intro suf
  induction suf with
  | nil=>
   intro pre s hl hi;rw[List.append_nil] at hl;subst hl;obtain⟨t,h1,h2⟩:=fin s hi;exact⟨t,zU h1,h2⟩
  | cons x suf ih=>
   intro pre s hl hi;rcases step pre x suf s hl hi with ⟨s',h1,h2⟩|⟨t,h1,h2⟩
   ·obtain⟨t,h3,h4⟩:=ih (pre++[x]) s' (by rw[hl]; simp) h2;refine⟨t,yI h1 ?_,h4⟩;rw[← h3]; simp
   ·exact⟨t,zU h1,h2⟩
 exact key l [] s0 rfl h0
theorem xQ {f:S→Option (Lp S τ)} (mk:Int→σ→S) (l:List α) (F:List α→σ) {t:τ} (step:∀ pre x suf,l=pre++x::suf→f (mk (pre.length:Int) (F pre))=some (.next (mk ((pre.length:Int)+1) (F (pre++[x])))))
 (fin:f (mk (l.length:Int) (F l))=some (.done t)):loop f (mk 0 (F []))=some t:=by
 obtain⟨t',h1,h2⟩:=vP mk l (fun pre s=>s=F pre) (· = t) (fun pre x suf s hl hs=>.inl ⟨_,by rw[hs]; exact step pre x suf hl,rfl⟩) (fun s hs=>⟨t,by rw[hs]; exact fin,rfl⟩) rfl;rw[h1,h2]
theorem uT {f : S → Option (Lp S τ)} (mk : Int → σ → S) (n : Nat) (F : Nat → σ) {t : τ} (step : ∀ i, i < n → f (mk (i : Int) (F i)) = some (.next (mk ((i : Int) + 1) (F (i + 1))))) (fin : f (mk (n : Int) (F n)) = some (.done t)) : loop f (mk 0 (F 0)) = some t := by
  have key : ∀ k i, i + k = n → loop f (mk (i : Int) (F i)) = some t := by
    intro k
    induction k with
    | zero => intro i hi; have : i = n := by omega
              subst this; exact zU fin
    | succ k ih =>
      intro i hi
      refine yI (step i (by omega)) ?_
      have := ih (i + 1) (by omega)
      simpa using this
  exact key n 0 (by omega)
theorem loop_same [DecidableEq α] {ρ:Type} {f:Int→Option (Lp Int (Ex ρ Bool))} (u:ρ) (a b:List α) (hl:a.length=b.length) (hm:a.length≤9223372036854775807)
 (hf:∀ i:Int,f i=if i<(a.length:Int) then bnd (idx a i) fun x=>bnd (idx b i) fun y=>if x=y then some (.next (w64 (i+1))) else some (.done (.ret false)) else some (.done (.brk u))) :
 ∃ t,loop f 0=some t∧(match t with | .brk _=>a=b | .ret v=>v=false∧a≠b):=by
 refine vP (σ:=Unit) (fun i _=>i) a (fun pre _=>b.take pre.length=pre) _ (fun pre x suf s ha hI=>?_) (fun s hI=>?_) (s0:=()) (by simp)
 ·subst ha;have hlt:pre.length<b.length:=by rw[← hl]; simp
  have hm':pre.length+1≤9223372036854775807:=by simp at hm; omega
  rw[hf,if_pos (by simp; omega),w9,z0,wq (List.getElem?_eq_getElem hlt),z0];by_cases hx:x=b[pre.length]
  ·rw[if_pos hx,zG ⟨by omega,by omega⟩];refine .inl ⟨(),rfl,?_⟩;simp only[List.length_append,List.length_cons,List.length_nil,Nat.zero_add];rw[List.take_succ_eq_append_getElem hlt,hI,← hx]
  ·rw[if_neg hx];refine .inr ⟨_,rfl,rfl,fun h=>hx ?_⟩;subst h; simp
 ·rw[hf,if_neg (by omega)];refine⟨_,rfl,?_⟩;rw[hl,List.take_length] at hI; exact hI.symm
end
end Go.Sm
