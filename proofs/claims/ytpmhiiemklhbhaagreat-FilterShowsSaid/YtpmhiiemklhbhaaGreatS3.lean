import Derived.Test.YtpmhiiemklhbhaaGreatS2
set_option linter.unusedVariables false
namespace Go.Sm
section
variable {X:Prg} {S:List (Nat × Dat)} {a:Act} {w:World}  {ok:Nat→Prop}
theorem evs_enc (kn:Kn S a w ok):∀ {xs:List Operand} {ds:List Dat},evs S xs=some ds→EncL w ok ds (xs.map a.eval)
 | [],ds,h=>by simp[evs] at h; subst h; exact .nil
 | x::xs,ds,h=>by
  simp only[evs] at h;split at h
  ·rename_i d ds' h1 h2;obtain rfl:=Option.some.inj h;exact .cons (kn x d h1) (evs_enc kn h2)
  ·cases h
def RunV (X:Prg) (op:Op) (a:Act) (w:World)  (ok:Nat→Prop) (d:Dat):Prop:=
 ∀ (dst:Option Tmp) (ty:TypeId) (pos:String) (after:Array Edge) (g:Option (Nat × Bool)),∃ v,(execOp a.eval { dst:=dst,op:=op,type:=ty,pos:=pos,after:=after,guard:=g }).run X.P w = .ok (.value v) w∧Enc w ok d v
theorem partD_run {i:TI} {cs:List Dat} {d:Dat} (h:partD i cs=some d) {vs:List Value} (he:EncL w ok cs vs) (h1:∀ v∈vs,one v=true) :
 (bif i.isAgg then (∃ n,d = .agg (cs.take n)∧n=i.size∧n≤cs.length∧Enc w ok d (.agg (vs.take n).toArray)) else (∃ v r,vs=v::r∧Enc w ok d v)):=by
 unfold partD at h;cases ha:i.isAgg with
 | true=>
  rw[ha] at h;have h':=takeK_eq _ _ _ _ h;have h2:=Option.some.inj h'.2;exact⟨i.size,h2.symm,rfl,h'.1,h2 ▸ .agg (fun v hv=>h1 v (List.mem_of_mem_take hv)) (he.take _)⟩
 | false=>
  rw[ha] at h;cases he with
  | nil=>simp at h
  | cons hd hr=>
   simp only[Option.some.injEq] at h; subst h;exact⟨_,_,rfl,hd⟩
theorem intD_run {op : BinOp} {k : IntKind} {x y : Int} {d : Dat} (h : intD op k x y = some d) (hop : op ≠ .shl ∧ op ≠ .shr) (t : TypeId) (P : Program) :
    ∃ v, (binOp op t (.int k x) (.int k y)).run P w = .ok v w ∧ Enc w ok d v := by
  cases op <;> simp only [intD, Option.some.injEq, reduceCtorEq] at h <;> subst h <;>
    refine ⟨_, ?_, .val rfl⟩ <;>
    first
    | (simp [binOp]; done)
    | (simp [binOp]; rfl)
theorem eqGuard_free {P:Program} (op:BinOp) (t:TypeId) (x y:Operand) (u v:Value) (w:World) (h:(op matches .eql | .neq)=false):(eqGuard op t x y u v).run P w = .ok () w:=by
 unfold eqGuard; cases op <;> simp at h ⊢
theorem binD_run {op : BinOp} {dx dy d : Dat} (h : binD op dx dy = some d) {u v : Value} (hu : Enc w ok dx u) (hv : Enc w ok dy v) (t : TypeId) (x y : Operand) (P : Program) :
    ∃ r, (do eqGuard op t x y u v; binOp op t u v : Sem Value).run P w = .ok r w ∧ Enc w ok d r := by
  unfold binD at h
  split at h
  · rename_i k x' k' y'
    have hu' := hu.val_inv.1; have hv' := hv.val_inv.1; subst hu' hv'
    have hg : (eqGuard op t x y (.int k x') (.int k' y')).run P w = .ok () w := by
      unfold eqGuard; cases op <;> simp
    cases op with
    | shl =>
      simp only at h
      split at h
      · rename_i m
        obtain rfl := Option.some.inj h
        have hm : ¬ ((m : Int) < 0) := by omega
        have hg' := eqGuard_free (P := P) .shl t x y (.int k x') (.int k' (m : Int)) w rfl
        exact ⟨_, by simp [hg', binOp, Op.shift, hm], .val rfl⟩
      · cases h
    | shr =>
      simp only at h
      split at h
      · rename_i m
        obtain rfl := Option.some.inj h
        have hm : ¬ ((m : Int) < 0) := by omega
        have hg' := eqGuard_free (P := P) .shr t x y (.int k x') (.int k' (m : Int)) w rfl
        exact ⟨_, by simp [hg', binOp, Op.shift, hm], .val rfl⟩
      · cases h
    | quo =>
      simp only at h
      split at h
      · rename_i m
        by_cases hk : k = k'
        · subst hk
          rw [if_pos rfl] at h
          obtain rfl := Option.some.inj h
          have hg' := eqGuard_free (P := P) .quo t x y (.int k x') (.int k ((m : Int) + 1)) w rfl
          have hne : ((m : Int) + 1) ≠ 0 := by omega
          exact ⟨.int k (k.wrap (x'.tdiv (.ofNat (m + 1)))), by simp [hg', binOp, Op.intDiv, hne], .val rfl⟩
        · rw [if_neg hk] at h; cases h
      · cases h
    | rem =>
      simp only at h
      split at h
      · rename_i m
        by_cases hk : k = k'
        · subst hk
          rw [if_pos rfl] at h
          obtain rfl := Option.some.inj h
          have hg' := eqGuard_free (P := P) .rem t x y (.int k x') (.int k ((m : Int) + 1)) w rfl
          have hne : ((m : Int) + 1) ≠ 0 := by omega
          exact ⟨.int k (x'.tmod (.ofNat (m + 1))), by simp [hg', binOp, Op.intDiv, hne], .val rfl⟩
        · rw [if_neg hk] at h; cases h
      · cases h
    | _ =>
      simp only at h
      by_cases hk : k = k'
      · subst hk
        simp only [if_true] at h
        obtain ⟨r, h1, h2⟩ := intD_run (w := w) (ok := ok) h (by simp) t P
        exact ⟨r, by simp [hg, h1], h2⟩
      · rw [if_neg hk] at h; cases h
  · rename_i x' y'
    have hu' := hu.val_inv.1; have hv' := hv.val_inv.1; subst hu' hv'
    have hg : (eqGuard op t x y (.string x') (.string y')).run P w = .ok () w := by
      unfold eqGuard; cases op <;> simp
    cases op <;> simp only [Option.some.injEq, reduceCtorEq] at h <;> subst h <;>
      refine ⟨_, ?_, .val rfl⟩ <;>
      first
      | (simp [hg, binOp, Op.stringOp]; done)
      | (simp [hg, binOp, Op.stringOp]; rfl)
  · cases h
theorem EncC.loads {cs:List Dat} {p:Addr} (h:EncC w ok p cs):∃ vs:List Value,EncL w ok cs vs∧(∀ v∈vs,one v=true)∧∀ j v,vs[j]? = some v→w.cell? (p.add j)=some v:=by
 induction cs generalizing p with
 | nil=>exact⟨[],.nil,by simp,by simp⟩
 | cons d ds ih=>
  cases h with
  | cons hb hs hc h1 h hr=>
   obtain⟨vs,h2,h3,h4⟩:=ih hr;refine⟨_::vs,.cons h h2,?_,?_⟩
   ·intro v hv;rcases List.mem_cons.1 hv with rfl|hv
    ·exact h1
    ·exact h3 v hv
   ·intro j v hv;cases j with
    | zero=>simp at hv; subst hv; exact hc
    | succ j=>
     have:=h4 j v (by simpa using hv);rwa[add_add,Nat.add_comm] at this
theorem pureOp_run {op:Op} {d:Dat} (hk:Kn S a w ok) (h:pureOp (lkT X.tab) op S=some d):RunV X op a w ok d:=by
 intro dst ty pos after g;have tok:=X.tok;cases op with
 | move x=>
  simp only[pureOp] at h;cases hx:ev S x with
  | none=>simp[hx] at h
  | some e=>simp[hx] at h; subst h; exact⟨_,rfl,hk x _ hx⟩
 | assign x=>
  simp only[pureOp] at h;cases hx:ev S x with
  | none=>simp[hx] at h
  | some e=>simp[hx] at h; subst h; exact⟨_,rfl,hk x _ hx⟩
 | binOp op t x y t'=>
  simp only[pureOp] at h;split at h
  ·rename_i dx dy hx hy;obtain⟨r,h1,h2⟩:=binD_run (w:=w) (ok:=ok) h (hk x _ hx) (hk y _ hy) t x y X.P;refine⟨r,?_,h2⟩;simp only[execOp];simp at h1 ⊢;cases hg:Sem.run X.P (eqGuard op t x y (a.eval x) (a.eval y)) w with
   | ok u w'=>
    rw[hg] at h1;simp at h1 ⊢;simp[h1]
   | halt=>rw[hg] at h1; simp at h1
  ·cases h
 | unOp op t x=>
  simp only[pureOp] at h;split at h
  ·rename_i b hb;obtain rfl:=Option.some.inj h;have e1:=(hk _ _ hb).bool_inv;exact⟨.bool !b,by simp[execOp,e1,Op.unary],.val rfl⟩
  ·rename_i k n hb;obtain rfl:=Option.some.inj h;have e1:=(hk _ _ hb).val_inv.1;exact⟨.int k (k.wrap (0-n)),by first|(simp[execOp,e1,Op.unary,Op.intArith]; done)|(simp[execOp,e1,Op.unary]; rfl),.val rfl⟩
  ·cases h
 | convert src dst' x=>
  simp only[pureOp] at h;split at h
  ·rename_i i1 k s2 b2 z2 k' n h1 h2 h3;obtain rfl:=Option.some.inj h;have e1:=(hk _ _ h3).val_inv.1;have u1:=run_underlying' (tok _ _ h1) w;have u2:=run_underlying' (tok _ _ h2) w;refine⟨.int k (k.wrap n),?_,.val rfl⟩;simp only[execOp,convert,e1]
   first
   | (simp[u1,u2,Conv.intToInt]; done)
   | (simp[u1,u2,Conv.intToInt]; cases hdd:i1.desc <;> simp[Conv.intToInt])
  ·cases h
 | nilCheck x=>
  simp only[pureOp] at h;split at h
  ·rename_i cs hx;obtain rfl:=Option.some.inj h;obtain⟨p,e1,e2⟩:=(hk _ _ hx).nod_inv;exact⟨.pointer (some p),by simp[execOp,e1],.nod e2⟩
  ·rename_i b off hx;obtain rfl:=Option.some.inj h;have e1:=(hk _ _ hx).val_inv.1;exact⟨.pointer (some ⟨b,off,none⟩),by simp[execOp,e1],.val rfl⟩
  ·rename_i f fs cs hx;obtain rfl:=Option.some.inj h;have hf:=hk _ _ hx;obtain⟨vs,us,e1,e2,e3⟩:=hf.fn_inv;exact⟨.func (.func f) vs.toArray us.toArray,by simp[execOp,e1],.fn e2 e3⟩
  ·rename_i t d hx;obtain rfl:=Option.some.inj h;obtain⟨v,e1,e2⟩:=(hk _ _ hx).ifc_inv;exact⟨.iface t v,by simp[execOp,e1],.ifc e2⟩
  ·cases h
 | fieldAddr s x f=>
  simp only[pureOp] at h;split at h
  ·rename_i fields sz by_ z hs;split at h
   ·rename_i fl hf;split at h
    ·rename_i i hi;split at h
     ·cases h
     ·rename_i hz0;have hz:i.size≠0:=by
       intro e; rw[e] at hz0; exact absurd hz0 (by decide)
      have u1:=run_underlying' (tok _ _ hs) w;have u2:=run_sizeOf' (tok _ _ hi) w;split at h
      ·rename_i cs hx;obtain⟨p,e1,e2⟩:=(hk _ _ hx).nod_inv;have h':=(dropK_eq _ _ _ _ h).2;obtain rfl:=Option.some.inj h';refine⟨.pointer (some (p.add fl.offset)),?_,.nod (e2.drop _)⟩;simp[execOp,Instr.fieldAt,u1,hf,e1,Instr.sureAddr,fieldPlace,u2,hz]
      ·rename_i p off hx;have e1:=(hk _ _ hx).val_inv.1;obtain rfl:=Option.some.inj h;refine⟨.pointer (some ⟨p,off+fl.offset,none⟩),?_,.val rfl⟩;simp[execOp,Instr.fieldAt,u1,hf,e1,Instr.sureAddr,fieldPlace,u2,hz,addr_add]
      ·cases h
    ·cases h
   ·cases h
  ·cases h
 | field s x f=>
  simp only[pureOp] at h;split at h
  ·rename_i fields sz by_ z hs;split at h
   ·rename_i fl hf;split at h
    ·rename_i i hi;split at h
     ·rename_i cs hx;obtain⟨vs,e1,e3,e2⟩:=(hk _ _ hx).agg_inv;have h':=(dropK_eq _ _ _ _ h);have hp:=partD_run h'.2 (e2.drop fl.offset) (fun v hv=>e3 v (List.mem_of_mem_drop hv));have u1:=run_underlying' (tok _ _ hs) w;have u2:=run_sizeOf' (tok _ _ hi) w;have u3:=run_isAgg' (tok _ _ hi) w;cases ha:i.isAgg with
      | true=>
       rw[ha] at hp u3;obtain⟨n,_,rfl,_,he⟩:=hp;refine⟨.agg ((vs.drop fl.offset).take i.size).toArray,?_,he⟩;simp[execOp,Instr.field,u1,hf,e1,asAgg,part,u3,u2]
      | false=>
       rw[ha] at hp u3;obtain⟨v,r,hvs,he⟩:=hp;refine⟨v,?_,he⟩;have:vs[fl.offset]? = some v:=by
        have:(vs.drop fl.offset)[0]? = some v:=by rw[hvs]; rfl
        simpa using this
       simp[execOp,Instr.field,u1,hf,e1,asAgg,part,u3,this]
     ·cases h
    ·cases h
   ·cases h
  ·cases h
 | load t x=>
  simp only[pureOp] at h;split at h
  ·rename_i i hi;split at h
   ·rename_i cs hx;obtain⟨p,e1,e2⟩:=(hk _ _ hx).nod_inv;obtain⟨vs,e3,e4,e5⟩:=e2.loads;have hp:=partD_run h (e3) e4;have u2:=run_sizeOf' (tok _ _ hi) w;have u3:=run_isAgg' (tok _ _ hi) w;cases ha:i.isAgg with
    | true=>
     rw[ha] at hp u3;obtain⟨n,_,rfl,hle,he⟩:=hp;have hl:=e3.length;refine⟨_,?_,he⟩;have:=loadCells_all X.P (w:=w) (n:=i.size) (a:=p) (vs:=vs.take i.size) (by rw[List.length_take]; omega) (fun j v hv=>e5 j v (by
      rw[List.getElem?_take] at hv;split at hv
      ·exact hv
      ·cases hv))
     simp[execOp,Instr.loadAt,e1,Instr.sureAddr,loadVar,u3,u2,this]
    | false=>
     rw[ha] at hp u3;obtain⟨v,r,rfl,he⟩:=hp;have h0:=e5 0 v rfl;rw[add_zero'] at h0;refine⟨v,?_,he⟩;simp[execOp,Instr.loadAt,e1,Instr.sureAddr,loadVar,u3,Go.load,Sem.run,h0]
   ·cases h
  ·cases h
 | extract x i=>
  simp only[pureOp] at h;split at h
  ·rename_i ds hx;obtain⟨vs,e1,e2⟩:=(hk _ _ hx).tup_inv;have h':=(dropK_eq _ _ _ _ h);have e3:=e2.drop i;cases hd:ds.drop i with
   | nil=>rw[hd] at h'; simp at h'
   | cons d' r=>
    rw[hd] at h' e3;obtain rfl:=Option.some.inj h'.2;generalize hvs:vs.drop i=us at e3;cases e3 with
    | cons hd' hr=>
     rename_i v us';have:vs[i]? = some v:=by
      have:(vs.drop i)[0]? = some v:=by rw[hvs]; rfl
      simpa using this
     exact⟨v,by simp[execOp,Instr.extract,e1,this],hd'⟩
  ·cases h
 | makeFunc f first caps=>
  simp only[pureOp] at h;split at h
  ·rename_i ds es h1 h2;obtain rfl:=Option.some.inj h;have e1:=evs_enc hk h1;have e2:=evs_enc hk h2;refine⟨.func f (first.toList.map a.eval).toArray (caps.toList.map a.eval).toArray,?_,.fn e1 e2⟩;have g:∀ xs:Array Operand,Array.map a.eval xs=(List.map a.eval xs.toList).toArray:=fun xs=>by apply Array.toList_inj.1; simp
   simp[execOp,Instr.makeFunc,g first,g caps]
  ·cases h
 | call c=>
  obtain⟨callee,args,ats⟩:=c;obtain⟨args⟩:=args;obtain⟨ats⟩:=ats;simp only[pureOp] at h;split at h
  ·unfold builtD at h;split at h
   ·rename_i x t _ _;split at h
    ·rename_i s2 b2 z2 n2 s h1 h2;obtain rfl:=Option.some.inj h;have e1:=(hk _ _ h2).val_inv.1;have u1:=run_underlying' (tok _ _ h1) w;exact⟨_,by simp[execOp,resolve,invoke,builtin,Builtin.len_,u1,e1,goInt],.val rfl⟩
    ·rename_i e s2 b2 z2 sz l h1 h2;obtain rfl:=Option.some.inj h;obtain⟨A,c,e1⟩:=(hk _ _ h2).sl_len;have u1:=run_underlying' (tok _ _ h1) w;exact⟨_,by simp[execOp,resolve,invoke,builtin,Builtin.len_,u1,e1,goInt],.val rfl⟩
    ·rename_i e s2 b2 z2 sz l h1 h2;obtain rfl:=Option.some.inj h;obtain⟨A,c,e1⟩:=(hk _ _ h2).slx_len;have u1:=run_underlying' (tok _ _ h1) w;exact⟨_,by simp[execOp,resolve,invoke,builtin,Builtin.len_,u1,e1,goInt],.val rfl⟩
    ·rename_i e s2 b2 z2 h1 h2;obtain rfl:=Option.some.inj h;have e1:=(hk _ _ h2).val_inv.1;have u1:=run_underlying' (tok _ _ h1) w;exact⟨.int .i64 0,by simp[execOp,resolve,invoke,builtin,Builtin.len_,u1,e1,goInt],.val rfl⟩
    ·cases h
   ·rename_i x y _ _;split at h
    ·rename_i k p k' q h1 h2;split at h
     ·rename_i hkk;subst hkk;obtain rfl:=Option.some.inj h;have e1:=(hk _ _ h1).val_inv.1;have e2:=(hk _ _ h2).val_inv.1;exact⟨.int k (if q>p then q else p),by simp[execOp,resolve,invoke,builtin,Builtin.max_,Builtin.max2,e1,e2],.val rfl⟩
     ·cases h
    ·cases h
   ·rename_i x y _ _;split at h
    ·rename_i k p k' q h1 h2;split at h
     ·rename_i hkk;subst hkk;obtain rfl:=Option.some.inj h;have e1:=(hk _ _ h1).val_inv.1;have e2:=(hk _ _ h2).val_inv.1;exact⟨.int k (if q<p then q else p),by simp[execOp,resolve,invoke,builtin,Builtin.min_,Builtin.min2,e1,e2],.val rfl⟩
     ·cases h
    ·cases h
   ·cases h
  ·cases h
 | _=>simp[pureOp] at h
theorem OpR.of_run {op:Op} {sl:List (Nat × Dat)} {ow:List Own} {d:Dat} (h:∀ (a:Act) (w:World) (ok:Nat→Prop),Kn sl a w ok→RunV X op a w ok d):OpR X op sl ow (fun _=>d) (fun _=>ow):=fun G a w ok hr kn o ho K Qm hK=>by
 obtain⟨dst,op',ty,pos,after,g⟩:=o;dsimp only at ho; subst ho;obtain⟨v,h1,h2⟩:=h a w ok kn dst ty pos after g;exact wpIn_of_run h1 (fun d h=>by cases h) (hK undef v w ok hr h2 (Stay.refl _ _))
theorem OpR.pure {op:Op} {sl:List (Nat × Dat)} {ow:List Own} {d:Dat} (h:pureOp (lkT X.tab) op sl=some d):OpR X op sl ow (fun _=>d) (fun _=>ow):=.of_run fun _ _ _ kn=>pureOp_run kn h
theorem OpR.cast {op:Op} {sl:List (Nat × Dat)} {ow:List Own} {d d':Dat} {ow':Value→List Own} (h:OpR X op sl ow (fun _=>d) ow') (e:d=d'):OpR X op sl ow (fun _=>d') ow':=e▸h
end
end Go.Sm
