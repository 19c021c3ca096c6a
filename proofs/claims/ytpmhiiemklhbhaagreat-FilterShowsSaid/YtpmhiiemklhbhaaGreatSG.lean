import Derived.Test.YtpmhiiemklhbhaaGreatSTab
import Derived.Test.YtpmhiiemklhbhaaGreatSC
import Derived.Shelf.Vars
import Derived.Deep.Draws
set_option linter.unusedVariables false
namespace Go.Proofs.YtpmhiiemklhbhaaGreat.S
open Go Go.Sm
theorem glOk {W : World} (h : W.ShapedOpen Tryz.prog) : GlOk W (OkW W) := fun g hg => by
  have key : ∃ m, W.cell? ⟨g, 0, none⟩ = some (.int .i64 m) := by
    first
    | (cases hg; done)
    | (obtain rfl := List.mem_singleton.1 hg
       exact Go.Proofs.cell_of_shapedOpen_int (zero := #[.int .i64 0]) (t := 3) h (of_decide_eq_true (by kernel_rfl)) (by kernel_rfl) rfl (by kernel_rfl) (by kernel_rfl) Tryz.underlying3)
  obtain ⟨m, hm⟩ := key
  refine ⟨?_, m, hm⟩
  show g < W.heap.size
  unfold World.cell? at hm
  by_cases hlt : g < W.heap.size
  · exact hlt
  · rw [show W.heap[(⟨g, 0, none⟩ : Addr).block]? = none from Array.getElem?_eq_none (by show W.heap.size ≤ g; omega)] at hm
    cases hm
end Go.Proofs.YtpmhiiemklhbhaaGreat.S
namespace Go.Sm
section
variable {X:Prg} {sl:List (Nat × Dat)} {ow:List Own} {w:World} {ok:Nat→Prop}
theorem Chg.drewN (w:World) (q:Nat) (touched:Nat→Prop):Chg w (w.drewN q) touched:=⟨rfl,rfl,rfl,Nat.le_refl _,fun _ _ _=>rfl⟩
theorem OpR.callQ {f:FuncId} {xs:Array Operand} {ats:Array TypeId} {d:Dat} (hfn:IsFn X f)
 (h:∀ (G:Gh) (a:Act) (w:World) (ok:Nat→Prop),RepB G ow w ok→Kn sl a w ok→∃ v,Enc w ok d v∧Calls X.P f (xs.map a.eval) w fun e w'=>e = .returned v∧∃ q,w'=w.drewN q) :
 OpR X (.call { callee:=.value (.func f),args:=xs,argTypes:=ats }) sl ow (fun _=>d) (fun _=>ow):=fun G a w ok hr kn o ho K Qm hK=>by
 obtain⟨dst,op',ty,pos,after,g⟩:=o;dsimp only at ho; subst ho;obtain⟨v,he,hc⟩:=h G a w ok hr kn;obtain⟨fn,hf,hname,hb⟩:=hfn;have h1:fn.name ≠ "runtime.NumGoroutine":=by simpa using hname
 obtain⟨cb,hcb⟩:=Option.isSome_iff_exists.1 hb;have hrun:(execOp a.eval { dst:=dst,op:=.call { callee:=.value (.func f),args:=xs,argTypes:=ats },type:=ty,pos:=pos,after:=after,guard:=g }).run X.P w = .ok (.enter f (xs.map a.eval)) w:=by
  have g0:a.eval (.func f) = .func (.func f) #[] #[]:=rfl;simp[execOp,resolve,g0,Deferred.ofValue,invoke,callFunc,hf,h1,hcb]
 refine wpIn_of_run hrun (fun d h=>by cases h) ?_;rw[Oper.upon_enter];refine hc.mono fun e w' ⟨g1,q,g2⟩=>?_;subst g1 g2;have hch:=Chg.drewN w q (fun _=>False);exact hK undef v _ ok (hr.grow hch) (he.mono (hr.stay0 hch)) (hr.stay0 hch)
theorem OpR.sliceArrE {α:Type} {xt:TypeId} {x lo:Operand} {i:TI} {n:Nat} {e:TypeId} {ie:TI} {b sz:Nat} {cs:List Dat} {be:TypeId} (f:α→Dat) {l r:List α} {p:Int} {kp:IntKind} (k:Nat) (h:cut l p (n:Int)=some r)
 (hi':lkT X.tab xt=some i) (hd:i.desc = .array n e) (hie:lkT X.tab e=some ie) (hsz:ie.size=sz) (hx:ev sl x=some (.val (.pointer (some ⟨b,0,none⟩)))) (hb:ow[k]? = some (.var b cs be)) (hcs:cs=(l.map f).flatMap Dat.cells) (hl:Nat.beq l.length n=true) (hs:∀ a,(f a).cells.length=sz)
 (hlo:ev sl lo=some (.val (.int kp p))) {ow':List Own} (ho:setK k .gone ow some=some ow') :
 OpR X (.slice xt x (some lo) none none) sl ow (fun _=>.sl sz (r.map f)) (fun _=>ow'):=.of_val fun G a w ok hr kn dst ty pos after g=>by
 subst hsz;obtain rfl:=Option.some.inj (setK_eq _ _ _ _ _ ho);obtain⟨⟨h1,h3,h4⟩,rfl⟩:=cut_some h;have hl':=Nat.eq_of_beq_eq_true hl;have e1:=(kn x _ hx).val_inv.1;have u1:=run_underlying' (X.tok _ _ hi') w;have u2:=run_sizeOf' (X.tok _ _ hie) w;rw[hd] at u1;obtain⟨vs,e4,e5,e6⟩:=(hr.own k _ hb).var_inv;have hg:=hr.give hb;have hst:Stay w w ok (fun m=>ok m∨(Own.var b cs be).block=some m):=stayOk fun _ h=>.inl h;have hC:=EncL.toC (ok':=fun m=>ok m∨(Own.var b cs be).block=some m) e4 (.inr rfl) 0 (e5.mono hst) e6 (fun j v hv=>by simpa using hv);rw[hcs] at hC;have hS:=EncC.flat hC (fun d hd=>by obtain⟨q,_,rfl⟩:=List.mem_map.1 hd; exact hs q);have hbl:=bound_run kn (P:=X.P) hlo h1 (y:=n) (by omega) .sliceB;by_cases hcp:n=p.toNat
 ·refine⟨undef,.slice (some ⟨b,0,none⟩) 0 0,w,_,?_,hg,?_,hst⟩
  ·simp[execOp,Instr.sliceAt,Instr.sureAddr,Instr.sliceBounds,e1,u1,u2,hbl,← hcp]
  ·refine .sl ?_ (Nat.le_refl _) ?_
   ·rw[List.length_map,List.length_drop,List.length_take]; omega
   ·rw[List.drop_of_length_le (by rw[List.length_take]; omega)]; exact .nil
 ·refine⟨undef,.slice (some ((⟨b,0,none⟩:Addr).add (p.toNat*ie.size))) (n-p.toNat) (n-p.toNat),w,_,?_,hg,?_,hst⟩
  ·simp[execOp,Instr.sliceAt,Instr.sureAddr,Instr.sliceBounds,e1,u1,u2,hbl,hcp]
  ·refine .sl ?_ (Nat.le_refl _) ?_
   ·rw[List.length_map,List.length_drop,List.length_take]; omega
   ·rw[List.take_of_length_le (by omega),List.map_drop]; exact hS.drop _
theorem OpS.same {l:List Oper} {base:List (Nat × Dat)} {valsE:(Nat→Value)→List Dat} {OW:(Nat→Bool)→(Nat→Value)→List Own} {pre:List Nat} {i:Nat} {o:Oper} {D:Nat→Bool} {env:Nat→Value} {d:Dat} (hw:Want l (knS l (valsE env) base o) o true)
 (hd:∀ x,((valsE (upd env i x))[i]?).getD .dead=d) (e1:∀ x,OW (ins i D) (upd env i x)=OW D env) (h:OpR X o.op (knS l (valsE env) base o) (OW D env) (fun _=>d) (fun _=>OW D env)):OpS X l valsE OW base pre i o true D env:=OpS.yes hw rfl e1 hd h
theorem oS {l:List Oper} {base:List (Nat × Dat)} {valsE:(Nat→Value)→List Dat} {OW:(Nat→Bool)→(Nat→Value)→List Own} {pre:List Nat} {i:Nat} {o:Oper} {os:List Oper} {d:Dat} (hw:∀ env,Want l (knS l (valsE env) base o) o true) (hd:∀ env,((valsE env)[i]?).getD .dead=d)
 (e1:∀ D env x,OW (ins i D) (upd env i x)=OW D env) (h:∀ D env,OpR X o.op (knS l (valsE env) base o) (OW D env) (fun _=>d) (fun _=>OW D env)) (hs:∀ D,At l pre i D→Same valsE D i) (hr:OpsS X l valsE OW base pre (i+1) os):OpsS X l valsE OW base pre i (o::os):=
 OpsS.cons' true (fun D env _=>OpS.same (hw env) (fun x=>hd (upd env i x)) (e1 D env) (h D env)) hs hr
theorem ReS.refl {R:Dat→Dat→Prop}:∀ sl:List (Nat × Dat),ReS R sl sl
 | []=>.nil
 | (_,_)::l=>.cons .refl (ReS.refl l)
end
end Go.Sm
