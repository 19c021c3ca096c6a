import Derived.Test.YtpmhiiemklhbhaaGreatSTab
import Derived.Test.YtpmhiiemklhbhaaGreatSC
import Derived.Shelf.Vars
import Derived.Deep.Draws
set_option linter.unusedVariables false
namespace Go.Proofs.YtpmhiiemklhbhaaGreat.S
open Go Go.Sm
theorem glOk {W : World} (h : W.ShapedOpen Tryz.prog) (ht : ∀ t d, lk tabs t = some d → Enc W (OkW W) d (.pointer (some ⟨t, 0, none⟩)) := by first | (intro t d h; cases h; done) | assumption) : GlOk W (OkW W) := by
  refine ⟨fun g hg => ?_, ht⟩
  have key : ∃ m, W.cell? ⟨g, 0, none⟩ = some (.int .i64 m) := by
    first
    | (cases hg; done)
    | (obtain rfl := List.mem_singleton.1 hg
       exact Go.Proofs.cell_of_shapedOpen_int (zero := #[.int .i64 0]) (t := 3) h (of_decide_eq_true (by kernel_rfl)) (by kernel_rfl) rfl (by kernel_rfl) (by kernel_rfl) Tryz.underlying3)
  obtain ⟨m, hm⟩ := key
  refine ⟨?_, m, hm⟩
  show g < W.heap.size
  unfold World.cell? at hm
  by_cases hlt : g < W.heap.size
  · exact hlt
  · rw [show W.heap[(⟨g, 0, none⟩ : Addr).block]? = none from Array.getElem?_eq_none (by show W.heap.size ≤ g; omega)] at hm
    cases hm
end Go.Proofs.YtpmhiiemklhbhaaGreat.S
namespace Go.Sm
section
variable {X:Prg} {sl:List (Nat × Dat)} {ow:List Own} {w:World} {ok:Nat→Prop}
theorem idx_cut {α:Type} {l r:List α} {lo hi j:Int} {a:α} (h:cut l lo hi=some r) (h2:idx r j=some a):idx l (lo+j)=some a:=by
 obtain⟨⟨h1,h3,h4⟩,rfl⟩:=sQ h;obtain⟨g0,g1⟩:=ui h2;unfold idx;rw[if_pos (by omega)];rw[List.getElem?_drop,List.getElem?_take] at g1;split at g1
 ·rw[show (lo+j).toNat=lo.toNat+j.toNat by omega]; exact g1
 ·cases g1
theorem sX {α:Type} {xt:TypeId} {x ix:Operand} {i:TI} {e0:TypeId} {ie:TI} {v:Value} (f:α→Dat) {l r:List α} {a:α} {sz:Nat} {e:TypeId} {ki:IntKind} {lo hi j:Int} (k:Nat) (hc:cut l lo hi=some r) (h:idx r j=some a) (hx:ev sl x=some (.val (vw v lo.toNat hi.toNat sz))) (hj:ev sl ix=some (.val (.int ki j)))
 (hb:ow[k]? = some (.row v (l.map f) sz e)) (hi':lkT X.tab xt=some i) (hd:i.desc = .slice e0) (hie:lkT X.tab e0=some ie) (hsz:ie.size=sz):OpR X (.indexAddr xt x ix) sl ow (fun _=>.val (.pointer (some ⟨blk v,(lo+j).toNat*sz,none⟩))) (fun _=>ow):=.of_val fun G a w ok hr kn dst ty pos after g=>by
 obtain⟨⟨h1,h3,h4⟩,rfl⟩:=sQ hc;obtain⟨g0,g1⟩:=ui h;have hlt:=(List.getElem?_eq_some_iff.1 g1).1;rw[List.length_drop,List.length_take] at hlt;have e1:=(kn x _ hx).val_inv.1;have ej:=(kn ix _ hj).val_inv.1;have u1:=zL (X.tok _ _ hi') w;have u2:=xm (X.tok _ _ hie) w;rw[hd] at u1;rcases (hr.own k _ hb).row_inv with ⟨_,e'⟩|⟨b,c,vs,us,rfl,hc',_⟩
 ·have:l.length=0:=by simpa using congrArg List.length e'
  omega
 ·rw[List.length_map] at hc';simp only[vw] at e1;rw[if_neg (by omega)] at e1;have hjl:0≤j∧j<((hi.toNat-lo.toNat:Nat):Int):=⟨g0,by omega⟩;have hadd:(lo.toNat*sz+j.toNat*sz)=(lo+j).toNat*sz:=by rw[← Nat.add_mul]; congr 1; omega
  refine⟨undef,.pointer (some ⟨b,(lo+j).toNat*sz,none⟩),w,ok,?_,hr,.val rfl,Stay.refl _ _⟩;simp[execOp,Instr.indexAt,asIntOf,e1,ej,u1,u2,hjl,sa,hsz,hadd]
theorem OpS.same {l:List Oper} {base:List (Nat × Dat)} {valsE:(Nat→Value)→List Dat} {OW:(Nat→Bool)→(Nat→Value)→List Own} {pre:List Nat} {i:Nat} {o:Oper} {D:Nat→Bool} {env:Nat→Value} {d:Dat} (hw:Want l (knS l (valsE env) base o) o true)
 (hd:∀ x,((valsE (upd env i x))[i]?).getD .dead=d) (e1:∀ x,OW (ins i D) (upd env i x)=OW D env) (h:OpR X o.op (knS l (valsE env) base o) (OW D env) (fun _=>d) (fun _=>OW D env)):OpS X l valsE OW base pre i o true D env:=OpS.yes hw rfl e1 hd h
theorem oS {l:List Oper} {base:List (Nat × Dat)} {valsE:(Nat→Value)→List Dat} {OW:(Nat→Bool)→(Nat→Value)→List Own} {pre:List Nat} {i:Nat} {o:Oper} {os:List Oper} {d:Dat} (hw:∀ env,Want l (knS l (valsE env) base o) o true) (hd:∀ env,((valsE env)[i]?).getD .dead=d)
 (e1:∀ D env x,OW (ins i D) (upd env i x)=OW D env) (h:∀ D env,OpR X o.op (knS l (valsE env) base o) (OW D env) (fun _=>d) (fun _=>OW D env)) (hs:∀ D,At l pre i D→Same valsE D i) (hr:xd X l valsE OW base pre (i+1) os):xd X l valsE OW base pre i (o::os):=
 zj true (fun D env _=>OpS.same (hw env) (fun x=>hd (upd env i x)) (e1 D env) (h D env)) hs hr
theorem ReS.refl {R:Dat→Dat→Prop}:∀ sl:List (Nat × Dat),ReS R sl sl
 | []=>.nil
 | (_,_)::l=>.cons .refl (ReS.refl l)
end
end Go.Sm
