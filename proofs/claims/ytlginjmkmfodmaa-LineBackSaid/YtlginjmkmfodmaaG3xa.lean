/- Printed by a program of this session's own (gen.py): Lean functions for Go functions, and the proofs that the Go code comes to their answers. -/
import Derived.Test.YtlginjmkmfodmaaG1xa
set_option linter.unusedVariables false
set_option linter.unusedSimpArgs false
namespace Go.Proofs.Ytlginjmkmfodmaa.S
open Go Go.Sm
attribute [local irreducible] T TL OpR CallT iter loop
noncomputable def law30_LineBack (a0 : List UInt8) (a1 : Int) (a2 : Int) : Option Bool :=
  bnd (law30_cut a0 90) fun x1 =>
  bnd (ref30_Bound x1 a1) fun x2 =>
  bnd (ref22_Types a2) fun x4 =>
  bnd (if x4 = true then
    bnd (line_Prompt_Key (⟨x1, x2⟩ : line_Prompt) a2) fun x8 =>
    bnd (line_Prompt_Key x8.1 8) fun x10 =>
    bnd (if x8.2.1 = true then
      if x10.2.1 = true then
        if x8.2.2 = 0 then
          if x10.2.2 = 0 then
            if x10.1 = (⟨x1, x2⟩ : line_Prompt) then
              bnd (ref30_Bound x8.1.fS x8.1.fAt) fun x19 =>
              some (!(x19 == x8.1.fAt))
            else
              some true
          else
            some true
        else
          some true
      else
        some true
    else
      some true : Option Bool) fun t12 =>
    if t12 = true then
      some (Ex.ret false)
    else
      some (Ex.brk ())
  else
    some (Ex.brk ()) : Option (Ex Unit Bool)) fun t5 => match t5 with
    | .brk u6 =>
      bnd (line_Prompt_Key (⟨x1, x2⟩ : line_Prompt) (-1)) fun x21 =>
      bnd (line_Prompt_Key x21.1 (-2)) fun x23 =>
      bnd (if x2 > 0 then
        if x23.1 = (⟨x1, x2⟩ : line_Prompt) then
          if x2 = 0 then
            some (!(x21.1 == (⟨x1, x2⟩ : line_Prompt)))
          else
            some false
        else
          some true
      else
        if x2 = 0 then
          some (!(x21.1 == (⟨x1, x2⟩ : line_Prompt)))
        else
          some false : Option Bool) fun t25 =>
      if t25 = true then
        some false
      else
        bnd (line_Prompt_Key (⟨x1, x2⟩ : line_Prompt) a2) fun x31 =>
        bnd (line_Prompt_Key x31.1 (-6)) fun x33 =>
        bnd (bnd (ref30_Bound x31.1.fS x31.1.fAt) fun x37 =>
        if x37 = x31.1.fAt then
          if x33.1.fAt = (x31.1.fS.length : Int) then
            bnd (law30_awake) fun x40 =>
            some x40
          else
            some false
        else
          some false : Option Bool) fun t35 =>
        some t35
    | .ret u6 => some u6
set_option maxHeartbeats 4000000 in
theorem law30_LineBack_c {a0 : List UInt8} {a1 : Int} {a2 : Int} {res : Bool} (h0 : law30_LineBack a0 a1 a2 = some res) : CallF X 4 [.val (.string (bs a0)), .val (.int .i64 a1), .val (.int .i64 a2)] [] (fun x => .val (.bool res)) (fun x => []) := by
 unfold law30_LineBack at h0
 refine CallF.mkG (X := X) Try.func4 rfl rfl Try.ntmps4 rfl rfl ?_
 refine T.seq ?_
 refine T.region ?_
 refine TL.op1 (OpR.pure rfl) rfl ?_
 refine TL.nil ?_
 show T X _ _ _
 refine T.seq ?_
 refine T.region ?_
 refine TL.op1 (OpR.pure rfl) rfl ?_
 obtain ⟨x1, hx1, h0⟩ := bnd_some h0
 refine TL.op1 (OpR.call0 fn9 (law30_cut_c hx1) rfl) rfl ?_
 refine TL.op1 (OpR.pure rfl) rfl ?_
 refine TL.nil ?_
 show T X _ _ _
 refine T.seq ?_
 refine T.region ?_
 refine TL.op1 (OpR.pure rfl) rfl ?_
 refine TL.op1 (OpR.pure rfl) rfl ?_
 refine TL.op1 (OpR.pure rfl) rfl ?_
 obtain ⟨x2, hx2, h0⟩ := bnd_some h0
 refine TL.op1 (OpR.call0 fn10 (ref30_Bound_c hx2) rfl) rfl ?_
 refine TL.op1 (OpR.build rfl rfl rfl rfl rfl) rfl ?_
 refine TL.op (OpR.alloc rfl rfl (fun _ => rfl)) rfl (fun p3 => ?_)
 refine TL.op0 (OpR.store 0 rfl rfl rfl rfl rfl rfl rfl rfl) ?_
 refine TL.nil ?_
 show T X _ _ _
 refine T.seq ?_
 refine T.seq ?_
 refine T.region ?_
 refine TL.op1 (OpR.pure rfl) rfl ?_
 obtain ⟨x4, hx4, h0⟩ := bnd_some h0
 refine TL.op1 (OpR.call0 fn14 (ref22_Types_c hx4) rfl) rfl ?_
 refine TL.nil ?_
 show T X _ _ _
 obtain ⟨t5, ht5, h0⟩ := bnd_some h0
 refine T.cutC (fun S' => ∃ u6, t5 = Ex.brk u6 ∧ S' = ⟨[(7, .val (.pointer (some ⟨(blk p3), 0, none⟩))), (6, .val (.bool false)), (2, .val (.int .i64 a2))], [.var (blk p3) [.val (.string (bs x1)), .val (.int .i64 x2)] 26], 139⟩) (fun _ h => h) ?_ ?_
 rotate_left
 · rintro _ ⟨u6, rfl, rfl⟩
   show T X _ _ _
   refine T.seq ?_
   refine T.region ?_
   refine TL.op1 (OpR.loadPtr 0 rfl rfl rfl rfl) rfl ?_
   obtain ⟨x21, hx21, h0⟩ := bnd_some h0
   refine TL.op1 (OpR.call0 fn11 (line_Prompt_Key_c hx21) rfl) rfl ?_
   refine TL.op1 (OpR.pure rfl) rfl ?_
   refine TL.op1 (OpR.pure rfl) rfl ?_
   refine TL.op1 (OpR.pure rfl) rfl ?_
   refine TL.op1 (OpR.pure rfl) rfl ?_
   refine TL.op (OpR.alloc rfl rfl (fun _ => rfl)) rfl (fun p22 => ?_)
   refine TL.op0 (OpR.store 1 rfl rfl rfl rfl rfl rfl rfl rfl) ?_
   refine TL.op1 (OpR.pure rfl) rfl ?_
   refine TL.op1 (OpR.pure rfl) rfl ?_
   refine TL.nil ?_
   show T X _ _ _
   refine T.seq ?_
   refine T.region ?_
   refine TL.op1 (OpR.loadPtr 1 rfl rfl rfl rfl) rfl ?_
   obtain ⟨x23, hx23, h0⟩ := bnd_some h0
   refine TL.op1 (OpR.call0 fn11 (line_Prompt_Key_c hx23) rfl) rfl ?_
   refine TL.op1 (OpR.pure rfl) rfl ?_
   refine TL.op1 (OpR.pure rfl) rfl ?_
   refine TL.op1 (OpR.pure rfl) rfl ?_
   refine TL.op1 (OpR.pure rfl) rfl ?_
   refine TL.op (OpR.alloc rfl rfl (fun _ => rfl)) rfl (fun p24 => ?_)
   refine TL.op0 (OpR.store 2 rfl rfl rfl rfl rfl rfl rfl rfl) ?_
   refine TL.op1 (OpR.pure rfl) rfl ?_
   refine TL.op1 (OpR.pure rfl) rfl ?_
   refine TL.nil ?_
   show T X _ _ _
   refine T.seq ?_
   refine T.seq ?_
   obtain ⟨t25, ht25, h0⟩ := bnd_some h0
   refine T.cutC (fun S' => S' = ⟨[(106, .val (.bool t25)), (7, .val (.pointer (some ⟨(blk p3), 0, none⟩))), (6, .val (.bool false)), (2, .val (.int .i64 a2))], [.var (blk p3) [.val (.string (bs x1)), .val (.int .i64 x2)] 26], 139⟩) (fun _ h => h) ?_ ?_
   · refine T.region ?_
     refine TL.op1 (OpR.pure rfl) rfl ?_
     refine TL.op1 (OpR.loadPtr 0 rfl rfl rfl rfl) rfl ?_
     refine TL.op1 (OpR.pure rfl) rfl ?_
     refine TL.op1 (OpR.pure rfl) rfl ?_
     rcases ite_some ht25 with ⟨c26, ht25⟩ | ⟨c26, ht25⟩
     rotate_left
     · refine TL.off rfl rfl rfl rfl (decide_eq_false c26) rfl rfl ?_
       refine TL.off rfl rfl rfl rfl (decide_eq_false c26) rfl rfl ?_
       refine TL.off rfl rfl rfl rfl (decide_eq_false c26) rfl rfl ?_
       refine TL.op1 (OpR.pickF rfl (decide_eq_false c26) rfl) rfl ?_
       refine TL.op1 (OpR.pure rfl) rfl ?_
       refine TL.on rfl rfl rfl rfl rfl ?_
       refine TL.op1 (OpR.pure rfl) rfl ?_
       refine TL.on rfl rfl rfl rfl rfl ?_
       refine TL.op1 (OpR.loadPtr 0 rfl rfl rfl rfl) rfl ?_
       refine TL.on rfl rfl rfl rfl rfl ?_
       refine TL.op1 (OpR.pure rfl) rfl ?_
       refine TL.on rfl rfl rfl rfl rfl ?_
       refine TL.op1 (OpR.pure rfl) rfl ?_
       rcases ite_some ht25 with ⟨c29, ht25⟩ | ⟨c29, ht25⟩
       rotate_left
       · refine TL.off rfl rfl rfl rfl (beq_eq_false_iff_ne.2 c29) rfl rfl ?_
         refine TL.off rfl rfl rfl rfl (beq_eq_false_iff_ne.2 c29) rfl rfl ?_
         refine TL.off rfl rfl rfl rfl (beq_eq_false_iff_ne.2 c29) rfl rfl ?_
         refine TL.on rfl rfl rfl rfl rfl ?_
         refine TL.op1 (OpR.pickF rfl (beq_eq_false_iff_ne.2 c29) rfl) rfl ?_
         refine TL.op1 (OpR.pickF rfl rfl rfl) rfl ?_
         refine TL.nil ?_
         obtain rfl := Option.some.inj ht25
         exact ⟨_, Gst.trans (Gst.only [2, 6, 7, 106] rfl) (Gst.pick [0] rfl rfl), rfl⟩
       refine TL.on rfl rfl rfl rfl (beq_iff_eq.2 c29) ?_
       refine TL.op1 (OpR.loadPtr 1 rfl rfl rfl rfl) rfl ?_
       refine TL.on rfl rfl rfl rfl (beq_iff_eq.2 c29) ?_
       refine TL.op1 (OpR.loadPtr 0 rfl rfl rfl rfl) rfl ?_
       refine TL.on rfl rfl rfl rfl (beq_iff_eq.2 c29) ?_
       refine TL.op1 (OpR.cast (OpR.neStruct rfl rfl rfl rfl rfl (by kernel_rfl) (by kernel_rfl)) (boolE (congrArg (fun b => !b) (beq_line_Prompt x21.1 (⟨x1, x2⟩ : line_Prompt))))) rfl ?_
       refine TL.on rfl rfl rfl rfl rfl ?_
       refine TL.op1 (OpR.pickT rfl (beq_iff_eq.2 c29) rfl) rfl ?_
       refine TL.op1 (OpR.pickF rfl rfl rfl) rfl ?_
       refine TL.nil ?_
       obtain rfl := Option.some.inj ht25
       exact ⟨_, Gst.trans (Gst.only [2, 6, 7, 106] rfl) (Gst.pick [0] rfl rfl), rfl⟩
     refine TL.on rfl rfl rfl rfl (decide_eq_true c26) ?_
     refine TL.op1 (OpR.loadPtr 2 rfl rfl rfl rfl) rfl ?_
     refine TL.on rfl rfl rfl rfl (decide_eq_true c26) ?_
     refine TL.op1 (OpR.loadPtr 0 rfl rfl rfl rfl) rfl ?_
     refine TL.on rfl rfl rfl rfl (decide_eq_true c26) ?_
     refine TL.op1 (OpR.cast (OpR.neStruct rfl rfl rfl rfl rfl (by kernel_rfl) (by kernel_rfl)) (boolE (congrArg (fun b => !b) (beq_line_Prompt x23.1 (⟨x1, x2⟩ : line_Prompt))))) rfl ?_
     refine TL.op1 (OpR.pickT rfl (decide_eq_true c26) rfl) rfl ?_
     refine TL.op1 (OpR.pure rfl) rfl ?_
     rcases ite_some ht25 with ⟨c27, ht25⟩ | ⟨c27, ht25⟩
     rotate_left
     · refine TL.off rfl rfl rfl rfl (not_f (beq_eq_false_iff_ne.2 c27)) rfl rfl ?_
       refine TL.off rfl rfl rfl rfl (not_f (beq_eq_false_iff_ne.2 c27)) rfl rfl ?_
       refine TL.off rfl rfl rfl rfl (not_f (beq_eq_false_iff_ne.2 c27)) rfl rfl ?_
       refine TL.off rfl rfl rfl rfl (not_f (beq_eq_false_iff_ne.2 c27)) rfl rfl ?_
       refine TL.offU rfl rfl rfl rfl rfl rfl ?_
       refine TL.offU rfl rfl rfl rfl rfl rfl ?_
       refine TL.offU rfl rfl rfl rfl rfl rfl ?_
       refine TL.off rfl rfl rfl rfl (not_f (beq_eq_false_iff_ne.2 c27)) rfl rfl ?_
       refine TL.op1 (OpR.pickT rfl (not_f (beq_eq_false_iff_ne.2 c27)) rfl) rfl ?_
       refine TL.nil ?_
       obtain rfl := Option.some.inj ht25
       exact ⟨_, Gst.trans (Gst.only [2, 6, 7, 106] rfl) (Gst.pick [0] rfl rfl), rfl⟩
     refine TL.on rfl rfl rfl rfl (not_t (beq_iff_eq.2 c27)) ?_
     refine TL.op1 (OpR.pure rfl) rfl ?_
     refine TL.on rfl rfl rfl rfl (not_t (beq_iff_eq.2 c27)) ?_
     refine TL.op1 (OpR.loadPtr 0 rfl rfl rfl rfl) rfl ?_
     refine TL.on rfl rfl rfl rfl (not_t (beq_iff_eq.2 c27)) ?_
     refine TL.op1 (OpR.pure rfl) rfl ?_
     refine TL.on rfl rfl rfl rfl (not_t (beq_iff_eq.2 c27)) ?_
     refine TL.op1 (OpR.pure rfl) rfl ?_
     rcases ite_some ht25 with ⟨c28, ht25⟩ | ⟨c28, ht25⟩
     rotate_left
     · refine TL.off rfl rfl rfl rfl (beq_eq_false_iff_ne.2 c28) rfl rfl ?_
       refine TL.off rfl rfl rfl rfl (beq_eq_false_iff_ne.2 c28) rfl rfl ?_
       refine TL.off rfl rfl rfl rfl (beq_eq_false_iff_ne.2 c28) rfl rfl ?_
       refine TL.on rfl rfl rfl rfl (not_t (beq_iff_eq.2 c27)) ?_
       refine TL.op1 (OpR.pickF rfl (beq_eq_false_iff_ne.2 c28) rfl) rfl ?_
       refine TL.op1 (OpR.pickF rfl (not_t (beq_iff_eq.2 c27)) rfl) rfl ?_
       refine TL.nil ?_
       obtain rfl := Option.some.inj ht25
       exact ⟨_, Gst.trans (Gst.only [2, 6, 7, 106] rfl) (Gst.pick [0] rfl rfl), rfl⟩
     refine TL.on rfl rfl rfl rfl (beq_iff_eq.2 c28) ?_
     refine TL.op1 (OpR.loadPtr 1 rfl rfl rfl rfl) rfl ?_
     refine TL.on rfl rfl rfl rfl (beq_iff_eq.2 c28) ?_
     refine TL.op1 (OpR.loadPtr 0 rfl rfl rfl rfl) rfl ?_
     refine TL.on rfl rfl rfl rfl (beq_iff_eq.2 c28) ?_
     refine TL.op1 (OpR.cast (OpR.neStruct rfl rfl rfl rfl rfl (by kernel_rfl) (by kernel_rfl)) (boolE (congrArg (fun b => !b) (beq_line_Prompt x21.1 (⟨x1, x2⟩ : line_Prompt))))) rfl ?_
     refine TL.on rfl rfl rfl rfl (not_t (beq_iff_eq.2 c27)) ?_
     refine TL.op1 (OpR.pickT rfl (beq_iff_eq.2 c28) rfl) rfl ?_
     refine TL.op1 (OpR.pickF rfl (not_t (beq_iff_eq.2 c27)) rfl) rfl ?_
     refine TL.nil ?_
     obtain rfl := Option.some.inj ht25
     exact ⟨_, Gst.trans (Gst.only [2, 6, 7, 106] rfl) (Gst.pick [0] rfl rfl), rfl⟩
   rintro _ rfl
   show T X _ _ _
   rcases ite_some h0 with ⟨c30, h0⟩ | ⟨c30, h0⟩
   · refine T.condT rfl (c30) ?_
     refine T.seq ?_
     refine T.region ?_
     refine TL.op1 (OpR.pure rfl) rfl ?_
     refine TL.nil ?_
     show T X _ _ _
     refine T.ret ?_
     obtain rfl := Option.some.inj h0
     exact PostG.retP (ks := []) (Gst.trans (Gst.only [6] rfl) (Gst.pick [] rfl rfl)) undef (ResL.cons (ResV.tmp rfl) ResL.nil) rfl rfl rfl rfl
   refine T.condF rfl (eq_false_of_ne_true c30) ?_
   refine T.skip ?_
   show T X _ _ _
   refine T.seq ?_
   refine T.region ?_
   refine TL.op1 (OpR.loadPtr 0 rfl rfl rfl rfl) rfl ?_
   refine TL.op1 (OpR.pure rfl) rfl ?_
   obtain ⟨x31, hx31, h0⟩ := bnd_some h0
   refine TL.op1 (OpR.call0 fn11 (line_Prompt_Key_c hx31) rfl) rfl ?_
   refine TL.op1 (OpR.pure rfl) rfl ?_
   refine TL.op1 (OpR.pure rfl) rfl ?_
   refine TL.op1 (OpR.pure rfl) rfl ?_
   refine TL.op1 (OpR.pure rfl) rfl ?_
   refine TL.op (OpR.alloc rfl rfl (fun _ => rfl)) rfl (fun p32 => ?_)
   refine TL.op0 (OpR.store 1 rfl rfl rfl rfl rfl rfl rfl rfl) ?_
   refine TL.op1 (OpR.pure rfl) rfl ?_
   refine TL.op1 (OpR.pure rfl) rfl ?_
   refine TL.nil ?_
   show T X _ _ _
   refine T.seq ?_
   refine T.region ?_
   refine TL.op1 (OpR.loadPtr 1 rfl rfl rfl rfl) rfl ?_
   obtain ⟨x33, hx33, h0⟩ := bnd_some h0
   refine TL.op1 (OpR.call0 fn11 (line_Prompt_Key_c hx33) rfl) rfl ?_
   refine TL.op1 (OpR.pure rfl) rfl ?_
   refine TL.op1 (OpR.pure rfl) rfl ?_
   refine TL.op1 (OpR.pure rfl) rfl ?_
   refine TL.op1 (OpR.pure rfl) rfl ?_
   refine TL.op (OpR.alloc rfl rfl (fun _ => rfl)) rfl (fun p34 => ?_)
   refine TL.op0 (OpR.store 2 rfl rfl rfl rfl rfl rfl rfl rfl) ?_
   refine TL.op1 (OpR.pure rfl) rfl ?_
   refine TL.op1 (OpR.pure rfl) rfl ?_
   refine TL.nil ?_
   show T X _ _ _
   refine T.seq ?_
   obtain ⟨t35, ht35, h0⟩ := bnd_some h0
   refine T.cutC (fun S' => S' = ⟨[(6, .val (.bool t35))], [], 139⟩) (fun _ h => h) ?_ ?_
   rotate_left
   · rintro _ rfl
     show T X _ _ _
     refine T.ret ?_
     obtain rfl := Option.some.inj h0
     exact PostG.retP (ks := []) (Gst.only [6] rfl) undef (ResL.cons (ResV.tmp rfl) ResL.nil) rfl rfl rfl rfl
   obtain ⟨x37, hx37, ht35⟩ := bnd_some ht35
   rcases ite_some ht35 with ⟨c38, ht35⟩ | ⟨c38, ht35⟩
   rotate_left
   · refine T.drawQ drawsX [.val (.pointer (some ⟨(blk p32), 0, none⟩)), .val (.string (bs x31.1.fS)), .val (.pointer (some ⟨(blk p32), 1, none⟩)), .val (.int .i64 x31.1.fAt), .val (.int .i64 x37), .val (.pointer (some ⟨(blk p32), 1, none⟩)), .val (.int .i64 x31.1.fAt), .val (.bool (x37 == x31.1.fAt)), .val (.bool (x37 == x31.1.fAt)), .tup [], .tup [], .tup [], .tup [], .tup [], .tup [], .val (.bool false), .val (.bool false), .tup [], .val (.bool false), .val (.bool false)] [2, 6, 7, 20, 21, 22, 23, 24, 25, 106, 107, 108, 109, 110, 111, 112, 113, 114, 115, 116, 117, 118, 119, 120, 121, 122, 123, 124, 125, 126, 127, 128, 129, 130, 131, 132, 133, 134, 135, 136, 137, 138] (by decide +kernel) rfl ?_ rfl ?_
     rotate_left
     · obtain rfl := Option.some.inj ht35
       exact ⟨_, Gst.trans (Gst.only [6] rfl) (Gst.pick [] rfl rfl), rfl⟩
     refine OpsQ.yes (Want.plain rfl) rfl (OpR.pure rfl) ?_
     refine OpsQ.yes (Want.plain rfl) rfl (OpR.loadPtr 1 rfl rfl rfl rfl) ?_
     refine OpsQ.yes (Want.plain rfl) rfl (OpR.pure rfl) ?_
     refine OpsQ.yes (Want.plain rfl) rfl (OpR.loadPtr 1 rfl rfl rfl rfl) ?_
     refine OpsQ.yes (Want.plain rfl) rfl (OpR.call0 fn10 (ref30_Bound_c hx37) rfl) ?_
     refine OpsQ.yes (Want.plain rfl) rfl (OpR.pure rfl) ?_
     refine OpsQ.yes (Want.plain rfl) rfl (OpR.loadPtr 1 rfl rfl rfl rfl) ?_
     refine OpsQ.yes (Want.plain rfl) rfl (OpR.pure rfl) ?_
     refine OpsQ.yes (Want.plain rfl) rfl (OpR.pure rfl) ?_
     refine OpsQ.no (Want.bool rfl rfl rfl rfl (by rw [(beq_eq_false_iff_ne.2 c38)]; rfl)) rfl ?_
     refine OpsQ.no (Want.bool rfl rfl rfl rfl (by rw [(beq_eq_false_iff_ne.2 c38)]; rfl)) rfl ?_
     refine OpsQ.no (Want.bool rfl rfl rfl rfl (by rw [(beq_eq_false_iff_ne.2 c38)]; rfl)) rfl ?_
     refine OpsQ.no (Want.bool rfl rfl rfl rfl (by rw [(beq_eq_false_iff_ne.2 c38)]; rfl)) rfl ?_
     refine OpsQ.no (Want.bool rfl rfl rfl rfl (by rw [(beq_eq_false_iff_ne.2 c38)]; rfl)) rfl ?_
     refine OpsQ.no (Want.bool rfl rfl rfl rfl (by rw [(beq_eq_false_iff_ne.2 c38)]; rfl)) rfl ?_
     refine OpsQ.yes (Want.plain rfl) rfl (OpR.pickF rfl (beq_eq_false_iff_ne.2 c38) rfl) ?_
     refine OpsQ.yes (Want.plain rfl) rfl (OpR.pure rfl) ?_
     refine OpsQ.no (Want.bool rfl rfl rfl rfl rfl) rfl ?_
     refine OpsQ.yes (Want.plain rfl) rfl (OpR.pickF rfl rfl rfl) ?_
     refine OpsQ.yes (Want.plain rfl) rfl (OpR.pure rfl) ?_
     exact OpsQ.nil
   rcases ite_some ht35 with ⟨c39, ht35⟩ | ⟨c39, ht35⟩
   rotate_left
   · refine T.drawQ drawsX [.val (.pointer (some ⟨(blk p32), 0, none⟩)), .val (.string (bs x31.1.fS)), .val (.pointer (some ⟨(blk p32), 1, none⟩)), .val (.int .i64 x31.1.fAt), .val (.int .i64 x37), .val (.pointer (some ⟨(blk p32), 1, none⟩)), .val (.int .i64 x31.1.fAt), .val (.bool (x37 == x31.1.fAt)), .val (.bool (x37 == x31.1.fAt)), .val (.pointer (some ⟨(blk p34), 1, none⟩)), .val (.int .i64 x33.1.fAt), .val (.pointer (some ⟨(blk p32), 0, none⟩)), .val (.string (bs x31.1.fS)), .val (.int .i64 (x31.1.fS.length : Int)), .val (.bool (x33.1.fAt == (x31.1.fS.length : Int))), .val (.bool (x33.1.fAt == (x31.1.fS.length : Int))), .val (.bool (x33.1.fAt == (x31.1.fS.length : Int))), .tup [], .val (.bool false), .val (.bool false)] [2, 6, 7, 20, 21, 22, 23, 24, 25, 106, 107, 108, 109, 110, 111, 112, 113, 114, 115, 116, 117, 118, 119, 120, 121, 122, 123, 124, 125, 126, 127, 128, 129, 130, 131, 132, 133, 134, 135, 136, 137, 138] (by decide +kernel) rfl ?_ rfl ?_
     rotate_left
     · obtain rfl := Option.some.inj ht35
       exact ⟨_, Gst.trans (Gst.only [6] rfl) (Gst.pick [] rfl rfl), rfl⟩
     refine OpsQ.yes (Want.plain rfl) rfl (OpR.pure rfl) ?_
     refine OpsQ.yes (Want.plain rfl) rfl (OpR.loadPtr 1 rfl rfl rfl rfl) ?_
     refine OpsQ.yes (Want.plain rfl) rfl (OpR.pure rfl) ?_
     refine OpsQ.yes (Want.plain rfl) rfl (OpR.loadPtr 1 rfl rfl rfl rfl) ?_
     refine OpsQ.yes (Want.plain rfl) rfl (OpR.call0 fn10 (ref30_Bound_c hx37) rfl) ?_
     refine OpsQ.yes (Want.plain rfl) rfl (OpR.pure rfl) ?_
     refine OpsQ.yes (Want.plain rfl) rfl (OpR.loadPtr 1 rfl rfl rfl rfl) ?_
     refine OpsQ.yes (Want.plain rfl) rfl (OpR.pure rfl) ?_
     refine OpsQ.yes (Want.plain rfl) rfl (OpR.pure rfl) ?_
     refine OpsQ.yes (Want.bool rfl rfl rfl rfl (by rw [(beq_iff_eq.2 c38)]; rfl)) rfl (OpR.pure rfl) ?_
     refine OpsQ.yes (Want.bool rfl rfl rfl rfl (by rw [(beq_iff_eq.2 c38)]; rfl)) rfl (OpR.loadPtr 2 rfl rfl rfl rfl) ?_
     refine OpsQ.yes (Want.bool rfl rfl rfl rfl (by rw [(beq_iff_eq.2 c38)]; rfl)) rfl (OpR.pure rfl) ?_
     refine OpsQ.yes (Want.bool rfl rfl rfl rfl (by rw [(beq_iff_eq.2 c38)]; rfl)) rfl (OpR.loadPtr 1 rfl rfl rfl rfl) ?_
     refine OpsQ.yes (Want.bool rfl rfl rfl rfl (by rw [(beq_iff_eq.2 c38)]; rfl)) rfl (OpR.cast (OpR.pure rfl) (intE (lenS _))) ?_
     refine OpsQ.yes (Want.bool rfl rfl rfl rfl (by rw [(beq_iff_eq.2 c38)]; rfl)) rfl (OpR.pure rfl) ?_
     refine OpsQ.yes (Want.plain rfl) rfl (OpR.pickT rfl (beq_iff_eq.2 c38) rfl) ?_
     refine OpsQ.yes (Want.plain rfl) rfl (OpR.pure rfl) ?_
     refine OpsQ.no (Want.bool rfl rfl rfl rfl (by rw [(beq_eq_false_iff_ne.2 c39)]; rfl)) rfl ?_
     refine OpsQ.yes (Want.plain rfl) rfl (OpR.pickF rfl (beq_eq_false_iff_ne.2 c39) rfl) ?_
     refine OpsQ.yes (Want.plain rfl) rfl (OpR.pure rfl) ?_
     exact OpsQ.nil
   obtain ⟨x40, hx40, ht35⟩ := bnd_some ht35
   refine T.drawQ drawsX [.val (.pointer (some ⟨(blk p32), 0, none⟩)), .val (.string (bs x31.1.fS)), .val (.pointer (some ⟨(blk p32), 1, none⟩)), .val (.int .i64 x31.1.fAt), .val (.int .i64 x37), .val (.pointer (some ⟨(blk p32), 1, none⟩)), .val (.int .i64 x31.1.fAt), .val (.bool (x37 == x31.1.fAt)), .val (.bool (x37 == x31.1.fAt)), .val (.pointer (some ⟨(blk p34), 1, none⟩)), .val (.int .i64 x33.1.fAt), .val (.pointer (some ⟨(blk p32), 0, none⟩)), .val (.string (bs x31.1.fS)), .val (.int .i64 (x31.1.fS.length : Int)), .val (.bool (x33.1.fAt == (x31.1.fS.length : Int))), .val (.bool (x33.1.fAt == (x31.1.fS.length : Int))), .val (.bool (x33.1.fAt == (x31.1.fS.length : Int))), .val (.bool x40), .val (.bool x40), .val (.bool x40)] [2, 6, 7, 20, 21, 22, 23, 24, 25, 106, 107, 108, 109, 110, 111, 112, 113, 114, 115, 116, 117, 118, 119, 120, 121, 122, 123, 124, 125, 126, 127, 128, 129, 130, 131, 132, 133, 134, 135, 136, 137, 138] (by decide +kernel) rfl ?_ rfl ?_
   rotate_left
   · obtain rfl := Option.some.inj ht35
     exact ⟨_, Gst.trans (Gst.only [6] rfl) (Gst.pick [] rfl rfl), rfl⟩
   refine OpsQ.yes (Want.plain rfl) rfl (OpR.pure rfl) ?_
   refine OpsQ.yes (Want.plain rfl) rfl (OpR.loadPtr 1 rfl rfl rfl rfl) ?_
   refine OpsQ.yes (Want.plain rfl) rfl (OpR.pure rfl) ?_
   refine OpsQ.yes (Want.plain rfl) rfl (OpR.loadPtr 1 rfl rfl rfl rfl) ?_
   refine OpsQ.yes (Want.plain rfl) rfl (OpR.call0 fn10 (ref30_Bound_c hx37) rfl) ?_
   refine OpsQ.yes (Want.plain rfl) rfl (OpR.pure rfl) ?_
   refine OpsQ.yes (Want.plain rfl) rfl (OpR.loadPtr 1 rfl rfl rfl rfl) ?_
   refine OpsQ.yes (Want.plain rfl) rfl (OpR.pure rfl) ?_
   refine OpsQ.yes (Want.plain rfl) rfl (OpR.pure rfl) ?_
   refine OpsQ.yes (Want.bool rfl rfl rfl rfl (by rw [(beq_iff_eq.2 c38)]; rfl)) rfl (OpR.pure rfl) ?_
   refine OpsQ.yes (Want.bool rfl rfl rfl rfl (by rw [(beq_iff_eq.2 c38)]; rfl)) rfl (OpR.loadPtr 2 rfl rfl rfl rfl) ?_
   refine OpsQ.yes (Want.bool rfl rfl rfl rfl (by rw [(beq_iff_eq.2 c38)]; rfl)) rfl (OpR.pure rfl) ?_
   refine OpsQ.yes (Want.bool rfl rfl rfl rfl (by rw [(beq_iff_eq.2 c38)]; rfl)) rfl (OpR.loadPtr 1 rfl rfl rfl rfl) ?_
   refine OpsQ.yes (Want.bool rfl rfl rfl rfl (by rw [(beq_iff_eq.2 c38)]; rfl)) rfl (OpR.cast (OpR.pure rfl) (intE (lenS _))) ?_
   refine OpsQ.yes (Want.bool rfl rfl rfl rfl (by rw [(beq_iff_eq.2 c38)]; rfl)) rfl (OpR.pure rfl) ?_
   refine OpsQ.yes (Want.plain rfl) rfl (OpR.pickT rfl (beq_iff_eq.2 c38) rfl) ?_
   refine OpsQ.yes (Want.plain rfl) rfl (OpR.pure rfl) ?_
   refine OpsQ.yes (Want.bool rfl rfl rfl rfl (by rw [(beq_iff_eq.2 c39)]; rfl)) rfl (OpR.call0 fn13 (law30_awake_c hx40) rfl) ?_
   refine OpsQ.yes (Want.plain rfl) rfl (OpR.pickT rfl (beq_iff_eq.2 c39) rfl) ?_
   refine OpsQ.yes (Want.plain rfl) rfl (OpR.pure rfl) ?_
   exact OpsQ.nil
 rcases ite_some ht5 with ⟨c7, ht5⟩ | ⟨c7, ht5⟩
 rotate_left
 · refine T.condF rfl (eq_false_of_ne_true c7) ?_
   refine T.skip ?_
   obtain rfl := Option.some.inj ht5
   exact ⟨_, Gst.only [2, 6, 7] rfl, _, rfl, rfl⟩
 refine T.condT rfl (c7) ?_
 refine T.seq ?_
 refine T.region ?_
 refine TL.op1 (OpR.loadPtr 0 rfl rfl rfl rfl) rfl ?_
 refine TL.op1 (OpR.pure rfl) rfl ?_
 obtain ⟨x8, hx8, ht5⟩ := bnd_some ht5
 refine TL.op1 (OpR.call0 fn11 (line_Prompt_Key_c hx8) rfl) rfl ?_
 refine TL.op1 (OpR.pure rfl) rfl ?_
 refine TL.op1 (OpR.pure rfl) rfl ?_
 refine TL.op1 (OpR.pure rfl) rfl ?_
 refine TL.op1 (OpR.pure rfl) rfl ?_
 refine TL.op (OpR.alloc rfl rfl (fun _ => rfl)) rfl (fun p9 => ?_)
 refine TL.op0 (OpR.store 1 rfl rfl rfl rfl rfl rfl rfl rfl) ?_
 refine TL.op1 (OpR.pure rfl) rfl ?_
 refine TL.op1 (OpR.pure rfl) rfl ?_
 refine TL.nil ?_
 show T X _ _ _
 refine T.seq ?_
 refine T.region ?_
 refine TL.op1 (OpR.loadPtr 1 rfl rfl rfl rfl) rfl ?_
 obtain ⟨x10, hx10, ht5⟩ := bnd_some ht5
 refine TL.op1 (OpR.call0 fn11 (line_Prompt_Key_c hx10) rfl) rfl ?_
 refine TL.op1 (OpR.pure rfl) rfl ?_
 refine TL.op1 (OpR.pure rfl) rfl ?_
 refine TL.op1 (OpR.pure rfl) rfl ?_
 refine TL.op1 (OpR.pure rfl) rfl ?_
 refine TL.op (OpR.alloc rfl rfl (fun _ => rfl)) rfl (fun p11 => ?_)
 refine TL.op0 (OpR.store 2 rfl rfl rfl rfl rfl rfl rfl rfl) ?_
 refine TL.op1 (OpR.pure rfl) rfl ?_
 refine TL.op1 (OpR.pure rfl) rfl ?_
 refine TL.nil ?_
 show T X _ _ _
 refine T.seq ?_
 obtain ⟨t12, ht12, ht5⟩ := bnd_some ht5
 refine T.cutC (fun S' => S' = ⟨[(76, .val (.bool t12)), (7, .val (.pointer (some ⟨(blk p3), 0, none⟩))), (6, .val (.bool false)), (2, .val (.int .i64 a2))], [.var (blk p3) [.val (.string (bs x1)), .val (.int .i64 x2)] 26], 139⟩) (fun _ h => h) ?_ ?_
 rotate_left
 · rintro _ rfl
   show T X _ _ _
   rcases ite_some ht5 with ⟨c20, ht5⟩ | ⟨c20, ht5⟩
   rotate_left
   · refine T.condF rfl (eq_false_of_ne_true c20) ?_
     refine T.skip ?_
     obtain rfl := Option.some.inj ht5
     exact ⟨_, Gst.only [2, 6, 7] rfl, _, rfl, rfl⟩
   refine T.condT rfl (c20) ?_
   refine T.seq ?_
   refine T.region ?_
   refine TL.op1 (OpR.pure rfl) rfl ?_
   refine TL.nil ?_
   show T X _ _ _
   refine T.ret ?_
   obtain rfl := Option.some.inj ht5
   obtain rfl := Option.some.inj h0
   exact PostG.retP (ks := []) (Gst.trans (Gst.only [6] rfl) (Gst.pick [] rfl rfl)) undef (ResL.cons (ResV.tmp rfl) ResL.nil) rfl rfl rfl rfl
 rcases ite_some ht12 with ⟨c14, ht12⟩ | ⟨c14, ht12⟩
 rotate_left
 · refine T.drawQ drawsX [.val (.bool x8.2.1), .val (.bool (!x8.2.1)), .val (.bool (!x8.2.1)), .tup [], .tup [], .val (.bool true), .val (.bool true), .tup [], .tup [], .val (.bool true), .val (.bool true), .tup [], .tup [], .val (.bool true), .val (.bool true), .tup [], .tup [], .tup [], .val (.bool true), .val (.bool true), .tup [], .tup [], .tup [], .tup [], .tup [], .tup [], .tup [], .tup [], .val (.bool true)] [0, 1, 2, 6, 7, 8, 9, 10, 11, 12, 13, 26, 27, 28, 29, 30, 31, 32, 33, 34, 35, 36, 37, 38, 39, 40, 41, 42, 43, 44, 45, 46, 47, 48, 49, 50, 51, 52, 53, 54, 55, 56, 57, 58, 59, 60, 61, 62, 63, 64, 65, 66, 67, 68, 69, 70, 71, 72, 73, 74, 75, 76] (by decide +kernel) rfl ?_ rfl ?_
   rotate_left
   · obtain rfl := Option.some.inj ht12
     exact ⟨_, Gst.trans (Gst.only [2, 6, 7, 76] rfl) (Gst.pick [0] rfl rfl), rfl⟩
   refine OpsQ.yes (Want.plain rfl) rfl (OpR.pure rfl) ?_
   refine OpsQ.yes (Want.plain rfl) rfl (OpR.pure rfl) ?_
   refine OpsQ.yes (Want.plain rfl) rfl (OpR.pure rfl) ?_
   refine OpsQ.no (Want.bool rfl rfl rfl rfl (by rw [(not_f (eq_false_of_ne_true c14))]; rfl)) rfl ?_
   refine OpsQ.no (Want.bool rfl rfl rfl rfl (by rw [(not_f (eq_false_of_ne_true c14))]; rfl)) rfl ?_
   refine OpsQ.yes (Want.plain rfl) rfl (OpR.pickT rfl (not_f (eq_false_of_ne_true c14)) rfl) ?_
   refine OpsQ.yes (Want.plain rfl) rfl (OpR.pure rfl) ?_
   refine OpsQ.no (Want.bool rfl rfl rfl rfl rfl) rfl ?_
   refine OpsQ.no (Want.bool rfl rfl rfl rfl rfl) rfl ?_
   refine OpsQ.yes (Want.plain rfl) rfl (OpR.pickT rfl rfl rfl) ?_
   refine OpsQ.yes (Want.plain rfl) rfl (OpR.pure rfl) ?_
   refine OpsQ.no (Want.bool rfl rfl rfl rfl rfl) rfl ?_
   refine OpsQ.no (Want.bool rfl rfl rfl rfl rfl) rfl ?_
   refine OpsQ.yes (Want.plain rfl) rfl (OpR.pickT rfl rfl rfl) ?_
   refine OpsQ.yes (Want.plain rfl) rfl (OpR.pure rfl) ?_
   refine OpsQ.no (Want.bool rfl rfl rfl rfl rfl) rfl ?_
   refine OpsQ.no (Want.bool rfl rfl rfl rfl rfl) rfl ?_
   refine OpsQ.no (Want.bool rfl rfl rfl rfl rfl) rfl ?_
   refine OpsQ.yes (Want.plain rfl) rfl (OpR.pickT rfl rfl rfl) ?_
   refine OpsQ.yes (Want.plain rfl) rfl (OpR.pure rfl) ?_
   refine OpsQ.no (Want.bool rfl rfl rfl rfl rfl) rfl ?_
   refine OpsQ.no (Want.bool rfl rfl rfl rfl rfl) rfl ?_
   refine OpsQ.no (Want.bool rfl rfl rfl rfl rfl) rfl ?_
   refine OpsQ.no (Want.bool rfl rfl rfl rfl rfl) rfl ?_
   refine OpsQ.no (Want.bool rfl rfl rfl rfl rfl) rfl ?_
   refine OpsQ.no (Want.bool rfl rfl rfl rfl rfl) rfl ?_
   refine OpsQ.no (Want.bool rfl rfl rfl rfl rfl) rfl ?_
   refine OpsQ.no (Want.bool rfl rfl rfl rfl rfl) rfl ?_
   refine OpsQ.yes (Want.plain rfl) rfl (OpR.pickT rfl rfl rfl) ?_
   exact OpsQ.nil
 rcases ite_some ht12 with ⟨c15, ht12⟩ | ⟨c15, ht12⟩
 rotate_left
 · refine T.drawQ drawsX [.val (.bool x8.2.1), .val (.bool (!x8.2.1)), .val (.bool (!x8.2.1)), .val (.bool x10.2.1), .val (.bool (!x10.2.1)), .val (.bool (!x10.2.1)), .val (.bool (!x10.2.1)), .tup [], .tup [], .val (.bool true), .val (.bool true), .tup [], .tup [], .val (.bool true), .val (.bool true), .tup [], .tup [], .tup [], .val (.bool true), .val (.bool true), .tup [], .tup [], .tup [], .tup [], .tup [], .tup [], .tup [], .tup [], .val (.bool true)] [0, 1, 2, 6, 7, 8, 9, 10, 11, 12, 13, 26, 27, 28, 29, 30, 31, 32, 33, 34, 35, 36, 37, 38, 39, 40, 41, 42, 43, 44, 45, 46, 47, 48, 49, 50, 51, 52, 53, 54, 55, 56, 57, 58, 59, 60, 61, 62, 63, 64, 65, 66, 67, 68, 69, 70, 71, 72, 73, 74, 75, 76] (by decide +kernel) rfl ?_ rfl ?_
   rotate_left
   · obtain rfl := Option.some.inj ht12
     exact ⟨_, Gst.trans (Gst.only [2, 6, 7, 76] rfl) (Gst.pick [0] rfl rfl), rfl⟩
   refine OpsQ.yes (Want.plain rfl) rfl (OpR.pure rfl) ?_
   refine OpsQ.yes (Want.plain rfl) rfl (OpR.pure rfl) ?_
   refine OpsQ.yes (Want.plain rfl) rfl (OpR.pure rfl) ?_
   refine OpsQ.yes (Want.bool rfl rfl rfl rfl (by rw [(not_t (c14))]; rfl)) rfl (OpR.pure rfl) ?_
   refine OpsQ.yes (Want.bool rfl rfl rfl rfl (by rw [(not_t (c14))]; rfl)) rfl (OpR.pure rfl) ?_
   refine OpsQ.yes (Want.plain rfl) rfl (OpR.pickF rfl (not_t (c14)) rfl) ?_
   refine OpsQ.yes (Want.plain rfl) rfl (OpR.pure rfl) ?_
   refine OpsQ.no (Want.bool rfl rfl rfl rfl (by rw [(not_f (eq_false_of_ne_true c15))]; rfl)) rfl ?_
   refine OpsQ.no (Want.bool rfl rfl rfl rfl (by rw [(not_f (eq_false_of_ne_true c15))]; rfl)) rfl ?_
   refine OpsQ.yes (Want.plain rfl) rfl (OpR.pickT rfl (not_f (eq_false_of_ne_true c15)) rfl) ?_
   refine OpsQ.yes (Want.plain rfl) rfl (OpR.pure rfl) ?_
   refine OpsQ.no (Want.bool rfl rfl rfl rfl rfl) rfl ?_
   refine OpsQ.no (Want.bool rfl rfl rfl rfl rfl) rfl ?_
   refine OpsQ.yes (Want.plain rfl) rfl (OpR.pickT rfl rfl rfl) ?_
   refine OpsQ.yes (Want.plain rfl) rfl (OpR.pure rfl) ?_
   refine OpsQ.no (Want.bool rfl rfl rfl rfl rfl) rfl ?_
   refine OpsQ.no (Want.bool rfl rfl rfl rfl rfl) rfl ?_
   refine OpsQ.no (Want.bool rfl rfl rfl rfl rfl) rfl ?_
   refine OpsQ.yes (Want.plain rfl) rfl (OpR.pickT rfl rfl rfl) ?_
   refine OpsQ.yes (Want.plain rfl) rfl (OpR.pure rfl) ?_
   refine OpsQ.no (Want.bool rfl rfl rfl rfl rfl) rfl ?_
   refine OpsQ.no (Want.bool rfl rfl rfl rfl rfl) rfl ?_
   refine OpsQ.no (Want.bool rfl rfl rfl rfl rfl) rfl ?_
   refine OpsQ.no (Want.bool rfl rfl rfl rfl rfl) rfl ?_
   refine OpsQ.no (Want.bool rfl rfl rfl rfl rfl) rfl ?_
   refine OpsQ.no (Want.bool rfl rfl rfl rfl rfl) rfl ?_
   refine OpsQ.no (Want.bool rfl rfl rfl rfl rfl) rfl ?_
   refine OpsQ.no (Want.bool rfl rfl rfl rfl rfl) rfl ?_
   refine OpsQ.yes (Want.plain rfl) rfl (OpR.pickT rfl rfl rfl) ?_
   exact OpsQ.nil
 rcases ite_some ht12 with ⟨c16, ht12⟩ | ⟨c16, ht12⟩
 rotate_left
 · refine T.drawQ drawsX [.val (.bool x8.2.1), .val (.bool (!x8.2.1)), .val (.bool (!x8.2.1)), .val (.bool x10.2.1), .val (.bool (!x10.2.1)), .val (.bool (!x10.2.1)), .val (.bool (!x10.2.1)), .val (.int .i64 x8.2.2), .val (.bool (!(x8.2.2 == 0))), .val (.bool (!(x8.2.2 == 0))), .val (.bool (!(x8.2.2 == 0))), .tup [], .tup [], .val (.bool true), .val (.bool true), .tup [], .tup [], .tup [], .val (.bool true), .val (.bool true), .tup [], .tup [], .tup [], .tup [], .tup [], .tup [], .tup [], .tup [], .val (.bool true)] [0, 1, 2, 6, 7, 8, 9, 10, 11, 12, 13, 26, 27, 28, 29, 30, 31, 32, 33, 34, 35, 36, 37, 38, 39, 40, 41, 42, 43, 44, 45, 46, 47, 48, 49, 50, 51, 52, 53, 54, 55, 56, 57, 58, 59, 60, 61, 62, 63, 64, 65, 66, 67, 68, 69, 70, 71, 72, 73, 74, 75, 76] (by decide +kernel) rfl ?_ rfl ?_
   rotate_left
   · obtain rfl := Option.some.inj ht12
     exact ⟨_, Gst.trans (Gst.only [2, 6, 7, 76] rfl) (Gst.pick [0] rfl rfl), rfl⟩
   refine OpsQ.yes (Want.plain rfl) rfl (OpR.pure rfl) ?_
   refine OpsQ.yes (Want.plain rfl) rfl (OpR.pure rfl) ?_
   refine OpsQ.yes (Want.plain rfl) rfl (OpR.pure rfl) ?_
   refine OpsQ.yes (Want.bool rfl rfl rfl rfl (by rw [(not_t (c14))]; rfl)) rfl (OpR.pure rfl) ?_
   refine OpsQ.yes (Want.bool rfl rfl rfl rfl (by rw [(not_t (c14))]; rfl)) rfl (OpR.pure rfl) ?_
   refine OpsQ.yes (Want.plain rfl) rfl (OpR.pickF rfl (not_t (c14)) rfl) ?_
   refine OpsQ.yes (Want.plain rfl) rfl (OpR.pure rfl) ?_
   refine OpsQ.yes (Want.bool rfl rfl rfl rfl (by rw [(not_t (c15))]; rfl)) rfl (OpR.pure rfl) ?_
   refine OpsQ.yes (Want.bool rfl rfl rfl rfl (by rw [(not_t (c15))]; rfl)) rfl (OpR.pure rfl) ?_
   refine OpsQ.yes (Want.plain rfl) rfl (OpR.pickF rfl (not_t (c15)) rfl) ?_
   refine OpsQ.yes (Want.plain rfl) rfl (OpR.pure rfl) ?_
   refine OpsQ.no (Want.bool rfl rfl rfl rfl (by rw [(not_f (beq_eq_false_iff_ne.2 c16))]; rfl)) rfl ?_
   refine OpsQ.no (Want.bool rfl rfl rfl rfl (by rw [(not_f (beq_eq_false_iff_ne.2 c16))]; rfl)) rfl ?_
   refine OpsQ.yes (Want.plain rfl) rfl (OpR.pickT rfl (not_f (beq_eq_false_iff_ne.2 c16)) rfl) ?_
   refine OpsQ.yes (Want.plain rfl) rfl (OpR.pure rfl) ?_
   refine OpsQ.no (Want.bool rfl rfl rfl rfl rfl) rfl ?_
   refine OpsQ.no (Want.bool rfl rfl rfl rfl rfl) rfl ?_
   refine OpsQ.no (Want.bool rfl rfl rfl rfl rfl) rfl ?_
   refine OpsQ.yes (Want.plain rfl) rfl (OpR.pickT rfl rfl rfl) ?_
   refine OpsQ.yes (Want.plain rfl) rfl (OpR.pure rfl) ?_
   refine OpsQ.no (Want.bool rfl rfl rfl rfl rfl) rfl ?_
   refine OpsQ.no (Want.bool rfl rfl rfl rfl rfl) rfl ?_
   refine OpsQ.no (Want.bool rfl rfl rfl rfl rfl) rfl ?_
   refine OpsQ.no (Want.bool rfl rfl rfl rfl rfl) rfl ?_
   refine OpsQ.no (Want.bool rfl rfl rfl rfl rfl) rfl ?_
   refine OpsQ.no (Want.bool rfl rfl rfl rfl rfl) rfl ?_
   refine OpsQ.no (Want.bool rfl rfl rfl rfl rfl) rfl ?_
   refine OpsQ.no (Want.bool rfl rfl rfl rfl rfl) rfl ?_
   refine OpsQ.yes (Want.plain rfl) rfl (OpR.pickT rfl rfl rfl) ?_
   exact OpsQ.nil
 rcases ite_some ht12 with ⟨c17, ht12⟩ | ⟨c17, ht12⟩
 rotate_left
 · refine T.drawQ drawsX [.val (.bool x8.2.1), .val (.bool (!x8.2.1)), .val (.bool (!x8.2.1)), .val (.bool x10.2.1), .val (.bool (!x10.2.1)), .val (.bool (!x10.2.1)), .val (.bool (!x10.2.1)), .val (.int .i64 x8.2.2), .val (.bool (!(x8.2.2 == 0))), .val (.bool (!(x8.2.2 == 0))), .val (.bool (!(x8.2.2 == 0))), .val (.int .i64 x10.2.2), .val (.bool (!(x10.2.2 == 0))), .val (.bool (!(x10.2.2 == 0))), .val (.bool (!(x10.2.2 == 0))), .tup [], .tup [], .tup [], .val (.bool true), .val (.bool true), .tup [], .tup [], .tup [], .tup [], .tup [], .tup [], .tup [], .tup [], .val (.bool true)] [0, 1, 2, 6, 7, 8, 9, 10, 11, 12, 13, 26, 27, 28, 29, 30, 31, 32, 33, 34, 35, 36, 37, 38, 39, 40, 41, 42, 43, 44, 45, 46, 47, 48, 49, 50, 51, 52, 53, 54, 55, 56, 57, 58, 59, 60, 61, 62, 63, 64, 65, 66, 67, 68, 69, 70, 71, 72, 73, 74, 75, 76] (by decide +kernel) rfl ?_ rfl ?_
   rotate_left
   · obtain rfl := Option.some.inj ht12
     exact ⟨_, Gst.trans (Gst.only [2, 6, 7, 76] rfl) (Gst.pick [0] rfl rfl), rfl⟩
   refine OpsQ.yes (Want.plain rfl) rfl (OpR.pure rfl) ?_
   refine OpsQ.yes (Want.plain rfl) rfl (OpR.pure rfl) ?_
   refine OpsQ.yes (Want.plain rfl) rfl (OpR.pure rfl) ?_
   refine OpsQ.yes (Want.bool rfl rfl rfl rfl (by rw [(not_t (c14))]; rfl)) rfl (OpR.pure rfl) ?_
   refine OpsQ.yes (Want.bool rfl rfl rfl rfl (by rw [(not_t (c14))]; rfl)) rfl (OpR.pure rfl) ?_
   refine OpsQ.yes (Want.plain rfl) rfl (OpR.pickF rfl (not_t (c14)) rfl) ?_
   refine OpsQ.yes (Want.plain rfl) rfl (OpR.pure rfl) ?_
   refine OpsQ.yes (Want.bool rfl rfl rfl rfl (by rw [(not_t (c15))]; rfl)) rfl (OpR.pure rfl) ?_
   refine OpsQ.yes (Want.bool rfl rfl rfl rfl (by rw [(not_t (c15))]; rfl)) rfl (OpR.pure rfl) ?_
   refine OpsQ.yes (Want.plain rfl) rfl (OpR.pickF rfl (not_t (c15)) rfl) ?_
   refine OpsQ.yes (Want.plain rfl) rfl (OpR.pure rfl) ?_
   refine OpsQ.yes (Want.bool rfl rfl rfl rfl (by rw [(not_t (beq_iff_eq.2 c16))]; rfl)) rfl (OpR.pure rfl) ?_
   refine OpsQ.yes (Want.bool rfl rfl rfl rfl (by rw [(not_t (beq_iff_eq.2 c16))]; rfl)) rfl (OpR.pure rfl) ?_
   refine OpsQ.yes (Want.plain rfl) rfl (OpR.pickF rfl (not_t (beq_iff_eq.2 c16)) rfl) ?_
   refine OpsQ.yes (Want.plain rfl) rfl (OpR.pure rfl) ?_
   refine OpsQ.no (Want.bool rfl rfl rfl rfl (by rw [(not_f (beq_eq_false_iff_ne.2 c17))]; rfl)) rfl ?_
   refine OpsQ.no (Want.bool rfl rfl rfl rfl (by rw [(not_f (beq_eq_false_iff_ne.2 c17))]; rfl)) rfl ?_
   refine OpsQ.no (Want.bool rfl rfl rfl rfl (by rw [(not_f (beq_eq_false_iff_ne.2 c17))]; rfl)) rfl ?_
   refine OpsQ.yes (Want.plain rfl) rfl (OpR.pickT rfl (not_f (beq_eq_false_iff_ne.2 c17)) rfl) ?_
   refine OpsQ.yes (Want.plain rfl) rfl (OpR.pure rfl) ?_
   refine OpsQ.no (Want.bool rfl rfl rfl rfl rfl) rfl ?_
   refine OpsQ.no (Want.bool rfl rfl rfl rfl rfl) rfl ?_
   refine OpsQ.no (Want.bool rfl rfl rfl rfl rfl) rfl ?_
   refine OpsQ.no (Want.bool rfl rfl rfl rfl rfl) rfl ?_
   refine OpsQ.no (Want.bool rfl rfl rfl rfl rfl) rfl ?_
   refine OpsQ.no (Want.bool rfl rfl rfl rfl rfl) rfl ?_
   refine OpsQ.no (Want.bool rfl rfl rfl rfl rfl) rfl ?_
   refine OpsQ.no (Want.bool rfl rfl rfl rfl rfl) rfl ?_
   refine OpsQ.yes (Want.plain rfl) rfl (OpR.pickT rfl rfl rfl) ?_
   exact OpsQ.nil
 rcases ite_some ht12 with ⟨c18, ht12⟩ | ⟨c18, ht12⟩
 rotate_left
 · refine T.drawQ drawsX [.val (.bool x8.2.1), .val (.bool (!x8.2.1)), .val (.bool (!x8.2.1)), .val (.bool x10.2.1), .val (.bool (!x10.2.1)), .val (.bool (!x10.2.1)), .val (.bool (!x10.2.1)), .val (.int .i64 x8.2.2), .val (.bool (!(x8.2.2 == 0))), .val (.bool (!(x8.2.2 == 0))), .val (.bool (!(x8.2.2 == 0))), .val (.int .i64 x10.2.2), .val (.bool (!(x10.2.2 == 0))), .val (.bool (!(x10.2.2 == 0))), .val (.bool (!(x10.2.2 == 0))), .agg [.val (.string (bs x10.1.fS)), .val (.int .i64 x10.1.fAt)], .agg [.val (.string (bs x1)), .val (.int .i64 x2)], .val (.bool (!(x10.1 == (⟨x1, x2⟩ : line_Prompt)))), .val (.bool (!(x10.1 == (⟨x1, x2⟩ : line_Prompt)))), .val (.bool (!(x10.1 == (⟨x1, x2⟩ : line_Prompt)))), .tup [], .tup [], .tup [], .tup [], .tup [], .tup [], .tup [], .tup [], .val (.bool true)] [0, 1, 2, 6, 7, 8, 9, 10, 11, 12, 13, 26, 27, 28, 29, 30, 31, 32, 33, 34, 35, 36, 37, 38, 39, 40, 41, 42, 43, 44, 45, 46, 47, 48, 49, 50, 51, 52, 53, 54, 55, 56, 57, 58, 59, 60, 61, 62, 63, 64, 65, 66, 67, 68, 69, 70, 71, 72, 73, 74, 75, 76] (by decide +kernel) rfl ?_ rfl ?_
   rotate_left
   · obtain rfl := Option.some.inj ht12
     exact ⟨_, Gst.trans (Gst.only [2, 6, 7, 76] rfl) (Gst.pick [0] rfl rfl), rfl⟩
   refine OpsQ.yes (Want.plain rfl) rfl (OpR.pure rfl) ?_
   refine OpsQ.yes (Want.plain rfl) rfl (OpR.pure rfl) ?_
   refine OpsQ.yes (Want.plain rfl) rfl (OpR.pure rfl) ?_
   refine OpsQ.yes (Want.bool rfl rfl rfl rfl (by rw [(not_t (c14))]; rfl)) rfl (OpR.pure rfl) ?_
   refine OpsQ.yes (Want.bool rfl rfl rfl rfl (by rw [(not_t (c14))]; rfl)) rfl (OpR.pure rfl) ?_
   refine OpsQ.yes (Want.plain rfl) rfl (OpR.pickF rfl (not_t (c14)) rfl) ?_
   refine OpsQ.yes (Want.plain rfl) rfl (OpR.pure rfl) ?_
   refine OpsQ.yes (Want.bool rfl rfl rfl rfl (by rw [(not_t (c15))]; rfl)) rfl (OpR.pure rfl) ?_
   refine OpsQ.yes (Want.bool rfl rfl rfl rfl (by rw [(not_t (c15))]; rfl)) rfl (OpR.pure rfl) ?_
   refine OpsQ.yes (Want.plain rfl) rfl (OpR.pickF rfl (not_t (c15)) rfl) ?_
   refine OpsQ.yes (Want.plain rfl) rfl (OpR.pure rfl) ?_
   refine OpsQ.yes (Want.bool rfl rfl rfl rfl (by rw [(not_t (beq_iff_eq.2 c16))]; rfl)) rfl (OpR.pure rfl) ?_
   refine OpsQ.yes (Want.bool rfl rfl rfl rfl (by rw [(not_t (beq_iff_eq.2 c16))]; rfl)) rfl (OpR.pure rfl) ?_
   refine OpsQ.yes (Want.plain rfl) rfl (OpR.pickF rfl (not_t (beq_iff_eq.2 c16)) rfl) ?_
   refine OpsQ.yes (Want.plain rfl) rfl (OpR.pure rfl) ?_
   refine OpsQ.yes (Want.bool rfl rfl rfl rfl (by rw [(not_t (beq_iff_eq.2 c17))]; rfl)) rfl (OpR.loadPtr 2 rfl rfl rfl rfl) ?_
   refine OpsQ.yes (Want.bool rfl rfl rfl rfl (by rw [(not_t (beq_iff_eq.2 c17))]; rfl)) rfl (OpR.loadPtr 0 rfl rfl rfl rfl) ?_
   refine OpsQ.yes (Want.bool rfl rfl rfl rfl (by rw [(not_t (beq_iff_eq.2 c17))]; rfl)) rfl (OpR.cast (OpR.neStruct rfl rfl rfl rfl rfl (by kernel_rfl) (by kernel_rfl)) (boolE (congrArg (fun b => !b) (beq_line_Prompt x10.1 (⟨x1, x2⟩ : line_Prompt))))) ?_
   refine OpsQ.yes (Want.plain rfl) rfl (OpR.pickF rfl (not_t (beq_iff_eq.2 c17)) rfl) ?_
   refine OpsQ.yes (Want.plain rfl) rfl (OpR.pure rfl) ?_
   refine OpsQ.no (Want.bool rfl rfl rfl rfl (by rw [(not_f (beq_eq_false_iff_ne.2 c18))]; rfl)) rfl ?_
   refine OpsQ.no (Want.bool rfl rfl rfl rfl (by rw [(not_f (beq_eq_false_iff_ne.2 c18))]; rfl)) rfl ?_
   refine OpsQ.no (Want.bool rfl rfl rfl rfl (by rw [(not_f (beq_eq_false_iff_ne.2 c18))]; rfl)) rfl ?_
   refine OpsQ.no (Want.bool rfl rfl rfl rfl (by rw [(not_f (beq_eq_false_iff_ne.2 c18))]; rfl)) rfl ?_
   refine OpsQ.no (Want.bool rfl rfl rfl rfl (by rw [(not_f (beq_eq_false_iff_ne.2 c18))]; rfl)) rfl ?_
   refine OpsQ.no (Want.bool rfl rfl rfl rfl (by rw [(not_f (beq_eq_false_iff_ne.2 c18))]; rfl)) rfl ?_
   refine OpsQ.no (Want.bool rfl rfl rfl rfl (by rw [(not_f (beq_eq_false_iff_ne.2 c18))]; rfl)) rfl ?_
   refine OpsQ.no (Want.bool rfl rfl rfl rfl (by rw [(not_f (beq_eq_false_iff_ne.2 c18))]; rfl)) rfl ?_
   refine OpsQ.yes (Want.plain rfl) rfl (OpR.pickT rfl (not_f (beq_eq_false_iff_ne.2 c18)) rfl) ?_
   exact OpsQ.nil
 obtain ⟨x19, hx19, ht12⟩ := bnd_some ht12
 refine T.drawQ drawsX [.val (.bool x8.2.1), .val (.bool (!x8.2.1)), .val (.bool (!x8.2.1)), .val (.bool x10.2.1), .val (.bool (!x10.2.1)), .val (.bool (!x10.2.1)), .val (.bool (!x10.2.1)), .val (.int .i64 x8.2.2), .val (.bool (!(x8.2.2 == 0))), .val (.bool (!(x8.2.2 == 0))), .val (.bool (!(x8.2.2 == 0))), .val (.int .i64 x10.2.2), .val (.bool (!(x10.2.2 == 0))), .val (.bool (!(x10.2.2 == 0))), .val (.bool (!(x10.2.2 == 0))), .agg [.val (.string (bs x10.1.fS)), .val (.int .i64 x10.1.fAt)], .agg [.val (.string (bs x1)), .val (.int .i64 x2)], .val (.bool (!(x10.1 == (⟨x1, x2⟩ : line_Prompt)))), .val (.bool (!(x10.1 == (⟨x1, x2⟩ : line_Prompt)))), .val (.bool (!(x10.1 == (⟨x1, x2⟩ : line_Prompt)))), .val (.pointer (some ⟨(blk p9), 0, none⟩)), .val (.string (bs x8.1.fS)), .val (.pointer (some ⟨(blk p9), 1, none⟩)), .val (.int .i64 x8.1.fAt), .val (.int .i64 x19), .val (.pointer (some ⟨(blk p9), 1, none⟩)), .val (.int .i64 x8.1.fAt), .val (.bool (!(x19 == x8.1.fAt))), .val (.bool (!(x19 == x8.1.fAt)))] [0, 1, 2, 6, 7, 8, 9, 10, 11, 12, 13, 26, 27, 28, 29, 30, 31, 32, 33, 34, 35, 36, 37, 38, 39, 40, 41, 42, 43, 44, 45, 46, 47, 48, 49, 50, 51, 52, 53, 54, 55, 56, 57, 58, 59, 60, 61, 62, 63, 64, 65, 66, 67, 68, 69, 70, 71, 72, 73, 74, 75, 76] (by decide +kernel) rfl ?_ rfl ?_
 rotate_left
 · obtain rfl := Option.some.inj ht12
   exact ⟨_, Gst.trans (Gst.only [2, 6, 7, 76] rfl) (Gst.pick [0] rfl rfl), rfl⟩
 refine OpsQ.yes (Want.plain rfl) rfl (OpR.pure rfl) ?_
 refine OpsQ.yes (Want.plain rfl) rfl (OpR.pure rfl) ?_
 refine OpsQ.yes (Want.plain rfl) rfl (OpR.pure rfl) ?_
 refine OpsQ.yes (Want.bool rfl rfl rfl rfl (by rw [(not_t (c14))]; rfl)) rfl (OpR.pure rfl) ?_
 refine OpsQ.yes (Want.bool rfl rfl rfl rfl (by rw [(not_t (c14))]; rfl)) rfl (OpR.pure rfl) ?_
 refine OpsQ.yes (Want.plain rfl) rfl (OpR.pickF rfl (not_t (c14)) rfl) ?_
 refine OpsQ.yes (Want.plain rfl) rfl (OpR.pure rfl) ?_
 refine OpsQ.yes (Want.bool rfl rfl rfl rfl (by rw [(not_t (c15))]; rfl)) rfl (OpR.pure rfl) ?_
 refine OpsQ.yes (Want.bool rfl rfl rfl rfl (by rw [(not_t (c15))]; rfl)) rfl (OpR.pure rfl) ?_
 refine OpsQ.yes (Want.plain rfl) rfl (OpR.pickF rfl (not_t (c15)) rfl) ?_
 refine OpsQ.yes (Want.plain rfl) rfl (OpR.pure rfl) ?_
 refine OpsQ.yes (Want.bool rfl rfl rfl rfl (by rw [(not_t (beq_iff_eq.2 c16))]; rfl)) rfl (OpR.pure rfl) ?_
 refine OpsQ.yes (Want.bool rfl rfl rfl rfl (by rw [(not_t (beq_iff_eq.2 c16))]; rfl)) rfl (OpR.pure rfl) ?_
 refine OpsQ.yes (Want.plain rfl) rfl (OpR.pickF rfl (not_t (beq_iff_eq.2 c16)) rfl) ?_
 refine OpsQ.yes (Want.plain rfl) rfl (OpR.pure rfl) ?_
 refine OpsQ.yes (Want.bool rfl rfl rfl rfl (by rw [(not_t (beq_iff_eq.2 c17))]; rfl)) rfl (OpR.loadPtr 2 rfl rfl rfl rfl) ?_
 refine OpsQ.yes (Want.bool rfl rfl rfl rfl (by rw [(not_t (beq_iff_eq.2 c17))]; rfl)) rfl (OpR.loadPtr 0 rfl rfl rfl rfl) ?_
 refine OpsQ.yes (Want.bool rfl rfl rfl rfl (by rw [(not_t (beq_iff_eq.2 c17))]; rfl)) rfl (OpR.cast (OpR.neStruct rfl rfl rfl rfl rfl (by kernel_rfl) (by kernel_rfl)) (boolE (congrArg (fun b => !b) (beq_line_Prompt x10.1 (⟨x1, x2⟩ : line_Prompt))))) ?_
 refine OpsQ.yes (Want.plain rfl) rfl (OpR.pickF rfl (not_t (beq_iff_eq.2 c17)) rfl) ?_
 refine OpsQ.yes (Want.plain rfl) rfl (OpR.pure rfl) ?_
 refine OpsQ.yes (Want.bool rfl rfl rfl rfl (by rw [(not_t (beq_iff_eq.2 c18))]; rfl)) rfl (OpR.pure rfl) ?_
 refine OpsQ.yes (Want.bool rfl rfl rfl rfl (by rw [(not_t (beq_iff_eq.2 c18))]; rfl)) rfl (OpR.loadPtr 1 rfl rfl rfl rfl) ?_
 refine OpsQ.yes (Want.bool rfl rfl rfl rfl (by rw [(not_t (beq_iff_eq.2 c18))]; rfl)) rfl (OpR.pure rfl) ?_
 refine OpsQ.yes (Want.bool rfl rfl rfl rfl (by rw [(not_t (beq_iff_eq.2 c18))]; rfl)) rfl (OpR.loadPtr 1 rfl rfl rfl rfl) ?_
 refine OpsQ.yes (Want.bool rfl rfl rfl rfl (by rw [(not_t (beq_iff_eq.2 c18))]; rfl)) rfl (OpR.call0 fn10 (ref30_Bound_c hx19) rfl) ?_
 refine OpsQ.yes (Want.bool rfl rfl rfl rfl (by rw [(not_t (beq_iff_eq.2 c18))]; rfl)) rfl (OpR.pure rfl) ?_
 refine OpsQ.yes (Want.bool rfl rfl rfl rfl (by rw [(not_t (beq_iff_eq.2 c18))]; rfl)) rfl (OpR.loadPtr 1 rfl rfl rfl rfl) ?_
 refine OpsQ.yes (Want.bool rfl rfl rfl rfl (by rw [(not_t (beq_iff_eq.2 c18))]; rfl)) rfl (OpR.pure rfl) ?_
 refine OpsQ.yes (Want.plain rfl) rfl (OpR.pickF rfl (not_t (beq_iff_eq.2 c18)) rfl) ?_
 exact OpsQ.nil
end Go.Proofs.Ytlginjmkmfodmaa.S
