/- Printed by a program of this session's own (gen.py): Lean functions for Go functions, and the proofs that the Go code comes to their answers. -/
import Derived.Test.YtlginjmkmfodmaaG0
set_option linter.unusedVariables false
set_option linter.unusedSimpArgs false
namespace Go.Proofs.Ytlginjmkmfodmaa.S
open Go Go.Sm
attribute [local irreducible] T TL OpR CallT iter loop
noncomputable def law30_cut (a0 : List UInt8) (a1 : Int) : Option (List UInt8) :=
  if (a0.length : Int) > a1 then
    bnd (cut a0 0 a1) fun x2 =>
    some x2
  else
    some a0
set_option maxHeartbeats 4000000 in
theorem law30_cut_c {a0 : List UInt8} {a1 : Int} {res : (List UInt8)} (h0 : law30_cut a0 a1 = some res) : CallF X 9 [.val (.string (bs a0)), .val (.int .i64 a1)] [] (fun x => .val (.string (bs res))) (fun x => []) := by
 unfold law30_cut at h0
 refine CallF.mkG (X := X) Try.func9 rfl rfl Try.ntmps9 rfl rfl ?_
 refine T.seq ?_
 refine T.region ?_
 refine TL.op1 (OpR.pure rfl) rfl ?_
 refine TL.nil ?_
 show T X _ _ _
 refine T.seq ?_
 refine T.seq ?_
 refine T.region ?_
 refine TL.op1 (OpR.pure rfl) rfl ?_
 refine TL.op1 (OpR.cast (OpR.pure rfl) (intE (lenS _))) rfl ?_
 refine TL.op1 (OpR.pure rfl) rfl ?_
 refine TL.op1 (OpR.pure rfl) rfl ?_
 refine TL.nil ?_
 show T X _ _ _
 rcases ite_some h0 with ⟨c1, h0⟩ | ⟨c1, h0⟩
 rotate_left
 · refine T.condF rfl (decide_eq_false c1) ?_
   refine T.skip ?_
   show T X _ _ _
   refine T.seq ?_
   refine T.region ?_
   refine TL.op1 (OpR.pure rfl) rfl ?_
   refine TL.op1 (OpR.pure rfl) rfl ?_
   refine TL.nil ?_
   show T X _ _ _
   refine T.ret ?_
   obtain rfl := Option.some.inj h0
   exact PostG.retP (ks := []) (Gst.only [4] rfl) undef (ResL.cons (ResV.tmp rfl) ResL.nil) rfl rfl rfl rfl
 refine T.condT rfl (decide_eq_true c1) ?_
 refine T.seq ?_
 refine T.region ?_
 refine TL.op1 (OpR.pure rfl) rfl ?_
 refine TL.op1 (OpR.pure rfl) rfl ?_
 obtain ⟨x2, hx2, h0⟩ := bnd_some h0
 refine TL.op1 (OpR.sliceS hx2 rfl rfl rfl BdM.none (BdM.some rfl)) rfl ?_
 refine TL.op1 (OpR.pure rfl) rfl ?_
 refine TL.nil ?_
 show T X _ _ _
 refine T.ret ?_
 obtain rfl := Option.some.inj h0
 exact PostG.retP (ks := []) (Gst.only [4] rfl) undef (ResL.cons (ResV.tmp rfl) ResL.nil) rfl rfl rfl rfl
noncomputable def ref01_more (a0 : List UInt8) (a1 : Int) : Option Bool :=
  bnd (if a1 < (a0.length : Int) then
    bnd (idx a0 a1) fun x3 =>
    if (x3.toNat : Int) ≥ 128 then
      some (decide ((x3.toNat : Int) ≤ 191))
    else
      some false
  else
    some false : Option Bool) fun t1 =>
  some t1
set_option maxHeartbeats 4000000 in
theorem ref01_more_c {a0 : List UInt8} {a1 : Int} {res : Bool} (h0 : ref01_more a0 a1 = some res) : CallF X 63 [.val (.string (bs a0)), .val (.int .i64 a1)] [] (fun x => .val (.bool res)) (fun x => []) := by
 unfold ref01_more at h0
 refine CallF.mkG (X := X) Try.func63 rfl rfl Try.ntmps63 rfl rfl ?_
 refine T.seq ?_
 refine T.region ?_
 refine TL.op1 (OpR.pure rfl) rfl ?_
 refine TL.nil ?_
 show T X _ _ _
 refine T.seq ?_
 obtain ⟨t1, ht1, h0⟩ := bnd_some h0
 refine T.cutC (fun S' => S' = ⟨[(4, .val (.bool t1))], [], 21⟩) (fun _ h => h) ?_ ?_
 rotate_left
 · rintro _ rfl
   show T X _ _ _
   refine T.ret ?_
   obtain rfl := Option.some.inj h0
   exact PostG.retP (ks := []) (Gst.only [4] rfl) undef (ResL.cons (ResV.tmp rfl) ResL.nil) rfl rfl rfl rfl
 refine T.region ?_
 refine TL.op1 (OpR.pure rfl) rfl ?_
 refine TL.op1 (OpR.pure rfl) rfl ?_
 refine TL.op1 (OpR.cast (OpR.pure rfl) (intE (lenS _))) rfl ?_
 refine TL.op1 (OpR.pure rfl) rfl ?_
 refine TL.op1 (OpR.pure rfl) rfl ?_
 rcases ite_some ht1 with ⟨c2, ht1⟩ | ⟨c2, ht1⟩
 rotate_left
 · refine TL.off rfl rfl rfl rfl (decide_eq_false c2) rfl rfl ?_
   refine TL.off rfl rfl rfl rfl (decide_eq_false c2) rfl rfl ?_
   refine TL.off rfl rfl rfl rfl (decide_eq_false c2) rfl rfl ?_
   refine TL.off rfl rfl rfl rfl (decide_eq_false c2) rfl rfl ?_
   refine TL.op1 (OpR.pickF rfl (decide_eq_false c2) rfl) rfl ?_
   refine TL.op1 (OpR.pure rfl) rfl ?_
   refine TL.off rfl rfl rfl rfl rfl rfl rfl ?_
   refine TL.off rfl rfl rfl rfl rfl rfl rfl ?_
   refine TL.off rfl rfl rfl rfl rfl rfl rfl ?_
   refine TL.off rfl rfl rfl rfl rfl rfl rfl ?_
   refine TL.op1 (OpR.pickF rfl rfl rfl) rfl ?_
   refine TL.op1 (OpR.pure rfl) rfl ?_
   refine TL.nil ?_
   obtain rfl := Option.some.inj ht1
   exact ⟨_, Gst.only [4] rfl, rfl⟩
 refine TL.on rfl rfl rfl rfl (decide_eq_true c2) ?_
 refine TL.op1 (OpR.pure rfl) rfl ?_
 refine TL.on rfl rfl rfl rfl (decide_eq_true c2) ?_
 refine TL.op1 (OpR.pure rfl) rfl ?_
 refine TL.on rfl rfl rfl rfl (decide_eq_true c2) ?_
 obtain ⟨x3, hx3, ht1⟩ := bnd_some ht1
 refine TL.op1 (OpR.indexS hx3 rfl rfl rfl rfl) rfl ?_
 refine TL.on rfl rfl rfl rfl (decide_eq_true c2) ?_
 refine TL.op1 (OpR.pure rfl) rfl ?_
 refine TL.op1 (OpR.pickT rfl (decide_eq_true c2) rfl) rfl ?_
 refine TL.op1 (OpR.pure rfl) rfl ?_
 rcases ite_some ht1 with ⟨c4, ht1⟩ | ⟨c4, ht1⟩
 rotate_left
 · refine TL.off rfl rfl rfl rfl (decide_eq_false c4) rfl rfl ?_
   refine TL.off rfl rfl rfl rfl (decide_eq_false c4) rfl rfl ?_
   refine TL.off rfl rfl rfl rfl (decide_eq_false c4) rfl rfl ?_
   refine TL.off rfl rfl rfl rfl (decide_eq_false c4) rfl rfl ?_
   refine TL.op1 (OpR.pickF rfl (decide_eq_false c4) rfl) rfl ?_
   refine TL.op1 (OpR.pure rfl) rfl ?_
   refine TL.nil ?_
   obtain rfl := Option.some.inj ht1
   exact ⟨_, Gst.only [4] rfl, rfl⟩
 refine TL.on rfl rfl rfl rfl (decide_eq_true c4) ?_
 refine TL.op1 (OpR.pure rfl) rfl ?_
 refine TL.on rfl rfl rfl rfl (decide_eq_true c4) ?_
 refine TL.op1 (OpR.pure rfl) rfl ?_
 refine TL.on rfl rfl rfl rfl (decide_eq_true c4) ?_
 refine TL.op1 (OpR.indexS hx3 rfl rfl rfl rfl) rfl ?_
 refine TL.on rfl rfl rfl rfl (decide_eq_true c4) ?_
 refine TL.op1 (OpR.pure rfl) rfl ?_
 refine TL.op1 (OpR.pickT rfl (decide_eq_true c4) rfl) rfl ?_
 refine TL.op1 (OpR.pure rfl) rfl ?_
 refine TL.nil ?_
 obtain rfl := Option.some.inj ht1
 exact ⟨_, Gst.only [4] rfl, rfl⟩
noncomputable def ref01_At (a0 : List UInt8) (a1 : Int) : Option (Int × Int) :=
  bnd (if a1 < 0 then
    some true
  else
    some (decide (a1 ≥ (a0.length : Int))) : Option Bool) fun t1 =>
  if t1 = true then
    some ((-1), 0)
  else
    bnd (idx a0 a1) fun x4 =>
    if (x4.toNat : Int) < 128 then
      some ((x4.toNat : Int), 1)
    else
      bnd (if (x4.toNat : Int) ≥ 192 then
        if (x4.toNat : Int) < 224 then
          bnd (ref01_more a0 (w64 (a1 + 1))) fun x9 =>
          some x9
        else
          some false
      else
        some false : Option Bool) fun t6 =>
      bnd (if t6 = true then
        bnd (idx a0 (w64 (a1 + 1))) fun x13 =>
        bnd (some (w64 ((w64 ((w64 ((w64 ((x4.toNat : Int) - 192)) * 64)) + (x13.toNat : Int))) - 128))) fun x14 =>
        if x14 ≥ 128 then
          some (Ex.ret (x14, 2))
        else
          some (Ex.brk ())
      else
        some (Ex.brk ()) : Option (Ex Unit (Int × Int))) fun t10 => match t10 with
        | .brk u11 =>
          bnd (if (x4.toNat : Int) ≥ 224 then
            if (x4.toNat : Int) < 240 then
              bnd (ref01_more a0 (w64 (a1 + 1))) fun x19 =>
              if x19 = true then
                bnd (ref01_more a0 (w64 (a1 + 2))) fun x21 =>
                some x21
              else
                some false
            else
              some false
          else
            some false : Option Bool) fun t16 =>
          bnd (if t16 = true then
            bnd (idx a0 (w64 (a1 + 1))) fun x26 =>
            bnd (some (w64 ((w64 ((w64 ((x4.toNat : Int) - 224)) * 4096)) + (w64 ((w64 ((x26.toNat : Int) - 128)) * 64))))) fun x27 =>
            bnd (idx a0 (w64 (a1 + 2))) fun x28 =>
            bnd (if (w64 ((w64 (x27 + (x28.toNat : Int))) - 128)) ≥ 2048 then
              if (w64 ((w64 (x27 + (x28.toNat : Int))) - 128)) < 55296 then
                some true
              else
                some (decide ((w64 ((w64 (x27 + (x28.toNat : Int))) - 128)) > 57343))
            else
              some false : Option Bool) fun t29 =>
            if t29 = true then
              some (Ex.ret (w64 ((w64 (x27 + (x28.toNat : Int))) - 128), 3))
            else
              some (Ex.brk ())
          else
            some (Ex.brk ()) : Option (Ex Unit (Int × Int))) fun t22 => match t22 with
            | .brk u23 =>
              bnd (if (x4.toNat : Int) ≥ 240 then
                if (x4.toNat : Int) < 248 then
                  bnd (ref01_more a0 (w64 (a1 + 1))) fun x36 =>
                  if x36 = true then
                    bnd (ref01_more a0 (w64 (a1 + 2))) fun x38 =>
                    if x38 = true then
                      bnd (ref01_more a0 (w64 (a1 + 3))) fun x40 =>
                      some x40
                    else
                      some false
                  else
                    some false
                else
                  some false
              else
                some false : Option Bool) fun t33 =>
              bnd (if t33 = true then
                bnd (idx a0 (w64 (a1 + 1))) fun x45 =>
                bnd (some (w64 ((w64 ((w64 ((x4.toNat : Int) - 240)) * 262144)) + (w64 ((w64 ((x45.toNat : Int) - 128)) * 4096))))) fun x46 =>
                bnd (idx a0 (w64 (a1 + 2))) fun x47 =>
                bnd (idx a0 (w64 (a1 + 3))) fun x48 =>
                bnd (some (w64 ((w64 (x46 + (w64 ((w64 ((x47.toNat : Int) - 128)) * 64)))) + (x48.toNat : Int)))) fun x49 =>
                bnd (if (w64 (x49 - 128)) ≥ 65536 then
                  some (decide ((w64 (x49 - 128)) ≤ 1114111))
                else
                  some false : Option Bool) fun t50 =>
                if t50 = true then
                  some (Ex.ret (w64 (x49 - 128), 4))
                else
                  some (Ex.brk ())
              else
                some (Ex.brk ()) : Option (Ex Unit (Int × Int))) fun t41 => match t41 with
                | .brk u42 =>
                  some ((-1), 1)
                | .ret u42 => some u42
            | .ret u23 => some u23
        | .ret u11 => some u11
set_option maxHeartbeats 4000000 in
theorem ref01_At_c {a0 : List UInt8} {a1 : Int} {res : Int × Int} (h0 : ref01_At a0 a1 = some res) : CallF X 44 [.val (.string (bs a0)), .val (.int .i64 a1)] [] (fun x => .tup [.val (.int .i64 res.1), .val (.int .i64 res.2)]) (fun x => []) := by
 unfold ref01_At at h0
 refine CallF.mkG (X := X) Try.func44 rfl rfl Try.ntmps44 rfl rfl ?_
 refine T.seq ?_
 refine T.region ?_
 refine TL.op1 (OpR.pure rfl) rfl ?_
 refine TL.op1 (OpR.pure rfl) rfl ?_
 refine TL.nil ?_
 show T X _ _ _
 refine T.seq ?_
 refine T.seq ?_
 obtain ⟨t1, ht1, h0⟩ := bnd_some h0
 refine T.cutC (fun S' => S' = ⟨[(17, .val (.bool t1)), (5, .val (.int .i64 0)), (4, .val (.int .i64 0)), (1, .val (.int .i64 a1)), (0, .val (.string (bs a0)))], [], 154⟩) (fun _ h => h) ?_ ?_
 · refine T.region ?_
   refine TL.op1 (OpR.pure rfl) rfl ?_
   refine TL.op1 (OpR.pure rfl) rfl ?_
   refine TL.op1 (OpR.pure rfl) rfl ?_
   rcases ite_some ht1 with ⟨c2, ht1⟩ | ⟨c2, ht1⟩
   · refine TL.off rfl rfl rfl rfl (decide_eq_true c2) rfl rfl ?_
     refine TL.off rfl rfl rfl rfl (decide_eq_true c2) rfl rfl ?_
     refine TL.off rfl rfl rfl rfl (decide_eq_true c2) rfl rfl ?_
     refine TL.off rfl rfl rfl rfl (decide_eq_true c2) rfl rfl ?_
     refine TL.op1 (OpR.pickT rfl (decide_eq_true c2) rfl) rfl ?_
     refine TL.nil ?_
     obtain rfl := Option.some.inj ht1
     exact ⟨_, Gst.only [0, 1, 4, 5, 17] rfl, rfl⟩
   refine TL.on rfl rfl rfl rfl (decide_eq_false c2) ?_
   refine TL.op1 (OpR.pure rfl) rfl ?_
   refine TL.on rfl rfl rfl rfl (decide_eq_false c2) ?_
   refine TL.op1 (OpR.pure rfl) rfl ?_
   refine TL.on rfl rfl rfl rfl (decide_eq_false c2) ?_
   refine TL.op1 (OpR.cast (OpR.pure rfl) (intE (lenS _))) rfl ?_
   refine TL.on rfl rfl rfl rfl (decide_eq_false c2) ?_
   refine TL.op1 (OpR.pure rfl) rfl ?_
   refine TL.op1 (OpR.pickF rfl (decide_eq_false c2) rfl) rfl ?_
   refine TL.nil ?_
   obtain rfl := Option.some.inj ht1
   exact ⟨_, Gst.only [0, 1, 4, 5, 17] rfl, rfl⟩
 rintro _ rfl
 show T X _ _ _
 rcases ite_some h0 with ⟨c3, h0⟩ | ⟨c3, h0⟩
 · refine T.condT rfl (c3) ?_
   refine T.seq ?_
   refine T.region ?_
   refine TL.op1 (OpR.pure rfl) rfl ?_
   refine TL.op1 (OpR.pure rfl) rfl ?_
   refine TL.nil ?_
   show T X _ _ _
   refine T.ret ?_
   obtain rfl := Option.some.inj h0
   exact PostG.retP (ks := []) (Gst.only [4, 5] rfl) undef (ResL.cons (ResV.tmp rfl) (ResL.cons (ResV.tmp rfl) ResL.nil)) rfl rfl rfl rfl
 refine T.condF rfl (eq_false_of_ne_true c3) ?_
 refine T.skip ?_
 show T X _ _ _
 refine T.seq ?_
 refine T.region ?_
 refine TL.op1 (OpR.pure rfl) rfl ?_
 refine TL.op1 (OpR.pure rfl) rfl ?_
 obtain ⟨x4, hx4, h0⟩ := bnd_some h0
 refine TL.op1 (OpR.indexS hx4 rfl rfl rfl rfl) rfl ?_
 refine TL.op1 (OpR.cast (OpR.pure rfl) (intE (w64_u8 _))) rfl ?_
 refine TL.op1 (OpR.pure rfl) rfl ?_
 refine TL.nil ?_
 show T X _ _ _
 refine T.seq ?_
 refine T.seq ?_
 refine T.region ?_
 refine TL.op1 (OpR.pure rfl) rfl ?_
 refine TL.op1 (OpR.pure rfl) rfl ?_
 refine TL.nil ?_
 show T X _ _ _
 rcases ite_some h0 with ⟨c5, h0⟩ | ⟨c5, h0⟩
 · refine T.condT rfl (decide_eq_true c5) ?_
   refine T.seq ?_
   refine T.region ?_
   refine TL.op1 (OpR.pure rfl) rfl ?_
   refine TL.op1 (OpR.pure rfl) rfl ?_
   refine TL.op1 (OpR.pure rfl) rfl ?_
   refine TL.nil ?_
   show T X _ _ _
   refine T.ret ?_
   obtain rfl := Option.some.inj h0
   exact PostG.retP (ks := []) (Gst.only [4, 5] rfl) undef (ResL.cons (ResV.tmp rfl) (ResL.cons (ResV.tmp rfl) ResL.nil)) rfl rfl rfl rfl
 refine T.condF rfl (decide_eq_false c5) ?_
 refine T.skip ?_
 show T X _ _ _
 refine T.seq ?_
 refine T.seq ?_
 obtain ⟨t6, ht6, h0⟩ := bnd_some h0
 refine T.cutC (fun S' => S' = ⟨[(36, .val (.bool t6)), (6, .val (.int .i64 (x4.toNat : Int))), (5, .val (.int .i64 0)), (4, .val (.int .i64 0)), (1, .val (.int .i64 a1)), (0, .val (.string (bs a0)))], [], 154⟩) (fun _ h => h) ?_ ?_
 · refine T.region ?_
   refine TL.op1 (OpR.pure rfl) rfl ?_
   refine TL.op1 (OpR.pure rfl) rfl ?_
   refine TL.op1 (OpR.pure rfl) rfl ?_
   rcases ite_some ht6 with ⟨c7, ht6⟩ | ⟨c7, ht6⟩
   rotate_left
   · refine TL.off rfl rfl rfl rfl (decide_eq_false c7) rfl rfl ?_
     refine TL.off rfl rfl rfl rfl (decide_eq_false c7) rfl rfl ?_
     refine TL.op1 (OpR.pickF rfl (decide_eq_false c7) rfl) rfl ?_
     refine TL.op1 (OpR.pure rfl) rfl ?_
     refine TL.off rfl rfl rfl rfl rfl rfl rfl ?_
     refine TL.off rfl rfl rfl rfl rfl rfl rfl ?_
     refine TL.off rfl rfl rfl rfl rfl rfl rfl ?_
     refine TL.off rfl rfl rfl rfl rfl rfl rfl ?_
     refine TL.op1 (OpR.pickF rfl rfl rfl) rfl ?_
     refine TL.nil ?_
     obtain rfl := Option.some.inj ht6
     exact ⟨_, Gst.only [0, 1, 4, 5, 6, 36] rfl, rfl⟩
   refine TL.on rfl rfl rfl rfl (decide_eq_true c7) ?_
   refine TL.op1 (OpR.pure rfl) rfl ?_
   refine TL.on rfl rfl rfl rfl (decide_eq_true c7) ?_
   refine TL.op1 (OpR.pure rfl) rfl ?_
   refine TL.op1 (OpR.pickT rfl (decide_eq_true c7) rfl) rfl ?_
   refine TL.op1 (OpR.pure rfl) rfl ?_
   rcases ite_some ht6 with ⟨c8, ht6⟩ | ⟨c8, ht6⟩
   rotate_left
   · refine TL.off rfl rfl rfl rfl (decide_eq_false c8) rfl rfl ?_
     refine TL.off rfl rfl rfl rfl (decide_eq_false c8) rfl rfl ?_
     refine TL.off rfl rfl rfl rfl (decide_eq_false c8) rfl rfl ?_
     refine TL.off rfl rfl rfl rfl (decide_eq_false c8) rfl rfl ?_
     refine TL.op1 (OpR.pickF rfl (decide_eq_false c8) rfl) rfl ?_
     refine TL.nil ?_
     obtain rfl := Option.some.inj ht6
     exact ⟨_, Gst.only [0, 1, 4, 5, 6, 36] rfl, rfl⟩
   refine TL.on rfl rfl rfl rfl (decide_eq_true c8) ?_
   refine TL.op1 (OpR.pure rfl) rfl ?_
   refine TL.on rfl rfl rfl rfl (decide_eq_true c8) ?_
   refine TL.op1 (OpR.pure rfl) rfl ?_
   refine TL.on rfl rfl rfl rfl (decide_eq_true c8) ?_
   refine TL.op1 (OpR.pure rfl) rfl ?_
   refine TL.on rfl rfl rfl rfl (decide_eq_true c8) ?_
   obtain ⟨x9, hx9, ht6⟩ := bnd_some ht6
   refine TL.op1 (OpR.call0 fn63 (ref01_more_c hx9) rfl) rfl ?_
   refine TL.op1 (OpR.pickT rfl (decide_eq_true c8) rfl) rfl ?_
   refine TL.nil ?_
   obtain rfl := Option.some.inj ht6
   exact ⟨_, Gst.only [0, 1, 4, 5, 6, 36] rfl, rfl⟩
 rintro _ rfl
 show T X _ _ _
 obtain ⟨t10, ht10, h0⟩ := bnd_some h0
 refine T.cutC (fun S' => ∃ u11, t10 = Ex.brk u11 ∧ S' = ⟨[(6, .val (.int .i64 (x4.toNat : Int))), (5, .val (.int .i64 0)), (4, .val (.int .i64 0)), (1, .val (.int .i64 a1)), (0, .val (.string (bs a0)))], [], 154⟩) (fun _ h => h) ?_ ?_
 · rcases ite_some ht10 with ⟨c12, ht10⟩ | ⟨c12, ht10⟩
   rotate_left
   · refine T.condF rfl (eq_false_of_ne_true c12) ?_
     refine T.skip ?_
     obtain rfl := Option.some.inj ht10
     exact ⟨_, Gst.only [0, 1, 4, 5, 6] rfl, _, rfl, rfl⟩
   refine T.condT rfl (c12) ?_
   refine T.seq ?_
   refine T.region ?_
   refine TL.op1 (OpR.pure rfl) rfl ?_
   refine TL.op1 (OpR.pure rfl) rfl ?_
   refine TL.op1 (OpR.pure rfl) rfl ?_
   refine TL.op1 (OpR.pure rfl) rfl ?_
   refine TL.op1 (OpR.pure rfl) rfl ?_
   refine TL.op1 (OpR.pure rfl) rfl ?_
   obtain ⟨x13, hx13, ht10⟩ := bnd_some ht10
   refine TL.op1 (OpR.indexS hx13 rfl rfl rfl rfl) rfl ?_
   refine TL.op1 (OpR.cast (OpR.pure rfl) (intE (w64_u8 _))) rfl ?_
   refine TL.op1 (OpR.pure rfl) rfl ?_
   obtain ⟨x14, hx14, ht10⟩ := bnd_some ht10
   refine TL.op1 (OpR.cast (OpR.pure rfl) (intE (Option.some.inj hx14))) rfl ?_
   refine TL.op1 (OpR.pure rfl) rfl ?_
   refine TL.nil ?_
   show T X _ _ _
   refine T.seq ?_
   refine T.region ?_
   refine TL.op1 (OpR.pure rfl) rfl ?_
   refine TL.op1 (OpR.pure rfl) rfl ?_
   refine TL.nil ?_
   show T X _ _ _
   rcases ite_some ht10 with ⟨c15, ht10⟩ | ⟨c15, ht10⟩
   rotate_left
   · refine T.condF rfl (decide_eq_false c15) ?_
     refine T.skip ?_
     obtain rfl := Option.some.inj ht10
     exact ⟨_, Gst.only [0, 1, 4, 5, 6] rfl, _, rfl, rfl⟩
   refine T.condT rfl (decide_eq_true c15) ?_
   refine T.seq ?_
   refine T.region ?_
   refine TL.op1 (OpR.pure rfl) rfl ?_
   refine TL.op1 (OpR.pure rfl) rfl ?_
   refine TL.op1 (OpR.pure rfl) rfl ?_
   refine TL.nil ?_
   show T X _ _ _
   refine T.ret ?_
   obtain rfl := Option.some.inj ht10
   obtain rfl := Option.some.inj h0
   exact PostG.retP (ks := []) (Gst.only [4, 5] rfl) undef (ResL.cons (ResV.tmp rfl) (ResL.cons (ResV.tmp rfl) ResL.nil)) rfl rfl rfl rfl
 rintro _ ⟨u11, rfl, rfl⟩
 show T X _ _ _
 refine T.seq ?_
 refine T.seq ?_
 obtain ⟨t16, ht16, h0⟩ := bnd_some h0
 refine T.cutC (fun S' => S' = ⟨[(67, .val (.bool t16)), (6, .val (.int .i64 (x4.toNat : Int))), (5, .val (.int .i64 0)), (4, .val (.int .i64 0)), (1, .val (.int .i64 a1)), (0, .val (.string (bs a0)))], [], 154⟩) (fun _ h => h) ?_ ?_
 · refine T.region ?_
   refine TL.op1 (OpR.pure rfl) rfl ?_
   refine TL.op1 (OpR.pure rfl) rfl ?_
   refine TL.op1 (OpR.pure rfl) rfl ?_
   rcases ite_some ht16 with ⟨c17, ht16⟩ | ⟨c17, ht16⟩
   rotate_left
   · refine TL.off rfl rfl rfl rfl (decide_eq_false c17) rfl rfl ?_
     refine TL.off rfl rfl rfl rfl (decide_eq_false c17) rfl rfl ?_
     refine TL.op1 (OpR.pickF rfl (decide_eq_false c17) rfl) rfl ?_
     refine TL.op1 (OpR.pure rfl) rfl ?_
     refine TL.off rfl rfl rfl rfl rfl rfl rfl ?_
     refine TL.off rfl rfl rfl rfl rfl rfl rfl ?_
     refine TL.off rfl rfl rfl rfl rfl rfl rfl ?_
     refine TL.off rfl rfl rfl rfl rfl rfl rfl ?_
     refine TL.op1 (OpR.pickF rfl rfl rfl) rfl ?_
     refine TL.op1 (OpR.pure rfl) rfl ?_
     refine TL.off rfl rfl rfl rfl rfl rfl rfl ?_
     refine TL.off rfl rfl rfl rfl rfl rfl rfl ?_
     refine TL.off rfl rfl rfl rfl rfl rfl rfl ?_
     refine TL.off rfl rfl rfl rfl rfl rfl rfl ?_
     refine TL.op1 (OpR.pickF rfl rfl rfl) rfl ?_
     refine TL.nil ?_
     obtain rfl := Option.some.inj ht16
     exact ⟨_, Gst.only [0, 1, 4, 5, 6, 67] rfl, rfl⟩
   refine TL.on rfl rfl rfl rfl (decide_eq_true c17) ?_
   refine TL.op1 (OpR.pure rfl) rfl ?_
   refine TL.on rfl rfl rfl rfl (decide_eq_true c17) ?_
   refine TL.op1 (OpR.pure rfl) rfl ?_
   refine TL.op1 (OpR.pickT rfl (decide_eq_true c17) rfl) rfl ?_
   refine TL.op1 (OpR.pure rfl) rfl ?_
   rcases ite_some ht16 with ⟨c18, ht16⟩ | ⟨c18, ht16⟩
   rotate_left
   · refine TL.off rfl rfl rfl rfl (decide_eq_false c18) rfl rfl ?_
     refine TL.off rfl rfl rfl rfl (decide_eq_false c18) rfl rfl ?_
     refine TL.off rfl rfl rfl rfl (decide_eq_false c18) rfl rfl ?_
     refine TL.off rfl rfl rfl rfl (decide_eq_false c18) rfl rfl ?_
     refine TL.op1 (OpR.pickF rfl (decide_eq_false c18) rfl) rfl ?_
     refine TL.op1 (OpR.pure rfl) rfl ?_
     refine TL.off rfl rfl rfl rfl rfl rfl rfl ?_
     refine TL.off rfl rfl rfl rfl rfl rfl rfl ?_
     refine TL.off rfl rfl rfl rfl rfl rfl rfl ?_
     refine TL.off rfl rfl rfl rfl rfl rfl rfl ?_
     refine TL.op1 (OpR.pickF rfl rfl rfl) rfl ?_
     refine TL.nil ?_
     obtain rfl := Option.some.inj ht16
     exact ⟨_, Gst.only [0, 1, 4, 5, 6, 67] rfl, rfl⟩
   refine TL.on rfl rfl rfl rfl (decide_eq_true c18) ?_
   refine TL.op1 (OpR.pure rfl) rfl ?_
   refine TL.on rfl rfl rfl rfl (decide_eq_true c18) ?_
   refine TL.op1 (OpR.pure rfl) rfl ?_
   refine TL.on rfl rfl rfl rfl (decide_eq_true c18) ?_
   refine TL.op1 (OpR.pure rfl) rfl ?_
   refine TL.on rfl rfl rfl rfl (decide_eq_true c18) ?_
   obtain ⟨x19, hx19, ht16⟩ := bnd_some ht16
   refine TL.op1 (OpR.call0 fn63 (ref01_more_c hx19) rfl) rfl ?_
   refine TL.op1 (OpR.pickT rfl (decide_eq_true c18) rfl) rfl ?_
   refine TL.op1 (OpR.pure rfl) rfl ?_
   rcases ite_some ht16 with ⟨c20, ht16⟩ | ⟨c20, ht16⟩
   rotate_left
   · refine TL.off rfl rfl rfl rfl (eq_false_of_ne_true c20) rfl rfl ?_
     refine TL.off rfl rfl rfl rfl (eq_false_of_ne_true c20) rfl rfl ?_
     refine TL.off rfl rfl rfl rfl (eq_false_of_ne_true c20) rfl rfl ?_
     refine TL.off rfl rfl rfl rfl (eq_false_of_ne_true c20) rfl rfl ?_
     refine TL.op1 (OpR.pickF rfl (eq_false_of_ne_true c20) rfl) rfl ?_
     refine TL.nil ?_
     obtain rfl := Option.some.inj ht16
     exact ⟨_, Gst.only [0, 1, 4, 5, 6, 67] rfl, rfl⟩
   refine TL.on rfl rfl rfl rfl (c20) ?_
   refine TL.op1 (OpR.pure rfl) rfl ?_
   refine TL.on rfl rfl rfl rfl (c20) ?_
   refine TL.op1 (OpR.pure rfl) rfl ?_
   refine TL.on rfl rfl rfl rfl (c20) ?_
   refine TL.op1 (OpR.pure rfl) rfl ?_
   refine TL.on rfl rfl rfl rfl (c20) ?_
   obtain ⟨x21, hx21, ht16⟩ := bnd_some ht16
   refine TL.op1 (OpR.call0 fn63 (ref01_more_c hx21) rfl) rfl ?_
   refine TL.op1 (OpR.pickT rfl (c20) rfl) rfl ?_
   refine TL.nil ?_
   obtain rfl := Option.some.inj ht16
   exact ⟨_, Gst.only [0, 1, 4, 5, 6, 67] rfl, rfl⟩
 rintro _ rfl
 show T X _ _ _
 obtain ⟨t22, ht22, h0⟩ := bnd_some h0
 refine T.cutC (fun S' => ∃ u23, t22 = Ex.brk u23 ∧ S' = ⟨[(6, .val (.int .i64 (x4.toNat : Int))), (5, .val (.int .i64 0)), (4, .val (.int .i64 0)), (1, .val (.int .i64 a1)), (0, .val (.string (bs a0)))], [], 154⟩) (fun _ h => h) ?_ ?_
 · rcases ite_some ht22 with ⟨c24, ht22⟩ | ⟨c24, ht22⟩
   rotate_left
   · refine T.condF rfl (eq_false_of_ne_true c24) ?_
     refine T.skip ?_
     obtain rfl := Option.some.inj ht22
     exact ⟨_, Gst.only [0, 1, 4, 5, 6] rfl, _, rfl, rfl⟩
   refine T.condT rfl (c24) ?_
   refine T.seq ?_
   obtain ⟨x26, hx26, ht22⟩ := bnd_some ht22
   obtain ⟨x27, hx27, ht22⟩ := bnd_some ht22
   obtain ⟨x28, hx28, ht22⟩ := bnd_some ht22
   refine T.drawQ drawsX [.val (.int .i64 (x4.toNat : Int)), .val (.int .i64 (w64 ((x4.toNat : Int) - 224))), .val (.int .i64 (w64 ((w64 ((x4.toNat : Int) - 224)) * 4096))), .val (.string (bs a0)), .val (.int .i64 a1), .val (.int .i64 (w64 (a1 + 1))), .val (.int .u8 (x26.toNat : Int)), .val (.int .i64 (x26.toNat : Int)), .val (.int .i64 (w64 ((x26.toNat : Int) - 128))), .val (.int .i64 (w64 ((w64 ((x26.toNat : Int) - 128)) * 64))), .val (.int .i64 x27), .val (.string (bs a0)), .val (.int .i64 a1), .val (.int .i64 (w64 (a1 + 2))), .val (.int .u8 (x28.toNat : Int)), .val (.int .i64 (x28.toNat : Int)), .val (.int .i64 (w64 (x27 + (x28.toNat : Int)))), .val (.int .i64 (w64 ((w64 (x27 + (x28.toNat : Int))) - 128))), .val (.int .i64 (w64 ((w64 (x27 + (x28.toNat : Int))) - 128)))] [0, 1, 4, 5, 6, 8, 67, 68, 69, 70, 71, 72, 73, 74, 75, 76, 77, 78, 79, 80, 81, 82, 83, 84, 85] (by decide +kernel) rfl ?_ rfl ?_
   · refine OpsQ.yes (Want.plain rfl) rfl (OpR.pure rfl) ?_
     refine OpsQ.yes (Want.plain rfl) rfl (OpR.pure rfl) ?_
     refine OpsQ.yes (Want.plain rfl) rfl (OpR.pure rfl) ?_
     refine OpsQ.yes (Want.plain rfl) rfl (OpR.pure rfl) ?_
     refine OpsQ.yes (Want.plain rfl) rfl (OpR.pure rfl) ?_
     refine OpsQ.yes (Want.plain rfl) rfl (OpR.pure rfl) ?_
     refine OpsQ.yes (Want.plain rfl) rfl (OpR.indexS hx26 rfl rfl rfl rfl) ?_
     refine OpsQ.yes (Want.plain rfl) rfl (OpR.cast (OpR.pure rfl) (intE (w64_u8 _))) ?_
     refine OpsQ.yes (Want.plain rfl) rfl (OpR.pure rfl) ?_
     refine OpsQ.yes (Want.plain rfl) rfl (OpR.pure rfl) ?_
     refine OpsQ.yes (Want.plain rfl) rfl (OpR.cast (OpR.pure rfl) (intE (Option.some.inj hx27))) ?_
     refine OpsQ.yes (Want.plain rfl) rfl (OpR.pure rfl) ?_
     refine OpsQ.yes (Want.plain rfl) rfl (OpR.pure rfl) ?_
     refine OpsQ.yes (Want.plain rfl) rfl (OpR.pure rfl) ?_
     refine OpsQ.yes (Want.plain rfl) rfl (OpR.indexS hx28 rfl rfl rfl rfl) ?_
     refine OpsQ.yes (Want.plain rfl) rfl (OpR.cast (OpR.pure rfl) (intE (w64_u8 _))) ?_
     refine OpsQ.yes (Want.plain rfl) rfl (OpR.pure rfl) ?_
     refine OpsQ.yes (Want.plain rfl) rfl (OpR.pure rfl) ?_
     refine OpsQ.yes (Want.plain rfl) rfl (OpR.pure rfl) ?_
     exact OpsQ.nil
   show T X _ _ _
   refine T.seq ?_
   obtain ⟨t29, ht29, ht22⟩ := bnd_some ht22
   refine T.cutC (fun S' => S' = ⟨[(95, .val (.bool t29)), (8, .val (.int .i64 (w64 ((w64 (x27 + (x28.toNat : Int))) - 128)))), (6, .val (.int .i64 (x4.toNat : Int))), (5, .val (.int .i64 0)), (4, .val (.int .i64 0)), (1, .val (.int .i64 a1)), (0, .val (.string (bs a0)))], [], 154⟩) (fun _ h => h) ?_ ?_
   rotate_left
   · rintro _ rfl
     show T X _ _ _
     rcases ite_some ht22 with ⟨c32, ht22⟩ | ⟨c32, ht22⟩
     rotate_left
     · refine T.condF rfl (eq_false_of_ne_true c32) ?_
       refine T.skip ?_
       obtain rfl := Option.some.inj ht22
       exact ⟨_, Gst.only [0, 1, 4, 5, 6] rfl, _, rfl, rfl⟩
     refine T.condT rfl (c32) ?_
     refine T.seq ?_
     refine T.region ?_
     refine TL.op1 (OpR.pure rfl) rfl ?_
     refine TL.op1 (OpR.pure rfl) rfl ?_
     refine TL.op1 (OpR.pure rfl) rfl ?_
     refine TL.nil ?_
     show T X _ _ _
     refine T.ret ?_
     obtain rfl := Option.some.inj ht22
     obtain rfl := Option.some.inj h0
     exact PostG.retP (ks := []) (Gst.only [4, 5] rfl) undef (ResL.cons (ResV.tmp rfl) (ResL.cons (ResV.tmp rfl) ResL.nil)) rfl rfl rfl rfl
   refine T.region ?_
   refine TL.op1 (OpR.pure rfl) rfl ?_
   refine TL.op1 (OpR.pure rfl) rfl ?_
   refine TL.op1 (OpR.pure rfl) rfl ?_
   rcases ite_some ht29 with ⟨c30, ht29⟩ | ⟨c30, ht29⟩
   rotate_left
   · refine TL.off rfl rfl rfl rfl (decide_eq_false c30) rfl rfl ?_
     refine TL.off rfl rfl rfl rfl (decide_eq_false c30) rfl rfl ?_
     refine TL.off rfl rfl rfl rfl (decide_eq_false c30) rfl rfl ?_
     refine TL.offU rfl rfl rfl rfl rfl rfl ?_
     refine TL.offU rfl rfl rfl rfl rfl rfl ?_
     refine TL.off rfl rfl rfl rfl (decide_eq_false c30) rfl rfl ?_
     refine TL.op1 (OpR.pickF rfl (decide_eq_false c30) rfl) rfl ?_
     refine TL.nil ?_
     obtain rfl := Option.some.inj ht29
     exact ⟨_, Gst.only [0, 1, 4, 5, 6, 8, 95] rfl, rfl⟩
   refine TL.on rfl rfl rfl rfl (decide_eq_true c30) ?_
   refine TL.op1 (OpR.pure rfl) rfl ?_
   refine TL.on rfl rfl rfl rfl (decide_eq_true c30) ?_
   refine TL.op1 (OpR.pure rfl) rfl ?_
   refine TL.on rfl rfl rfl rfl (decide_eq_true c30) ?_
   refine TL.op1 (OpR.pure rfl) rfl ?_
   rcases ite_some ht29 with ⟨c31, ht29⟩ | ⟨c31, ht29⟩
   · refine TL.off rfl rfl rfl rfl (decide_eq_true c31) rfl rfl ?_
     refine TL.off rfl rfl rfl rfl (decide_eq_true c31) rfl rfl ?_
     refine TL.on rfl rfl rfl rfl (decide_eq_true c30) ?_
     refine TL.op1 (OpR.pickT rfl (decide_eq_true c31) rfl) rfl ?_
     refine TL.op1 (OpR.pickT rfl (decide_eq_true c30) rfl) rfl ?_
     refine TL.nil ?_
     obtain rfl := Option.some.inj ht29
     exact ⟨_, Gst.only [0, 1, 4, 5, 6, 8, 95] rfl, rfl⟩
   refine TL.on rfl rfl rfl rfl (decide_eq_false c31) ?_
   refine TL.op1 (OpR.pure rfl) rfl ?_
   refine TL.on rfl rfl rfl rfl (decide_eq_false c31) ?_
   refine TL.op1 (OpR.pure rfl) rfl ?_
   refine TL.on rfl rfl rfl rfl (decide_eq_true c30) ?_
   refine TL.op1 (OpR.pickF rfl (decide_eq_false c31) rfl) rfl ?_
   refine TL.op1 (OpR.pickT rfl (decide_eq_true c30) rfl) rfl ?_
   refine TL.nil ?_
   obtain rfl := Option.some.inj ht29
   exact ⟨_, Gst.only [0, 1, 4, 5, 6, 8, 95] rfl, rfl⟩
 rintro _ ⟨u23, rfl, rfl⟩
 show T X _ _ _
 refine T.seq ?_
 refine T.seq ?_
 obtain ⟨t33, ht33, h0⟩ := bnd_some h0
 refine T.cutC (fun S' => S' = ⟨[(120, .val (.bool t33)), (6, .val (.int .i64 (x4.toNat : Int))), (5, .val (.int .i64 0)), (4, .val (.int .i64 0)), (1, .val (.int .i64 a1)), (0, .val (.string (bs a0)))], [], 154⟩) (fun _ h => h) ?_ ?_
 · refine T.region ?_
   refine TL.op1 (OpR.pure rfl) rfl ?_
   refine TL.op1 (OpR.pure rfl) rfl ?_
   refine TL.op1 (OpR.pure rfl) rfl ?_
   rcases ite_some ht33 with ⟨c34, ht33⟩ | ⟨c34, ht33⟩
   rotate_left
   · refine TL.off rfl rfl rfl rfl (decide_eq_false c34) rfl rfl ?_
     refine TL.off rfl rfl rfl rfl (decide_eq_false c34) rfl rfl ?_
     refine TL.op1 (OpR.pickF rfl (decide_eq_false c34) rfl) rfl ?_
     refine TL.op1 (OpR.pure rfl) rfl ?_
     refine TL.off rfl rfl rfl rfl rfl rfl rfl ?_
     refine TL.off rfl rfl rfl rfl rfl rfl rfl ?_
     refine TL.off rfl rfl rfl rfl rfl rfl rfl ?_
     refine TL.off rfl rfl rfl rfl rfl rfl rfl ?_
     refine TL.op1 (OpR.pickF rfl rfl rfl) rfl ?_
     refine TL.op1 (OpR.pure rfl) rfl ?_
     refine TL.off rfl rfl rfl rfl rfl rfl rfl ?_
     refine TL.off rfl rfl rfl rfl rfl rfl rfl ?_
     refine TL.off rfl rfl rfl rfl rfl rfl rfl ?_
     refine TL.off rfl rfl rfl rfl rfl rfl rfl ?_
     refine TL.op1 (OpR.pickF rfl rfl rfl) rfl ?_
     refine TL.op1 (OpR.pure rfl) rfl ?_
     refine TL.off rfl rfl rfl rfl rfl rfl rfl ?_
     refine TL.off rfl rfl rfl rfl rfl rfl rfl ?_
     refine TL.off rfl rfl rfl rfl rfl rfl rfl ?_
     refine TL.off rfl rfl rfl rfl rfl rfl rfl ?_
     refine TL.op1 (OpR.pickF rfl rfl rfl) rfl ?_
     refine TL.nil ?_
     obtain rfl := Option.some.inj ht33
     exact ⟨_, Gst.only [0, 1, 4, 5, 6, 120] rfl, rfl⟩
   refine TL.on rfl rfl rfl rfl (decide_eq_true c34) ?_
   refine TL.op1 (OpR.pure rfl) rfl ?_
   refine TL.on rfl rfl rfl rfl (decide_eq_true c34) ?_
   refine TL.op1 (OpR.pure rfl) rfl ?_
   refine TL.op1 (OpR.pickT rfl (decide_eq_true c34) rfl) rfl ?_
   refine TL.op1 (OpR.pure rfl) rfl ?_
   rcases ite_some ht33 with ⟨c35, ht33⟩ | ⟨c35, ht33⟩
   rotate_left
   · refine TL.off rfl rfl rfl rfl (decide_eq_false c35) rfl rfl ?_
     refine TL.off rfl rfl rfl rfl (decide_eq_false c35) rfl rfl ?_
     refine TL.off rfl rfl rfl rfl (decide_eq_false c35) rfl rfl ?_
     refine TL.off rfl rfl rfl rfl (decide_eq_false c35) rfl rfl ?_
     refine TL.op1 (OpR.pickF rfl (decide_eq_false c35) rfl) rfl ?_
     refine TL.op1 (OpR.pure rfl) rfl ?_
     refine TL.off rfl rfl rfl rfl rfl rfl rfl ?_
     refine TL.off rfl rfl rfl rfl rfl rfl rfl ?_
     refine TL.off rfl rfl rfl rfl rfl rfl rfl ?_
     refine TL.off rfl rfl rfl rfl rfl rfl rfl ?_
     refine TL.op1 (OpR.pickF rfl rfl rfl) rfl ?_
     refine TL.op1 (OpR.pure rfl) rfl ?_
     refine TL.off rfl rfl rfl rfl rfl rfl rfl ?_
     refine TL.off rfl rfl rfl rfl rfl rfl rfl ?_
     refine TL.off rfl rfl rfl rfl rfl rfl rfl ?_
     refine TL.off rfl rfl rfl rfl rfl rfl rfl ?_
     refine TL.op1 (OpR.pickF rfl rfl rfl) rfl ?_
     refine TL.nil ?_
     obtain rfl := Option.some.inj ht33
     exact ⟨_, Gst.only [0, 1, 4, 5, 6, 120] rfl, rfl⟩
   refine TL.on rfl rfl rfl rfl (decide_eq_true c35) ?_
   refine TL.op1 (OpR.pure rfl) rfl ?_
   refine TL.on rfl rfl rfl rfl (decide_eq_true c35) ?_
   refine TL.op1 (OpR.pure rfl) rfl ?_
   refine TL.on rfl rfl rfl rfl (decide_eq_true c35) ?_
   refine TL.op1 (OpR.pure rfl) rfl ?_
   refine TL.on rfl rfl rfl rfl (decide_eq_true c35) ?_
   obtain ⟨x36, hx36, ht33⟩ := bnd_some ht33
   refine TL.op1 (OpR.call0 fn63 (ref01_more_c hx36) rfl) rfl ?_
   refine TL.op1 (OpR.pickT rfl (decide_eq_true c35) rfl) rfl ?_
   refine TL.op1 (OpR.pure rfl) rfl ?_
   rcases ite_some ht33 with ⟨c37, ht33⟩ | ⟨c37, ht33⟩
   rotate_left
   · refine TL.off rfl rfl rfl rfl (eq_false_of_ne_true c37) rfl rfl ?_
     refine TL.off rfl rfl rfl rfl (eq_false_of_ne_true c37) rfl rfl ?_
     refine TL.off rfl rfl rfl rfl (eq_false_of_ne_true c37) rfl rfl ?_
     refine TL.off rfl rfl rfl rfl (eq_false_of_ne_true c37) rfl rfl ?_
     refine TL.op1 (OpR.pickF rfl (eq_false_of_ne_true c37) rfl) rfl ?_
     refine TL.op1 (OpR.pure rfl) rfl ?_
     refine TL.off rfl rfl rfl rfl rfl rfl rfl ?_
     refine TL.off rfl rfl rfl rfl rfl rfl rfl ?_
     refine TL.off rfl rfl rfl rfl rfl rfl rfl ?_
     refine TL.off rfl rfl rfl rfl rfl rfl rfl ?_
     refine TL.op1 (OpR.pickF rfl rfl rfl) rfl ?_
     refine TL.nil ?_
     obtain rfl := Option.some.inj ht33
     exact ⟨_, Gst.only [0, 1, 4, 5, 6, 120] rfl, rfl⟩
   refine TL.on rfl rfl rfl rfl (c37) ?_
   refine TL.op1 (OpR.pure rfl) rfl ?_
   refine TL.on rfl rfl rfl rfl (c37) ?_
   refine TL.op1 (OpR.pure rfl) rfl ?_
   refine TL.on rfl rfl rfl rfl (c37) ?_
   refine TL.op1 (OpR.pure rfl) rfl ?_
   refine TL.on rfl rfl rfl rfl (c37) ?_
   obtain ⟨x38, hx38, ht33⟩ := bnd_some ht33
   refine TL.op1 (OpR.call0 fn63 (ref01_more_c hx38) rfl) rfl ?_
   refine TL.op1 (OpR.pickT rfl (c37) rfl) rfl ?_
   refine TL.op1 (OpR.pure rfl) rfl ?_
   rcases ite_some ht33 with ⟨c39, ht33⟩ | ⟨c39, ht33⟩
   rotate_left
   · refine TL.off rfl rfl rfl rfl (eq_false_of_ne_true c39) rfl rfl ?_
     refine TL.off rfl rfl rfl rfl (eq_false_of_ne_true c39) rfl rfl ?_
     refine TL.off rfl rfl rfl rfl (eq_false_of_ne_true c39) rfl rfl ?_
     refine TL.off rfl rfl rfl rfl (eq_false_of_ne_true c39) rfl rfl ?_
     refine TL.op1 (OpR.pickF rfl (eq_false_of_ne_true c39) rfl) rfl ?_
     refine TL.nil ?_
     obtain rfl := Option.some.inj ht33
     exact ⟨_, Gst.only [0, 1, 4, 5, 6, 120] rfl, rfl⟩
   refine TL.on rfl rfl rfl rfl (c39) ?_
   refine TL.op1 (OpR.pure rfl) rfl ?_
   refine TL.on rfl rfl rfl rfl (c39) ?_
   refine TL.op1 (OpR.pure rfl) rfl ?_
   refine TL.on rfl rfl rfl rfl (c39) ?_
   refine TL.op1 (OpR.pure rfl) rfl ?_
   refine TL.on rfl rfl rfl rfl (c39) ?_
   obtain ⟨x40, hx40, ht33⟩ := bnd_some ht33
   refine TL.op1 (OpR.call0 fn63 (ref01_more_c hx40) rfl) rfl ?_
   refine TL.op1 (OpR.pickT rfl (c39) rfl) rfl ?_
   refine TL.nil ?_
   obtain rfl := Option.some.inj ht33
   exact ⟨_, Gst.only [0, 1, 4, 5, 6, 120] rfl, rfl⟩
 rintro _ rfl
 show T X _ _ _
 obtain ⟨t41, ht41, h0⟩ := bnd_some h0
 refine T.cutC (fun S' => ∃ u42, t41 = Ex.brk u42 ∧ S' = ⟨[(5, .val (.int .i64 0)), (4, .val (.int .i64 0))], [], 154⟩) (fun _ h => h) ?_ ?_
 rotate_left
 · rintro _ ⟨u42, rfl, rfl⟩
   show T X _ _ _
   refine T.seq ?_
   refine T.region ?_
   refine TL.op1 (OpR.pure rfl) rfl ?_
   refine TL.op1 (OpR.pure rfl) rfl ?_
   refine TL.nil ?_
   show T X _ _ _
   refine T.ret ?_
   obtain rfl := Option.some.inj h0
   exact PostG.retP (ks := []) (Gst.only [4, 5] rfl) undef (ResL.cons (ResV.tmp rfl) (ResL.cons (ResV.tmp rfl) ResL.nil)) rfl rfl rfl rfl
 rcases ite_some ht41 with ⟨c43, ht41⟩ | ⟨c43, ht41⟩
 rotate_left
 · refine T.condF rfl (eq_false_of_ne_true c43) ?_
   refine T.skip ?_
   obtain rfl := Option.some.inj ht41
   exact ⟨_, Gst.only [4, 5] rfl, _, rfl, rfl⟩
 refine T.condT rfl (c43) ?_
 refine T.seq ?_
 obtain ⟨x45, hx45, ht41⟩ := bnd_some ht41
 obtain ⟨x46, hx46, ht41⟩ := bnd_some ht41
 obtain ⟨x47, hx47, ht41⟩ := bnd_some ht41
 obtain ⟨x48, hx48, ht41⟩ := bnd_some ht41
 obtain ⟨x49, hx49, ht41⟩ := bnd_some ht41
 refine T.drawQ drawsX [.val (.int .i64 (x4.toNat : Int)), .val (.int .i64 (w64 ((x4.toNat : Int) - 240))), .val (.int .i64 (w64 ((w64 ((x4.toNat : Int) - 240)) * 262144))), .val (.string (bs a0)), .val (.int .i64 a1), .val (.int .i64 (w64 (a1 + 1))), .val (.int .u8 (x45.toNat : Int)), .val (.int .i64 (x45.toNat : Int)), .val (.int .i64 (w64 ((x45.toNat : Int) - 128))), .val (.int .i64 (w64 ((w64 ((x45.toNat : Int) - 128)) * 4096))), .val (.int .i64 x46), .val (.string (bs a0)), .val (.int .i64 a1), .val (.int .i64 (w64 (a1 + 2))), .val (.int .u8 (x47.toNat : Int)), .val (.int .i64 (x47.toNat : Int)), .val (.int .i64 (w64 ((x47.toNat : Int) - 128))), .val (.int .i64 (w64 ((w64 ((x47.toNat : Int) - 128)) * 64))), .val (.int .i64 (w64 (x46 + (w64 ((w64 ((x47.toNat : Int) - 128)) * 64))))), .val (.string (bs a0)), .val (.int .i64 a1), .val (.int .i64 (w64 (a1 + 3))), .val (.int .u8 (x48.toNat : Int)), .val (.int .i64 (x48.toNat : Int)), .val (.int .i64 x49), .val (.int .i64 (w64 (x49 - 128))), .val (.int .i64 (w64 (x49 - 128)))] [0, 1, 4, 5, 6, 9, 120, 121, 122, 123, 124, 125, 126, 127, 128, 129, 130, 131, 132, 133, 134, 135, 136, 137, 138, 139, 140, 141, 142, 143, 144, 145, 146] (by decide +kernel) rfl ?_ rfl ?_
 · refine OpsQ.yes (Want.plain rfl) rfl (OpR.pure rfl) ?_
   refine OpsQ.yes (Want.plain rfl) rfl (OpR.pure rfl) ?_
   refine OpsQ.yes (Want.plain rfl) rfl (OpR.pure rfl) ?_
   refine OpsQ.yes (Want.plain rfl) rfl (OpR.pure rfl) ?_
   refine OpsQ.yes (Want.plain rfl) rfl (OpR.pure rfl) ?_
   refine OpsQ.yes (Want.plain rfl) rfl (OpR.pure rfl) ?_
   refine OpsQ.yes (Want.plain rfl) rfl (OpR.indexS hx45 rfl rfl rfl rfl) ?_
   refine OpsQ.yes (Want.plain rfl) rfl (OpR.cast (OpR.pure rfl) (intE (w64_u8 _))) ?_
   refine OpsQ.yes (Want.plain rfl) rfl (OpR.pure rfl) ?_
   refine OpsQ.yes (Want.plain rfl) rfl (OpR.pure rfl) ?_
   refine OpsQ.yes (Want.plain rfl) rfl (OpR.cast (OpR.pure rfl) (intE (Option.some.inj hx46))) ?_
   refine OpsQ.yes (Want.plain rfl) rfl (OpR.pure rfl) ?_
   refine OpsQ.yes (Want.plain rfl) rfl (OpR.pure rfl) ?_
   refine OpsQ.yes (Want.plain rfl) rfl (OpR.pure rfl) ?_
   refine OpsQ.yes (Want.plain rfl) rfl (OpR.indexS hx47 rfl rfl rfl rfl) ?_
   refine OpsQ.yes (Want.plain rfl) rfl (OpR.cast (OpR.pure rfl) (intE (w64_u8 _))) ?_
   refine OpsQ.yes (Want.plain rfl) rfl (OpR.pure rfl) ?_
   refine OpsQ.yes (Want.plain rfl) rfl (OpR.pure rfl) ?_
   refine OpsQ.yes (Want.plain rfl) rfl (OpR.pure rfl) ?_
   refine OpsQ.yes (Want.plain rfl) rfl (OpR.pure rfl) ?_
   refine OpsQ.yes (Want.plain rfl) rfl (OpR.pure rfl) ?_
   refine OpsQ.yes (Want.plain rfl) rfl (OpR.pure rfl) ?_
   refine OpsQ.yes (Want.plain rfl) rfl (OpR.indexS hx48 rfl rfl rfl rfl) ?_
   refine OpsQ.yes (Want.plain rfl) rfl (OpR.cast (OpR.pure rfl) (intE (w64_u8 _))) ?_
   refine OpsQ.yes (Want.plain rfl) rfl (OpR.cast (OpR.pure rfl) (intE (Option.some.inj hx49))) ?_
   refine OpsQ.yes (Want.plain rfl) rfl (OpR.pure rfl) ?_
   refine OpsQ.yes (Want.plain rfl) rfl (OpR.pure rfl) ?_
   exact OpsQ.nil
 show T X _ _ _
 refine T.seq ?_
 obtain ⟨t50, ht50, ht41⟩ := bnd_some ht41
 refine T.cutC (fun S' => S' = ⟨[(152, .val (.bool t50)), (9, .val (.int .i64 (w64 (x49 - 128)))), (5, .val (.int .i64 0)), (4, .val (.int .i64 0))], [], 154⟩) (fun _ h => h) ?_ ?_
 rotate_left
 · rintro _ rfl
   show T X _ _ _
   rcases ite_some ht41 with ⟨c52, ht41⟩ | ⟨c52, ht41⟩
   rotate_left
   · refine T.condF rfl (eq_false_of_ne_true c52) ?_
     refine T.skip ?_
     obtain rfl := Option.some.inj ht41
     exact ⟨_, Gst.only [4, 5] rfl, _, rfl, rfl⟩
   refine T.condT rfl (c52) ?_
   refine T.seq ?_
   refine T.region ?_
   refine TL.op1 (OpR.pure rfl) rfl ?_
   refine TL.op1 (OpR.pure rfl) rfl ?_
   refine TL.op1 (OpR.pure rfl) rfl ?_
   refine TL.nil ?_
   show T X _ _ _
   refine T.ret ?_
   obtain rfl := Option.some.inj ht41
   obtain rfl := Option.some.inj h0
   exact PostG.retP (ks := []) (Gst.only [4, 5] rfl) undef (ResL.cons (ResV.tmp rfl) (ResL.cons (ResV.tmp rfl) ResL.nil)) rfl rfl rfl rfl
 refine T.region ?_
 refine TL.op1 (OpR.pure rfl) rfl ?_
 refine TL.op1 (OpR.pure rfl) rfl ?_
 refine TL.op1 (OpR.pure rfl) rfl ?_
 rcases ite_some ht50 with ⟨c51, ht50⟩ | ⟨c51, ht50⟩
 rotate_left
 · refine TL.off rfl rfl rfl rfl (decide_eq_false c51) rfl rfl ?_
   refine TL.off rfl rfl rfl rfl (decide_eq_false c51) rfl rfl ?_
   refine TL.op1 (OpR.pickF rfl (decide_eq_false c51) rfl) rfl ?_
   refine TL.nil ?_
   obtain rfl := Option.some.inj ht50
   exact ⟨_, Gst.only [4, 5, 9, 152] rfl, rfl⟩
 refine TL.on rfl rfl rfl rfl (decide_eq_true c51) ?_
 refine TL.op1 (OpR.pure rfl) rfl ?_
 refine TL.on rfl rfl rfl rfl (decide_eq_true c51) ?_
 refine TL.op1 (OpR.pure rfl) rfl ?_
 refine TL.op1 (OpR.pickT rfl (decide_eq_true c51) rfl) rfl ?_
 refine TL.nil ?_
 obtain rfl := Option.some.inj ht50
 exact ⟨_, Gst.only [4, 5, 9, 152] rfl, rfl⟩
noncomputable def ref01_Bounds.l1 (a0 : List UInt8) (s5 : Int × (List Int)) : Option (Lp (Int × (List Int)) (List Int)) :=
  if s5.1 < (a0.length : Int) then
    bnd (ref01_At a0 s5.1) fun x14 =>
    bnd (app 8 s5.2 [w64 (s5.1 + x14.2)]) fun x15 =>
    some (Lp.next (w64 (s5.1 + x14.2), x15))
  else
    some (Lp.done s5.2)
noncomputable def ref01_Bounds (a0 : List UInt8) : Option (List Int) :=
  bnd (loop (ref01_Bounds.l1 a0) (0, [0]) : Option (List Int)) fun t2 =>
  some t2
set_option maxHeartbeats 4000000 in
theorem ref01_Bounds_c {a0 : List UInt8} {res : (List Int)} (h0 : ref01_Bounds a0 = some res) : CallF X 34 [.val (.string (bs a0))] [] (fun x => .sl 1 (List.map (eI .i64) res)) (fun x => []) := by
 unfold ref01_Bounds at h0
 refine CallF.mkG (X := X) Try.func34 rfl rfl Try.ntmps34 rfl rfl ?_
 refine T.seq ?_
 refine T.region ?_
 refine TL.op1 (OpR.pure rfl) rfl ?_
 refine TL.nil ?_
 show T X _ _ _
 refine T.seq ?_
 refine T.region ?_
 refine TL.op (OpR.litRow rfl rfl rfl rfl rfl rfl rfl rfl (fun _ => rfl)) rfl (fun v1 => ?_)
 refine TL.op1 (OpR.pure rfl) rfl ?_
 refine TL.nil ?_
 show T X _ _ _
 refine T.seq ?_
 refine T.seq ?_
 refine T.region ?_
 refine TL.op1 (OpR.pure rfl) rfl ?_
 refine TL.nil ?_
 show T X _ _ _
 obtain ⟨t2, ht2, h0⟩ := bnd_some h0
 refine T.cutC (fun S' => ∃ y3 : Value, S' = ⟨[(3, .val y3), (2, .val (.slice none 0 0))], [.row y3 (List.map (eI .i64) t2) 1 3], 26⟩) (fun _ h => h) ?_ ?_
 rotate_left
 · rintro _ ⟨y3, rfl⟩
   show T X _ _ _
   refine T.seq ?_
   refine T.region ?_
   refine TL.op1 (OpR.pure rfl) rfl ?_
   refine TL.op1 (OpR.pure rfl) rfl ?_
   refine TL.nil ?_
   show T X _ _ _
   refine T.ret ?_
   obtain rfl := Option.some.inj h0
   exact PostG.retP (ks := []) (Gst.trans (Gst.only [2] rfl) (Gst.trans (Gst.freezeRow 0 rfl rfl (ReS.cons (Re.base .all) ReS.nil) (ReO.same ReO.nil)) (Gst.pick [] rfl rfl))) undef (ResL.cons (ResV.tmp rfl) ResL.nil) rfl rfl rfl rfl
 refine T.block ?_
 obtain ⟨n6, n11⟩ := loop_some ht2
 refine T.loop (fun n S' => ∃ S'', Gst S' S'' ∧ ∃ y4 : Value, ∃ s5 : Int × (List Int), S'' = ⟨[(4, .val (.int .i64 s5.1)), (3, .val y4), (2, .val (.slice none 0 0)), (0, .val (.string (bs a0)))], [.row y4 (List.map (eI .i64) s5.2) 1 3], 26⟩ ∧ iter (ref01_Bounds.l1 a0) n s5 = some t2) n6 ?_ ?_
 · exact ⟨_, Gst.only [0, 2, 3, 4] rfl, v1, (0, [0]), rfl, n11⟩
 rintro n6 _ ⟨_, g, y4, s5, rfl, i10⟩
 refine T.ghost g ?_
 obtain ⟨m7, q8, rfl, q9, i10⟩ := iter_succ i10
 unfold ref01_Bounds.l1 at q9
 refine T.seq ?_
 refine T.seq ?_
 refine T.region ?_
 refine TL.op1 (OpR.pure rfl) rfl ?_
 refine TL.op1 (OpR.pure rfl) rfl ?_
 refine TL.op1 (OpR.cast (OpR.pure rfl) (intE (lenS _))) rfl ?_
 refine TL.op1 (OpR.pure rfl) rfl ?_
 refine TL.nil ?_
 show T X _ _ _
 rcases ite_some q9 with ⟨c13, q9⟩ | ⟨c13, q9⟩
 rotate_left
 · refine T.condF rfl (decide_eq_false c13) ?_
   refine T.exit ?_
   obtain rfl := Option.some.inj q9
   obtain rfl : _ = _ := i10
   exact ⟨_, Gst.only [2, 3] rfl, y4, rfl⟩
 refine T.condT rfl (decide_eq_true c13) ?_
 refine T.skip ?_
 show T X _ _ _
 refine T.block ?_
 refine T.seq ?_
 refine T.region ?_
 refine TL.op1 (OpR.pure rfl) rfl ?_
 refine TL.op1 (OpR.pure rfl) rfl ?_
 obtain ⟨x14, hx14, q9⟩ := bnd_some q9
 refine TL.op1 (OpR.call0 fn44 (ref01_At_c hx14) rfl) rfl ?_
 refine TL.op1 (OpR.pure rfl) rfl ?_
 refine TL.op1 (OpR.pure rfl) rfl ?_
 refine TL.op1 (OpR.pure rfl) rfl ?_
 refine TL.op1 (OpR.pure rfl) rfl ?_
 refine TL.op1 (OpR.pure rfl) rfl ?_
 refine TL.nil ?_
 show T X _ _ _
 refine T.seq ?_
 refine T.region ?_
 refine TL.op1 (OpR.pure rfl) rfl ?_
 refine TL.op1 (OpR.pure rfl) rfl ?_
 refine TL.op1 (OpR.pure rfl) rfl ?_
 refine TL.op1 (OpR.pure rfl) rfl ?_
 refine TL.nil ?_
 show T X _ _ _
 refine T.region ?_
 refine TL.op1 (OpR.pure rfl) rfl ?_
 refine TL.op1 (OpR.pure rfl) rfl ?_
 refine TL.op1 (OpR.lit rfl rfl rfl rfl rfl rfl rfl) rfl ?_
 obtain ⟨x15, hx15, q9⟩ := bnd_some q9
 refine TL.op (OpR.appendM (m := [w64 (s5.1 + x14.2)]) (eI .i64) 0 hx15 rfl rfl rfl rfl rfl rfl rfl rfl rfl (fun _ => rfl)) rfl (fun v16 => ?_)
 refine TL.op1 (OpR.pure rfl) rfl ?_
 refine TL.nil ?_
 obtain rfl := Option.some.inj q9
 exact ⟨m7, Nat.lt_succ_self _, _, Gst.only [0, 2, 3, 4] rfl, v16, (w64 (s5.1 + x14.2), x15), rfl, i10⟩
noncomputable def ref30_Bound.l1 (a1 : Int) (x1 : (List Int)) (s3 : Int × Int) : Option (Lp (Int × Int) Int) :=
  if s3.2 < (x1.length : Int) then
    bnd (idx x1 s3.2) fun x12 =>
    bnd (if x12 ≤ a1 then
      some x12
    else
      some s3.1 : Option Int) fun t13 =>
    some (Lp.next (t13, w64 (s3.2 + 1)))
  else
    some (Lp.done s3.1)
noncomputable def ref30_Bound (a0 : List UInt8) (a1 : Int) : Option Int :=
  bnd (ref01_Bounds a0) fun x1 =>
  bnd (loop (ref30_Bound.l1 a1 x1) (0, 0) : Option Int) fun t2 =>
  some t2
set_option maxHeartbeats 4000000 in
theorem ref30_Bound_c {a0 : List UInt8} {a1 : Int} {res : Int} (h0 : ref30_Bound a0 a1 = some res) : CallF X 10 [.val (.string (bs a0)), .val (.int .i64 a1)] [] (fun x => .val (.int .i64 res)) (fun x => []) := by
 unfold ref30_Bound at h0
 refine CallF.mkG (X := X) Try.func10 rfl rfl Try.ntmps10 rfl rfl ?_
 refine T.seq ?_
 refine T.region ?_
 refine TL.op1 (OpR.pure rfl) rfl ?_
 refine TL.nil ?_
 show T X _ _ _
 refine T.seq ?_
 refine T.region ?_
 refine TL.op1 (OpR.pure rfl) rfl ?_
 refine TL.nil ?_
 show T X _ _ _
 refine T.seq ?_
 refine T.seq ?_
 refine T.region ?_
 refine TL.op1 (OpR.pure rfl) rfl ?_
 obtain ⟨x1, hx1, h0⟩ := bnd_some h0
 refine TL.op1 (OpR.call0 fn34 (ref01_Bounds_c hx1) rfl) rfl ?_
 refine TL.op1 (OpR.cast (OpR.pure rfl) (intE (lenM _ _))) rfl ?_
 refine TL.op1 (OpR.pure rfl) rfl ?_
 refine TL.nil ?_
 show T X _ _ _
 obtain ⟨t2, ht2, h0⟩ := bnd_some h0
 refine T.cutC (fun S' => S' = ⟨[(5, .val (.int .i64 t2)), (4, .val (.int .i64 0))], [], 21⟩) (fun _ h => h) ?_ ?_
 rotate_left
 · rintro _ rfl
   show T X _ _ _
   refine T.seq ?_
   refine T.region ?_
   refine TL.op1 (OpR.pure rfl) rfl ?_
   refine TL.op1 (OpR.pure rfl) rfl ?_
   refine TL.nil ?_
   show T X _ _ _
   refine T.ret ?_
   obtain rfl := Option.some.inj h0
   exact PostG.retP (ks := []) (Gst.only [4] rfl) undef (ResL.cons (ResV.tmp rfl) ResL.nil) rfl rfl rfl rfl
 refine T.block ?_
 obtain ⟨n4, n9⟩ := loop_some ht2
 refine T.loop (fun n S' => ∃ S'', Gst S' S'' ∧ ∃ s3 : Int × Int, S'' = ⟨[(11, .val (.int .i64 s3.2)), (10, .val (.int .i64 (x1.length : Int))), (9, .sl 1 (List.map (eI .i64) x1)), (5, .val (.int .i64 s3.1)), (4, .val (.int .i64 0)), (1, .val (.int .i64 a1))], [], 21⟩ ∧ iter (ref30_Bound.l1 a1 x1) n s3 = some t2) n4 ?_ ?_
 · exact ⟨_, Gst.only [1, 4, 5, 9, 10, 11] rfl, (0, 0), rfl, n9⟩
 rintro n4 _ ⟨_, g, s3, rfl, i8⟩
 refine T.ghost g ?_
 obtain ⟨m5, q6, rfl, q7, i8⟩ := iter_succ i8
 unfold ref30_Bound.l1 at q7
 refine T.seq ?_
 refine T.region ?_
 refine TL.op1 (OpR.pure rfl) rfl ?_
 refine TL.nil ?_
 show T X _ _ _
 refine T.seq ?_
 rcases ite_some q7 with ⟨c11, q7⟩ | ⟨c11, q7⟩
 rotate_left
 · refine T.condF rfl (decide_eq_false c11) ?_
   refine T.exit ?_
   obtain rfl := Option.some.inj q7
   obtain rfl : _ = _ := i8
   exact ⟨_, Gst.only [4, 5] rfl, rfl⟩
 refine T.condT rfl (decide_eq_true c11) ?_
 refine T.skip ?_
 show T X _ _ _
 refine T.seq ?_
 refine T.block ?_
 refine T.seq ?_
 refine T.region ?_
 obtain ⟨x12, hx12, q7⟩ := bnd_some q7
 refine TL.op1 (OpR.indexM (eI .i64) hx12 rfl rfl rfl rfl rfl) rfl ?_
 refine TL.op1 (OpR.pure rfl) rfl ?_
 refine TL.op1 (OpR.pure rfl) rfl ?_
 refine TL.nil ?_
 show T X _ _ _
 refine T.seq ?_
 refine T.region ?_
 refine TL.op1 (OpR.pure rfl) rfl ?_
 refine TL.op1 (OpR.pure rfl) rfl ?_
 refine TL.op1 (OpR.pure rfl) rfl ?_
 refine TL.nil ?_
 show T X _ _ _
 obtain ⟨t13, ht13, q7⟩ := bnd_some q7
 refine T.cutC (fun S' => S' = ⟨[(11, .val (.int .i64 s3.2)), (10, .val (.int .i64 (x1.length : Int))), (9, .sl 1 (List.map (eI .i64) x1)), (5, .val (.int .i64 t13)), (4, .val (.int .i64 0)), (1, .val (.int .i64 a1))], [], 21⟩) (fun _ h => h) ?_ ?_
 rotate_left
 · rintro _ rfl
   show T X _ _ _
   refine T.region ?_
   refine TL.op1 (OpR.pure rfl) rfl ?_
   refine TL.op1 (OpR.pure rfl) rfl ?_
   refine TL.nil ?_
   obtain rfl := Option.some.inj q7
   exact ⟨m5, Nat.lt_succ_self _, _, Gst.only [1, 4, 5, 9, 10, 11] rfl, (t13, w64 (s3.2 + 1)), rfl, i8⟩
 rcases ite_some ht13 with ⟨c14, ht13⟩ | ⟨c14, ht13⟩
 rotate_left
 · refine T.condF rfl (decide_eq_false c14) ?_
   refine T.skip ?_
   obtain rfl := Option.some.inj ht13
   exact ⟨_, Gst.only [1, 4, 5, 9, 10, 11] rfl, rfl⟩
 refine T.condT rfl (decide_eq_true c14) ?_
 refine T.region ?_
 refine TL.op1 (OpR.pure rfl) rfl ?_
 refine TL.op1 (OpR.pure rfl) rfl ?_
 refine TL.nil ?_
 obtain rfl := Option.some.inj ht13
 exact ⟨_, Gst.only [1, 4, 5, 9, 10, 11] rfl, rfl⟩
noncomputable def utf_within (a0 : List UInt8) (a1 : Int) : Option Bool :=
  bnd (if a1 ≥ 0 then
    some (decide (a1 < (a0.length : Int)))
  else
    some false : Option Bool) fun t1 =>
  some t1
set_option maxHeartbeats 4000000 in
theorem utf_within_c {a0 : List UInt8} {a1 : Int} {res : Bool} (h0 : utf_within a0 a1 = some res) : CallF X 73 [.sl 1 (List.map byteD a0), .val (.int .i64 a1)] [] (fun x => .val (.bool res)) (fun x => []) := by
 unfold utf_within at h0
 refine CallF.mkG (X := X) Try.func73 rfl rfl Try.ntmps73 rfl rfl ?_
 refine T.seq ?_
 refine T.region ?_
 refine TL.op1 (OpR.pure rfl) rfl ?_
 refine TL.nil ?_
 show T X _ _ _
 refine T.seq ?_
 obtain ⟨t1, ht1, h0⟩ := bnd_some h0
 refine T.cutC (fun S' => S' = ⟨[(4, .val (.bool t1))], [], 13⟩) (fun _ h => h) ?_ ?_
 rotate_left
 · rintro _ rfl
   show T X _ _ _
   refine T.ret ?_
   obtain rfl := Option.some.inj h0
   exact PostG.retP (ks := []) (Gst.only [4] rfl) undef (ResL.cons (ResV.tmp rfl) ResL.nil) rfl rfl rfl rfl
 refine T.region ?_
 refine TL.op1 (OpR.pure rfl) rfl ?_
 refine TL.op1 (OpR.pure rfl) rfl ?_
 refine TL.op1 (OpR.pure rfl) rfl ?_
 rcases ite_some ht1 with ⟨c2, ht1⟩ | ⟨c2, ht1⟩
 rotate_left
 · refine TL.off rfl rfl rfl rfl (decide_eq_false c2) rfl rfl ?_
   refine TL.off rfl rfl rfl rfl (decide_eq_false c2) rfl rfl ?_
   refine TL.off rfl rfl rfl rfl (decide_eq_false c2) rfl rfl ?_
   refine TL.off rfl rfl rfl rfl (decide_eq_false c2) rfl rfl ?_
   refine TL.op1 (OpR.pickF rfl (decide_eq_false c2) rfl) rfl ?_
   refine TL.op1 (OpR.pure rfl) rfl ?_
   refine TL.nil ?_
   obtain rfl := Option.some.inj ht1
   exact ⟨_, Gst.only [4] rfl, rfl⟩
 refine TL.on rfl rfl rfl rfl (decide_eq_true c2) ?_
 refine TL.op1 (OpR.pure rfl) rfl ?_
 refine TL.on rfl rfl rfl rfl (decide_eq_true c2) ?_
 refine TL.op1 (OpR.pure rfl) rfl ?_
 refine TL.on rfl rfl rfl rfl (decide_eq_true c2) ?_
 refine TL.op1 (OpR.cast (OpR.pure rfl) (intE (lenM _ _))) rfl ?_
 refine TL.on rfl rfl rfl rfl (decide_eq_true c2) ?_
 refine TL.op1 (OpR.pure rfl) rfl ?_
 refine TL.op1 (OpR.pickT rfl (decide_eq_true c2) rfl) rfl ?_
 refine TL.op1 (OpR.pure rfl) rfl ?_
 refine TL.nil ?_
 obtain rfl := Option.some.inj ht1
 exact ⟨_, Gst.only [4] rfl, rfl⟩
noncomputable def utf_lead (a0 : UInt8) : Option (Int × Int) :=
  if (a0.toNat : Int) < 128 then
    some (0, (a0.toNat : Int))
  else
    bnd (if (a0.toNat : Int) ≥ 194 then
      some (decide ((a0.toNat : Int) ≤ 223))
    else
      some false : Option Bool) fun t2 =>
    if t2 = true then
      some (1, ((ub (iand .u8 (a0.toNat : Int) 31)).toNat : Int))
    else
      bnd (if (a0.toNat : Int) ≥ 224 then
        some (decide ((a0.toNat : Int) ≤ 239))
      else
        some false : Option Bool) fun t5 =>
      if t5 = true then
        some (2, ((ub (iand .u8 (a0.toNat : Int) 15)).toNat : Int))
      else
        bnd (if (a0.toNat : Int) ≥ 240 then
          some (decide ((a0.toNat : Int) ≤ 244))
        else
          some false : Option Bool) fun t8 =>
        if t8 = true then
          some (3, ((ub (iand .u8 (a0.toNat : Int) 7)).toNat : Int))
        else
          some ((-1), 0)
set_option maxHeartbeats 4000000 in
theorem utf_lead_c {a0 : UInt8} {res : Int × Int} (h0 : utf_lead a0 = some res) : CallF X 76 [.val (.int .u8 (a0.toNat : Int))] [] (fun x => .tup [.val (.int .i64 res.1), .val (.int .i64 res.2)]) (fun x => []) := by
 unfold utf_lead at h0
 refine CallF.mkG (X := X) Try.func76 rfl rfl Try.ntmps76 rfl rfl ?_
 refine T.seq ?_
 refine T.region ?_
 refine TL.op1 (OpR.pure rfl) rfl ?_
 refine TL.op1 (OpR.pure rfl) rfl ?_
 refine TL.nil ?_
 show T X _ _ _
 refine T.seq ?_
 refine T.block ?_
 refine T.seq ?_
 refine T.region ?_
 refine TL.op1 (OpR.pure rfl) rfl ?_
 refine TL.op1 (OpR.pure rfl) rfl ?_
 refine TL.op1 (OpR.pure rfl) rfl ?_
 refine TL.nil ?_
 show T X _ _ _
 rcases ite_some h0 with ⟨c1, h0⟩ | ⟨c1, h0⟩
 · refine T.condT rfl (decide_eq_true c1) ?_
   refine T.seq ?_
   refine T.region ?_
   refine TL.op1 (OpR.pure rfl) rfl ?_
   refine TL.op1 (OpR.cast (OpR.pure rfl) (intE (w64_u8 _))) rfl ?_
   refine TL.op1 (OpR.pure rfl) rfl ?_
   refine TL.op1 (OpR.pure rfl) rfl ?_
   refine TL.nil ?_
   show T X _ _ _
   refine T.ret ?_
   obtain rfl := Option.some.inj h0
   exact PostG.retP (ks := []) (Gst.only [2, 3] rfl) undef (ResL.cons (ResV.tmp rfl) (ResL.cons (ResV.tmp rfl) ResL.nil)) rfl rfl rfl rfl
 refine T.condF rfl (decide_eq_false c1) ?_
 refine T.seq ?_
 obtain ⟨t2, ht2, h0⟩ := bnd_some h0
 refine T.cutC (fun S' => S' = ⟨[(9, .val (.bool t2)), (3, .val (.int .i64 0)), (2, .val (.int .i64 0)), (0, .val (.int .u8 (a0.toNat : Int)))], [], 39⟩) (fun _ h => h) ?_ ?_
 · refine T.region ?_
   refine TL.op1 (OpR.pure rfl) rfl ?_
   refine TL.op1 (OpR.pure rfl) rfl ?_
   refine TL.op1 (OpR.pure rfl) rfl ?_
   rcases ite_some ht2 with ⟨c3, ht2⟩ | ⟨c3, ht2⟩
   rotate_left
   · refine TL.off rfl rfl rfl rfl (decide_eq_false c3) rfl rfl ?_
     refine TL.off rfl rfl rfl rfl (decide_eq_false c3) rfl rfl ?_
     refine TL.op1 (OpR.pickF rfl (decide_eq_false c3) rfl) rfl ?_
     refine TL.op1 (OpR.pure rfl) rfl ?_
     refine TL.nil ?_
     obtain rfl := Option.some.inj ht2
     exact ⟨_, Gst.only [0, 2, 3, 9] rfl, rfl⟩
   refine TL.on rfl rfl rfl rfl (decide_eq_true c3) ?_
   refine TL.op1 (OpR.pure rfl) rfl ?_
   refine TL.on rfl rfl rfl rfl (decide_eq_true c3) ?_
   refine TL.op1 (OpR.pure rfl) rfl ?_
   refine TL.op1 (OpR.pickT rfl (decide_eq_true c3) rfl) rfl ?_
   refine TL.op1 (OpR.pure rfl) rfl ?_
   refine TL.nil ?_
   obtain rfl := Option.some.inj ht2
   exact ⟨_, Gst.only [0, 2, 3, 9] rfl, rfl⟩
 rintro _ rfl
 show T X _ _ _
 rcases ite_some h0 with ⟨c4, h0⟩ | ⟨c4, h0⟩
 · refine T.condT rfl (c4) ?_
   refine T.seq ?_
   refine T.region ?_
   refine TL.op1 (OpR.pure rfl) rfl ?_
   refine TL.op1 (OpR.cast (OpR.pure rfl) (intE (ub_wrap _))) rfl ?_
   refine TL.op1 (OpR.cast (OpR.pure rfl) (intE (w64_u8 _))) rfl ?_
   refine TL.op1 (OpR.pure rfl) rfl ?_
   refine TL.op1 (OpR.pure rfl) rfl ?_
   refine TL.nil ?_
   show T X _ _ _
   refine T.ret ?_
   obtain rfl := Option.some.inj h0
   exact PostG.retP (ks := []) (Gst.only [2, 3] rfl) undef (ResL.cons (ResV.tmp rfl) (ResL.cons (ResV.tmp rfl) ResL.nil)) rfl rfl rfl rfl
 refine T.condF rfl (eq_false_of_ne_true c4) ?_
 refine T.seq ?_
 obtain ⟨t5, ht5, h0⟩ := bnd_some h0
 refine T.cutC (fun S' => S' = ⟨[(19, .val (.bool t5)), (3, .val (.int .i64 0)), (2, .val (.int .i64 0)), (0, .val (.int .u8 (a0.toNat : Int)))], [], 39⟩) (fun _ h => h) ?_ ?_
 · refine T.region ?_
   refine TL.op1 (OpR.pure rfl) rfl ?_
   refine TL.op1 (OpR.pure rfl) rfl ?_
   refine TL.op1 (OpR.pure rfl) rfl ?_
   rcases ite_some ht5 with ⟨c6, ht5⟩ | ⟨c6, ht5⟩
   rotate_left
   · refine TL.off rfl rfl rfl rfl (decide_eq_false c6) rfl rfl ?_
     refine TL.off rfl rfl rfl rfl (decide_eq_false c6) rfl rfl ?_
     refine TL.op1 (OpR.pickF rfl (decide_eq_false c6) rfl) rfl ?_
     refine TL.op1 (OpR.pure rfl) rfl ?_
     refine TL.nil ?_
     obtain rfl := Option.some.inj ht5
     exact ⟨_, Gst.only [0, 2, 3, 19] rfl, rfl⟩
   refine TL.on rfl rfl rfl rfl (decide_eq_true c6) ?_
   refine TL.op1 (OpR.pure rfl) rfl ?_
   refine TL.on rfl rfl rfl rfl (decide_eq_true c6) ?_
   refine TL.op1 (OpR.pure rfl) rfl ?_
   refine TL.op1 (OpR.pickT rfl (decide_eq_true c6) rfl) rfl ?_
   refine TL.op1 (OpR.pure rfl) rfl ?_
   refine TL.nil ?_
   obtain rfl := Option.some.inj ht5
   exact ⟨_, Gst.only [0, 2, 3, 19] rfl, rfl⟩
 rintro _ rfl
 show T X _ _ _
 rcases ite_some h0 with ⟨c7, h0⟩ | ⟨c7, h0⟩
 · refine T.condT rfl (c7) ?_
   refine T.seq ?_
   refine T.region ?_
   refine TL.op1 (OpR.pure rfl) rfl ?_
   refine TL.op1 (OpR.cast (OpR.pure rfl) (intE (ub_wrap _))) rfl ?_
   refine TL.op1 (OpR.cast (OpR.pure rfl) (intE (w64_u8 _))) rfl ?_
   refine TL.op1 (OpR.pure rfl) rfl ?_
   refine TL.op1 (OpR.pure rfl) rfl ?_
   refine TL.nil ?_
   show T X _ _ _
   refine T.ret ?_
   obtain rfl := Option.some.inj h0
   exact PostG.retP (ks := []) (Gst.only [2, 3] rfl) undef (ResL.cons (ResV.tmp rfl) (ResL.cons (ResV.tmp rfl) ResL.nil)) rfl rfl rfl rfl
 refine T.condF rfl (eq_false_of_ne_true c7) ?_
 refine T.seq ?_
 obtain ⟨t8, ht8, h0⟩ := bnd_some h0
 refine T.cutC (fun S' => S' = ⟨[(29, .val (.bool t8)), (3, .val (.int .i64 0)), (2, .val (.int .i64 0)), (0, .val (.int .u8 (a0.toNat : Int)))], [], 39⟩) (fun _ h => h) ?_ ?_
 · refine T.region ?_
   refine TL.op1 (OpR.pure rfl) rfl ?_
   refine TL.op1 (OpR.pure rfl) rfl ?_
   refine TL.op1 (OpR.pure rfl) rfl ?_
   rcases ite_some ht8 with ⟨c9, ht8⟩ | ⟨c9, ht8⟩
   rotate_left
   · refine TL.off rfl rfl rfl rfl (decide_eq_false c9) rfl rfl ?_
     refine TL.off rfl rfl rfl rfl (decide_eq_false c9) rfl rfl ?_
     refine TL.op1 (OpR.pickF rfl (decide_eq_false c9) rfl) rfl ?_
     refine TL.op1 (OpR.pure rfl) rfl ?_
     refine TL.nil ?_
     obtain rfl := Option.some.inj ht8
     exact ⟨_, Gst.only [0, 2, 3, 29] rfl, rfl⟩
   refine TL.on rfl rfl rfl rfl (decide_eq_true c9) ?_
   refine TL.op1 (OpR.pure rfl) rfl ?_
   refine TL.on rfl rfl rfl rfl (decide_eq_true c9) ?_
   refine TL.op1 (OpR.pure rfl) rfl ?_
   refine TL.op1 (OpR.pickT rfl (decide_eq_true c9) rfl) rfl ?_
   refine TL.op1 (OpR.pure rfl) rfl ?_
   refine TL.nil ?_
   obtain rfl := Option.some.inj ht8
   exact ⟨_, Gst.only [0, 2, 3, 29] rfl, rfl⟩
 rintro _ rfl
 show T X _ _ _
 rcases ite_some h0 with ⟨c10, h0⟩ | ⟨c10, h0⟩
 rotate_left
 · refine T.condF rfl (eq_false_of_ne_true c10) ?_
   refine T.skip ?_
   show T X _ _ _
   refine T.seq ?_
   refine T.region ?_
   refine TL.op1 (OpR.pure rfl) rfl ?_
   refine TL.op1 (OpR.pure rfl) rfl ?_
   refine TL.nil ?_
   show T X _ _ _
   refine T.ret ?_
   obtain rfl := Option.some.inj h0
   exact PostG.retP (ks := []) (Gst.only [2, 3] rfl) undef (ResL.cons (ResV.tmp rfl) (ResL.cons (ResV.tmp rfl) ResL.nil)) rfl rfl rfl rfl
 refine T.condT rfl (c10) ?_
 refine T.seq ?_
 refine T.region ?_
 refine TL.op1 (OpR.pure rfl) rfl ?_
 refine TL.op1 (OpR.cast (OpR.pure rfl) (intE (ub_wrap _))) rfl ?_
 refine TL.op1 (OpR.cast (OpR.pure rfl) (intE (w64_u8 _))) rfl ?_
 refine TL.op1 (OpR.pure rfl) rfl ?_
 refine TL.op1 (OpR.pure rfl) rfl ?_
 refine TL.nil ?_
 show T X _ _ _
 refine T.ret ?_
 obtain rfl := Option.some.inj h0
 exact PostG.retP (ks := []) (Gst.only [2, 3] rfl) undef (ResL.cons (ResV.tmp rfl) (ResL.cons (ResV.tmp rfl) ResL.nil)) rfl rfl rfl rfl
noncomputable def utf_scalar (a0 : Int) : Option Bool :=
  bnd (if a0 ≥ 0 then
    if a0 ≤ 1114111 then
      if a0 < 55296 then
        some true
      else
        some (decide (a0 > 57343))
    else
      some false
  else
    some false : Option Bool) fun t1 =>
  some t1
set_option maxHeartbeats 4000000 in
theorem utf_scalar_c {a0 : Int} {res : Bool} (h0 : utf_scalar a0 = some res) : CallF X 64 [.val (.int .i64 a0)] [] (fun x => .val (.bool res)) (fun x => []) := by
 unfold utf_scalar at h0
 refine CallF.mkG (X := X) Try.func64 rfl rfl Try.ntmps64 rfl rfl ?_
 refine T.seq ?_
 refine T.region ?_
 refine TL.op1 (OpR.pure rfl) rfl ?_
 refine TL.nil ?_
 show T X _ _ _
 refine T.seq ?_
 obtain ⟨t1, ht1, h0⟩ := bnd_some h0
 refine T.cutC (fun S' => S' = ⟨[(2, .val (.bool t1))], [], 17⟩) (fun _ h => h) ?_ ?_
 rotate_left
 · rintro _ rfl
   show T X _ _ _
   refine T.ret ?_
   obtain rfl := Option.some.inj h0
   exact PostG.retP (ks := []) (Gst.only [2] rfl) undef (ResL.cons (ResV.tmp rfl) ResL.nil) rfl rfl rfl rfl
 refine T.region ?_
 refine TL.op1 (OpR.pure rfl) rfl ?_
 refine TL.op1 (OpR.pure rfl) rfl ?_
 refine TL.op1 (OpR.pure rfl) rfl ?_
 rcases ite_some ht1 with ⟨c2, ht1⟩ | ⟨c2, ht1⟩
 rotate_left
 · refine TL.off rfl rfl rfl rfl (decide_eq_false c2) rfl rfl ?_
   refine TL.off rfl rfl rfl rfl (decide_eq_false c2) rfl rfl ?_
   refine TL.op1 (OpR.pickF rfl (decide_eq_false c2) rfl) rfl ?_
   refine TL.op1 (OpR.pure rfl) rfl ?_
   refine TL.off rfl rfl rfl rfl rfl rfl rfl ?_
   refine TL.off rfl rfl rfl rfl rfl rfl rfl ?_
   refine TL.off rfl rfl rfl rfl rfl rfl rfl ?_
   refine TL.offU rfl rfl rfl rfl rfl rfl ?_
   refine TL.offU rfl rfl rfl rfl rfl rfl ?_
   refine TL.off rfl rfl rfl rfl rfl rfl rfl ?_
   refine TL.op1 (OpR.pickF rfl rfl rfl) rfl ?_
   refine TL.op1 (OpR.pure rfl) rfl ?_
   refine TL.nil ?_
   obtain rfl := Option.some.inj ht1
   exact ⟨_, Gst.only [2] rfl, rfl⟩
 refine TL.on rfl rfl rfl rfl (decide_eq_true c2) ?_
 refine TL.op1 (OpR.pure rfl) rfl ?_
 refine TL.on rfl rfl rfl rfl (decide_eq_true c2) ?_
 refine TL.op1 (OpR.pure rfl) rfl ?_
 refine TL.op1 (OpR.pickT rfl (decide_eq_true c2) rfl) rfl ?_
 refine TL.op1 (OpR.pure rfl) rfl ?_
 rcases ite_some ht1 with ⟨c3, ht1⟩ | ⟨c3, ht1⟩
 rotate_left
 · refine TL.off rfl rfl rfl rfl (decide_eq_false c3) rfl rfl ?_
   refine TL.off rfl rfl rfl rfl (decide_eq_false c3) rfl rfl ?_
   refine TL.off rfl rfl rfl rfl (decide_eq_false c3) rfl rfl ?_
   refine TL.offU rfl rfl rfl rfl rfl rfl ?_
   refine TL.offU rfl rfl rfl rfl rfl rfl ?_
   refine TL.off rfl rfl rfl rfl (decide_eq_false c3) rfl rfl ?_
   refine TL.op1 (OpR.pickF rfl (decide_eq_false c3) rfl) rfl ?_
   refine TL.op1 (OpR.pure rfl) rfl ?_
   refine TL.nil ?_
   obtain rfl := Option.some.inj ht1
   exact ⟨_, Gst.only [2] rfl, rfl⟩
 refine TL.on rfl rfl rfl rfl (decide_eq_true c3) ?_
 refine TL.op1 (OpR.pure rfl) rfl ?_
 refine TL.on rfl rfl rfl rfl (decide_eq_true c3) ?_
 refine TL.op1 (OpR.pure rfl) rfl ?_
 refine TL.on rfl rfl rfl rfl (decide_eq_true c3) ?_
 refine TL.op1 (OpR.pure rfl) rfl ?_
 rcases ite_some ht1 with ⟨c4, ht1⟩ | ⟨c4, ht1⟩
 · refine TL.off rfl rfl rfl rfl (decide_eq_true c4) rfl rfl ?_
   refine TL.off rfl rfl rfl rfl (decide_eq_true c4) rfl rfl ?_
   refine TL.on rfl rfl rfl rfl (decide_eq_true c3) ?_
   refine TL.op1 (OpR.pickT rfl (decide_eq_true c4) rfl) rfl ?_
   refine TL.op1 (OpR.pickT rfl (decide_eq_true c3) rfl) rfl ?_
   refine TL.op1 (OpR.pure rfl) rfl ?_
   refine TL.nil ?_
   obtain rfl := Option.some.inj ht1
   exact ⟨_, Gst.only [2] rfl, rfl⟩
 refine TL.on rfl rfl rfl rfl (decide_eq_false c4) ?_
 refine TL.op1 (OpR.pure rfl) rfl ?_
 refine TL.on rfl rfl rfl rfl (decide_eq_false c4) ?_
 refine TL.op1 (OpR.pure rfl) rfl ?_
 refine TL.on rfl rfl rfl rfl (decide_eq_true c3) ?_
 refine TL.op1 (OpR.pickF rfl (decide_eq_false c4) rfl) rfl ?_
 refine TL.op1 (OpR.pickT rfl (decide_eq_true c3) rfl) rfl ?_
 refine TL.op1 (OpR.pure rfl) rfl ?_
 refine TL.nil ?_
 obtain rfl := Option.some.inj ht1
 exact ⟨_, Gst.only [2] rfl, rfl⟩
noncomputable def utf_least (a0 : Int) : Option Int :=
  if a0 = 1 then
    some 128
  else
    if a0 = 2 then
      some 2048
    else
      if a0 = 3 then
        some 65536
      else
        some 0
set_option maxHeartbeats 4000000 in
theorem utf_least_c {a0 : Int} {res : Int} (h0 : utf_least a0 = some res) : CallF X 77 [.val (.int .i64 a0)] [] (fun x => .val (.int .i64 res)) (fun x => []) := by
 unfold utf_least at h0
 refine CallF.mkG (X := X) Try.func77 rfl rfl Try.ntmps77 rfl rfl ?_
 refine T.seq ?_
 refine T.region ?_
 refine TL.op1 (OpR.pure rfl) rfl ?_
 refine TL.nil ?_
 show T X _ _ _
 refine T.seq ?_
 refine T.seq ?_
 refine T.region ?_
 refine TL.op1 (OpR.pure rfl) rfl ?_
 refine TL.nil ?_
 show T X _ _ _
 refine T.block ?_
 refine T.seq ?_
 refine T.region ?_
 refine TL.op1 (OpR.pure rfl) rfl ?_
 refine TL.op1 (OpR.pure rfl) rfl ?_
 refine TL.nil ?_
 show T X _ _ _
 rcases ite_some h0 with ⟨c1, h0⟩ | ⟨c1, h0⟩
 · refine T.condT rfl (beq_iff_eq.2 c1) ?_
   refine T.seq ?_
   refine T.region ?_
   refine TL.op1 (OpR.pure rfl) rfl ?_
   refine TL.nil ?_
   show T X _ _ _
   refine T.ret ?_
   obtain rfl := Option.some.inj h0
   exact PostG.retP (ks := []) (Gst.only [2] rfl) undef (ResL.cons (ResV.tmp rfl) ResL.nil) rfl rfl rfl rfl
 refine T.condF rfl (beq_eq_false_iff_ne.2 c1) ?_
 refine T.seq ?_
 refine T.region ?_
 refine TL.op1 (OpR.pure rfl) rfl ?_
 refine TL.op1 (OpR.pure rfl) rfl ?_
 refine TL.nil ?_
 show T X _ _ _
 rcases ite_some h0 with ⟨c2, h0⟩ | ⟨c2, h0⟩
 · refine T.condT rfl (beq_iff_eq.2 c2) ?_
   refine T.seq ?_
   refine T.region ?_
   refine TL.op1 (OpR.pure rfl) rfl ?_
   refine TL.nil ?_
   show T X _ _ _
   refine T.ret ?_
   obtain rfl := Option.some.inj h0
   exact PostG.retP (ks := []) (Gst.only [2] rfl) undef (ResL.cons (ResV.tmp rfl) ResL.nil) rfl rfl rfl rfl
 refine T.condF rfl (beq_eq_false_iff_ne.2 c2) ?_
 refine T.seq ?_
 refine T.region ?_
 refine TL.op1 (OpR.pure rfl) rfl ?_
 refine TL.op1 (OpR.pure rfl) rfl ?_
 refine TL.nil ?_
 show T X _ _ _
 rcases ite_some h0 with ⟨c3, h0⟩ | ⟨c3, h0⟩
 · refine T.condT rfl (beq_iff_eq.2 c3) ?_
   refine T.seq ?_
   refine T.region ?_
   refine TL.op1 (OpR.pure rfl) rfl ?_
   refine TL.nil ?_
   show T X _ _ _
   refine T.ret ?_
   obtain rfl := Option.some.inj h0
   exact PostG.retP (ks := []) (Gst.only [2] rfl) undef (ResL.cons (ResV.tmp rfl) ResL.nil) rfl rfl rfl rfl
 refine T.condF rfl (beq_eq_false_iff_ne.2 c3) ?_
 refine T.skip ?_
 show T X _ _ _
 refine T.seq ?_
 refine T.region ?_
 refine TL.op1 (OpR.pure rfl) rfl ?_
 refine TL.nil ?_
 show T X _ _ _
 refine T.ret ?_
 obtain rfl := Option.some.inj h0
 exact PostG.retP (ks := []) (Gst.only [2] rfl) undef (ResL.cons (ResV.tmp rfl) ResL.nil) rfl rfl rfl rfl
noncomputable def utf_decode.l1 (x6 : List UInt8) (s9 : Int × Int) : Option (Lp (Int × Int) (Ex Int (Int × Int))) :=
  if s9.2 < (x6.length : Int) then
    bnd (idx x6 s9.2) fun x18 =>
    if ((ub (iand .u8 (x18.toNat : Int) 192)).toNat : Int) = 128 then
      bnd (some (w64 (ior .i64 (w64 (ishl .i64 s9.1 6)) ((ub (iand .u8 (x18.toNat : Int) 63)).toNat : Int)))) fun x20 =>
      some (Lp.next (x20, w64 (s9.2 + 1)))
    else
      some (Lp.done (Ex.ret ((-1), 1)))
  else
    some (Lp.done (Ex.brk s9.1))
noncomputable def utf_decode (a0 : List UInt8) : Option (Int × Int) :=
  bnd (idx a0 0) fun x1 =>
  bnd (utf_lead x1) fun x2 =>
  bnd (if x2.1 < 0 then
    some true
  else
    some (decide (x2.1 ≥ (a0.length : Int))) : Option Bool) fun t3 =>
  if t3 = true then
    some ((-1), 1)
  else
    bnd (cut a0 1 (w64 (x2.1 + 1))) fun x6 =>
    bnd (loop (utf_decode.l1 x6) (x2.2, 0) : Option (Ex Int (Int × Int))) fun t7 => match t7 with
      | .brk u8 =>
        bnd (bnd (utf_scalar u8) fun x22 =>
        if x22 = true then
          bnd (utf_least x2.1) fun x24 =>
          some (decide (u8 < x24))
        else
          some true : Option Bool) fun t21 =>
        if t21 = true then
          some ((-1), 1)
        else
          some (u8, w64 (x2.1 + 1))
      | .ret u8 => some u8
set_option maxHeartbeats 4000000 in
theorem utf_decode_c {a0 : List UInt8} {res : Int × Int} (h0 : utf_decode a0 = some res) : CallF X 74 [.sl 1 (List.map byteD a0)] [] (fun x => .tup [.val (.int .i64 res.1), .val (.int .i64 res.2)]) (fun x => []) := by
 unfold utf_decode at h0
 refine CallF.mkG (X := X) Try.func74 rfl rfl Try.ntmps74 rfl rfl ?_
 refine T.seq ?_
 refine T.region ?_
 refine TL.op1 (OpR.pure rfl) rfl ?_
 refine TL.op1 (OpR.pure rfl) rfl ?_
 refine TL.nil ?_
 show T X _ _ _
 refine T.seq ?_
 refine T.region ?_
 refine TL.op1 (OpR.pure rfl) rfl ?_
 obtain ⟨x1, hx1, h0⟩ := bnd_some h0
 refine TL.op1 (OpR.indexM byteD hx1 rfl rfl rfl rfl rfl) rfl ?_
 refine TL.op1 (OpR.pure rfl) rfl ?_
 obtain ⟨x2, hx2, h0⟩ := bnd_some h0
 refine TL.op1 (OpR.call0 fn76 (utf_lead_c hx2) rfl) rfl ?_
 refine TL.op1 (OpR.pure rfl) rfl ?_
 refine TL.op1 (OpR.pure rfl) rfl ?_
 refine TL.op1 (OpR.pure rfl) rfl ?_
 refine TL.op1 (OpR.pure rfl) rfl ?_
 refine TL.op1 (OpR.pure rfl) rfl ?_
 refine TL.nil ?_
 show T X _ _ _
 refine T.seq ?_
 refine T.seq ?_
 obtain ⟨t3, ht3, h0⟩ := bnd_some h0
 refine T.cutC (fun S' => S' = ⟨[(22, .val (.bool t3)), (5, .val (.int .i64 x2.2)), (4, .val (.int .i64 x2.1)), (3, .val (.int .i64 0)), (2, .val (.int .i64 0)), (0, .sl 1 (List.map byteD a0))], [], 54⟩) (fun _ h => h) ?_ ?_
 · refine T.region ?_
   refine TL.op1 (OpR.pure rfl) rfl ?_
   refine TL.op1 (OpR.pure rfl) rfl ?_
   refine TL.op1 (OpR.pure rfl) rfl ?_
   rcases ite_some ht3 with ⟨c4, ht3⟩ | ⟨c4, ht3⟩
   · refine TL.off rfl rfl rfl rfl (decide_eq_true c4) rfl rfl ?_
     refine TL.off rfl rfl rfl rfl (decide_eq_true c4) rfl rfl ?_
     refine TL.off rfl rfl rfl rfl (decide_eq_true c4) rfl rfl ?_
     refine TL.off rfl rfl rfl rfl (decide_eq_true c4) rfl rfl ?_
     refine TL.op1 (OpR.pickT rfl (decide_eq_true c4) rfl) rfl ?_
     refine TL.nil ?_
     obtain rfl := Option.some.inj ht3
     exact ⟨_, Gst.only [0, 2, 3, 4, 5, 22] rfl, rfl⟩
   refine TL.on rfl rfl rfl rfl (decide_eq_false c4) ?_
   refine TL.op1 (OpR.pure rfl) rfl ?_
   refine TL.on rfl rfl rfl rfl (decide_eq_false c4) ?_
   refine TL.op1 (OpR.pure rfl) rfl ?_
   refine TL.on rfl rfl rfl rfl (decide_eq_false c4) ?_
   refine TL.op1 (OpR.cast (OpR.pure rfl) (intE (lenM _ _))) rfl ?_
   refine TL.on rfl rfl rfl rfl (decide_eq_false c4) ?_
   refine TL.op1 (OpR.pure rfl) rfl ?_
   refine TL.op1 (OpR.pickF rfl (decide_eq_false c4) rfl) rfl ?_
   refine TL.nil ?_
   obtain rfl := Option.some.inj ht3
   exact ⟨_, Gst.only [0, 2, 3, 4, 5, 22] rfl, rfl⟩
 rintro _ rfl
 show T X _ _ _
 rcases ite_some h0 with ⟨c5, h0⟩ | ⟨c5, h0⟩
 · refine T.condT rfl (c5) ?_
   refine T.seq ?_
   refine T.region ?_
   refine TL.op1 (OpR.pure rfl) rfl ?_
   refine TL.op1 (OpR.pure rfl) rfl ?_
   refine TL.nil ?_
   show T X _ _ _
   refine T.ret ?_
   obtain rfl := Option.some.inj h0
   exact PostG.retP (ks := []) (Gst.only [2, 3] rfl) undef (ResL.cons (ResV.tmp rfl) (ResL.cons (ResV.tmp rfl) ResL.nil)) rfl rfl rfl rfl
 refine T.condF rfl (eq_false_of_ne_true c5) ?_
 refine T.skip ?_
 show T X _ _ _
 refine T.seq ?_
 refine T.seq ?_
 refine T.region ?_
 refine TL.op1 (OpR.pure rfl) rfl ?_
 refine TL.op1 (OpR.pure rfl) rfl ?_
 refine TL.op1 (OpR.pure rfl) rfl ?_
 obtain ⟨x6, hx6, h0⟩ := bnd_some h0
 refine TL.op1 (OpR.sliceM (sz := 1) byteD hx6 rfl rfl rfl rfl (BdM.some rfl) (BdM.some rfl) rfl) rfl ?_
 refine TL.op1 (OpR.cast (OpR.pure rfl) (intE (lenM _ _))) rfl ?_
 refine TL.op1 (OpR.pure rfl) rfl ?_
 refine TL.nil ?_
 show T X _ _ _
 obtain ⟨t7, ht7, h0⟩ := bnd_some h0
 refine T.cutC (fun S' => ∃ u8, t7 = Ex.brk u8 ∧ S' = ⟨[(5, .val (.int .i64 u8)), (4, .val (.int .i64 x2.1)), (3, .val (.int .i64 0)), (2, .val (.int .i64 0))], [], 54⟩) (fun _ h => h) ?_ ?_
 rotate_left
 · rintro _ ⟨u8, rfl, rfl⟩
   show T X _ _ _
   refine T.seq ?_
   refine T.seq ?_
   obtain ⟨t21, ht21, h0⟩ := bnd_some h0
   refine T.cutC (fun S' => S' = ⟨[(50, .val (.bool t21)), (5, .val (.int .i64 u8)), (4, .val (.int .i64 x2.1)), (3, .val (.int .i64 0)), (2, .val (.int .i64 0))], [], 54⟩) (fun _ h => h) ?_ ?_
   rotate_left
   · rintro _ rfl
     show T X _ _ _
     rcases ite_some h0 with ⟨c25, h0⟩ | ⟨c25, h0⟩
     · refine T.condT rfl (c25) ?_
       refine T.seq ?_
       refine T.region ?_
       refine TL.op1 (OpR.pure rfl) rfl ?_
       refine TL.op1 (OpR.pure rfl) rfl ?_
       refine TL.nil ?_
       show T X _ _ _
       refine T.ret ?_
       obtain rfl := Option.some.inj h0
       exact PostG.retP (ks := []) (Gst.only [2, 3] rfl) undef (ResL.cons (ResV.tmp rfl) (ResL.cons (ResV.tmp rfl) ResL.nil)) rfl rfl rfl rfl
     refine T.condF rfl (eq_false_of_ne_true c25) ?_
     refine T.skip ?_
     show T X _ _ _
     refine T.seq ?_
     refine T.region ?_
     refine TL.op1 (OpR.pure rfl) rfl ?_
     refine TL.op1 (OpR.pure rfl) rfl ?_
     refine TL.op1 (OpR.pure rfl) rfl ?_
     refine TL.op1 (OpR.pure rfl) rfl ?_
     refine TL.op1 (OpR.pure rfl) rfl ?_
     refine TL.nil ?_
     show T X _ _ _
     refine T.ret ?_
     obtain rfl := Option.some.inj h0
     exact PostG.retP (ks := []) (Gst.only [2, 3] rfl) undef (ResL.cons (ResV.tmp rfl) (ResL.cons (ResV.tmp rfl) ResL.nil)) rfl rfl rfl rfl
   refine T.region ?_
   refine TL.op1 (OpR.pure rfl) rfl ?_
   obtain ⟨x22, hx22, ht21⟩ := bnd_some ht21
   refine TL.op1 (OpR.call0 fn64 (utf_scalar_c hx22) rfl) rfl ?_
   refine TL.op1 (OpR.pure rfl) rfl ?_
   refine TL.op1 (OpR.pure rfl) rfl ?_
   rcases ite_some ht21 with ⟨c23, ht21⟩ | ⟨c23, ht21⟩
   rotate_left
   · refine TL.off rfl rfl rfl rfl (not_f (eq_false_of_ne_true c23)) rfl rfl ?_
     refine TL.off rfl rfl rfl rfl (not_f (eq_false_of_ne_true c23)) rfl rfl ?_
     refine TL.off rfl rfl rfl rfl (not_f (eq_false_of_ne_true c23)) rfl rfl ?_
     refine TL.off rfl rfl rfl rfl (not_f (eq_false_of_ne_true c23)) rfl rfl ?_
     refine TL.op1 (OpR.pickT rfl (not_f (eq_false_of_ne_true c23)) rfl) rfl ?_
     refine TL.nil ?_
     obtain rfl := Option.some.inj ht21
     exact ⟨_, Gst.only [2, 3, 4, 5, 50] rfl, rfl⟩
   refine TL.on rfl rfl rfl rfl (not_t (c23)) ?_
   refine TL.op1 (OpR.pure rfl) rfl ?_
   refine TL.on rfl rfl rfl rfl (not_t (c23)) ?_
   refine TL.op1 (OpR.pure rfl) rfl ?_
   refine TL.on rfl rfl rfl rfl (not_t (c23)) ?_
   obtain ⟨x24, hx24, ht21⟩ := bnd_some ht21
   refine TL.op1 (OpR.call0 fn77 (utf_least_c hx24) rfl) rfl ?_
   refine TL.on rfl rfl rfl rfl (not_t (c23)) ?_
   refine TL.op1 (OpR.pure rfl) rfl ?_
   refine TL.op1 (OpR.pickF rfl (not_t (c23)) rfl) rfl ?_
   refine TL.nil ?_
   obtain rfl := Option.some.inj ht21
   exact ⟨_, Gst.only [2, 3, 4, 5, 50] rfl, rfl⟩
 refine T.block ?_
 obtain ⟨n10, n15⟩ := loop_some ht7
 refine T.loop (fun n S' => ∃ S'', Gst S' S'' ∧ ∃ s9 : Int × Int, S'' = ⟨[(28, .val (.int .i64 s9.2)), (27, .val (.int .i64 (x6.length : Int))), (26, .sl 1 (List.map byteD x6)), (5, .val (.int .i64 s9.1)), (4, .val (.int .i64 x2.1)), (3, .val (.int .i64 0)), (2, .val (.int .i64 0))], [], 54⟩ ∧ iter (utf_decode.l1 x6) n s9 = some t7) n10 ?_ ?_
 · exact ⟨_, Gst.only [2, 3, 4, 5, 26, 27, 28] rfl, (x2.2, 0), rfl, n15⟩
 rintro n10 _ ⟨_, g, s9, rfl, i14⟩
 refine T.ghost g ?_
 obtain ⟨m11, q12, rfl, q13, i14⟩ := iter_succ i14
 unfold utf_decode.l1 at q13
 refine T.seq ?_
 refine T.region ?_
 refine TL.op1 (OpR.pure rfl) rfl ?_
 refine TL.nil ?_
 show T X _ _ _
 refine T.seq ?_
 rcases ite_some q13 with ⟨c17, q13⟩ | ⟨c17, q13⟩
 rotate_left
 · refine T.condF rfl (decide_eq_false c17) ?_
   refine T.exit ?_
   obtain rfl := Option.some.inj q13
   obtain rfl : _ = _ := i14
   exact ⟨_, Gst.only [2, 3, 4, 5] rfl, _, rfl, rfl⟩
 refine T.condT rfl (decide_eq_true c17) ?_
 refine T.skip ?_
 show T X _ _ _
 refine T.seq ?_
 refine T.block ?_
 refine T.seq ?_
 refine T.region ?_
 obtain ⟨x18, hx18, q13⟩ := bnd_some q13
 refine TL.op1 (OpR.indexM byteD hx18 rfl rfl rfl rfl rfl) rfl ?_
 refine TL.op1 (OpR.pure rfl) rfl ?_
 refine TL.op1 (OpR.pure rfl) rfl ?_
 refine TL.nil ?_
 show T X _ _ _
 refine T.seq ?_
 refine T.seq ?_
 refine T.region ?_
 refine TL.op1 (OpR.pure rfl) rfl ?_
 refine TL.op1 (OpR.cast (OpR.pure rfl) (intE (ub_wrap _))) rfl ?_
 refine TL.op1 (OpR.pure rfl) rfl ?_
 refine TL.nil ?_
 show T X _ _ _
 rcases ite_some q13 with ⟨c19, q13⟩ | ⟨c19, q13⟩
 rotate_left
 · refine T.condT rfl (not_f (beq_eq_false_iff_ne.2 c19)) ?_
   refine T.seq ?_
   refine T.region ?_
   refine TL.op1 (OpR.pure rfl) rfl ?_
   refine TL.op1 (OpR.pure rfl) rfl ?_
   refine TL.nil ?_
   show T X _ _ _
   refine T.ret ?_
   obtain rfl := Option.some.inj q13
   obtain rfl : _ = _ := i14
   obtain rfl := Option.some.inj h0
   exact PostG.retP (ks := []) (Gst.only [2, 3] rfl) undef (ResL.cons (ResV.tmp rfl) (ResL.cons (ResV.tmp rfl) ResL.nil)) rfl rfl rfl rfl
 refine T.condF rfl (not_t (beq_iff_eq.2 c19)) ?_
 refine T.skip ?_
 show T X _ _ _
 refine T.region ?_
 refine TL.op1 (OpR.pure rfl) rfl ?_
 refine TL.op1 (OpR.pure rfl) rfl ?_
 refine TL.op1 (OpR.pure rfl) rfl ?_
 refine TL.op1 (OpR.cast (OpR.pure rfl) (intE (ub_wrap _))) rfl ?_
 refine TL.op1 (OpR.cast (OpR.pure rfl) (intE (w64_u8 _))) rfl ?_
 obtain ⟨x20, hx20, q13⟩ := bnd_some q13
 refine TL.op1 (OpR.cast (OpR.pure rfl) (intE (Option.some.inj hx20))) rfl ?_
 refine TL.op1 (OpR.pure rfl) rfl ?_
 refine TL.nil ?_
 show T X _ _ _
 refine T.region ?_
 refine TL.op1 (OpR.pure rfl) rfl ?_
 refine TL.op1 (OpR.pure rfl) rfl ?_
 refine TL.nil ?_
 obtain rfl := Option.some.inj q13
 exact ⟨m11, Nat.lt_succ_self _, _, Gst.only [2, 3, 4, 5, 26, 27, 28] rfl, (x20, w64 (s9.2 + 1)), rfl, i14⟩
noncomputable def utf_Size (a0 : List UInt8) (a1 : Int) : Option Int :=
  bnd (utf_within a0 a1) fun x1 =>
  if x1 = true then
    bnd (cut a0 a1 (a0.length : Int)) fun x3 =>
    bnd (utf_decode x3) fun x4 =>
    some x4.2
  else
    some 0
set_option maxHeartbeats 4000000 in
theorem utf_Size_c {a0 : List UInt8} {a1 : Int} {res : Int} (h0 : utf_Size a0 a1 = some res) : CallF X 69 [.sl 1 (List.map byteD a0), .val (.int .i64 a1)] [] (fun x => .val (.int .i64 res)) (fun x => []) := by
 unfold utf_Size at h0
 refine CallF.mkG (X := X) Try.func69 rfl rfl Try.ntmps69 rfl rfl ?_
 refine T.seq ?_
 refine T.region ?_
 refine TL.op1 (OpR.pure rfl) rfl ?_
 refine TL.nil ?_
 show T X _ _ _
 refine T.seq ?_
 refine T.seq ?_
 refine T.region ?_
 refine TL.op1 (OpR.pure rfl) rfl ?_
 refine TL.op1 (OpR.pure rfl) rfl ?_
 obtain ⟨x1, hx1, h0⟩ := bnd_some h0
 refine TL.op1 (OpR.call0 fn73 (utf_within_c hx1) rfl) rfl ?_
 refine TL.op1 (OpR.pure rfl) rfl ?_
 refine TL.nil ?_
 show T X _ _ _
 rcases ite_some h0 with ⟨c2, h0⟩ | ⟨c2, h0⟩
 rotate_left
 · refine T.condT rfl (not_f (eq_false_of_ne_true c2)) ?_
   refine T.seq ?_
   refine T.region ?_
   refine TL.op1 (OpR.pure rfl) rfl ?_
   refine TL.nil ?_
   show T X _ _ _
   refine T.ret ?_
   obtain rfl := Option.some.inj h0
   exact PostG.retP (ks := []) (Gst.only [4] rfl) undef (ResL.cons (ResV.tmp rfl) ResL.nil) rfl rfl rfl rfl
 refine T.condF rfl (not_t (c2)) ?_
 refine T.skip ?_
 show T X _ _ _
 refine T.seq ?_
 refine T.region ?_
 refine TL.op1 (OpR.pure rfl) rfl ?_
 refine TL.op1 (OpR.pure rfl) rfl ?_
 obtain ⟨x3, hx3, h0⟩ := bnd_some h0
 refine TL.op1 (OpR.sliceM (sz := 1) byteD hx3 rfl rfl rfl rfl (BdM.some rfl) BdM.none rfl) rfl ?_
 obtain ⟨x4, hx4, h0⟩ := bnd_some h0
 refine TL.op1 (OpR.call0 fn74 (utf_decode_c hx4) rfl) rfl ?_
 refine TL.op1 (OpR.pure rfl) rfl ?_
 refine TL.op1 (OpR.pure rfl) rfl ?_
 refine TL.op1 (OpR.pure rfl) rfl ?_
 refine TL.op1 (OpR.pure rfl) rfl ?_
 refine TL.op1 (OpR.pure rfl) rfl ?_
 refine TL.nil ?_
 show T X _ _ _
 refine T.seq ?_
 refine T.region ?_
 refine TL.op1 (OpR.pure rfl) rfl ?_
 refine TL.op1 (OpR.pure rfl) rfl ?_
 refine TL.nil ?_
 show T X _ _ _
 refine T.ret ?_
 obtain rfl := Option.some.inj h0
 exact PostG.retP (ks := []) (Gst.only [4] rfl) undef (ResL.cons (ResV.tmp rfl) ResL.nil) rfl rfl rfl rfl
noncomputable def utf_Bound.l1 (a0 : List UInt8) (a1 : Int) (s6 : Int) : Option (Lp Int (Ex Unit Bool)) :=
  bnd (if s6 < 4 then
    some (decide (s6 ≤ a1))
  else
    some false : Option Bool) fun t14 =>
  if t14 = true then
    bnd (utf_Size a0 (w64 (a1 - s6))) fun x17 =>
    if x17 > s6 then
      some (Lp.done (Ex.ret false))
    else
      some (Lp.next (w64 (s6 + 1)))
  else
    some (Lp.done (Ex.brk ()))
noncomputable def utf_Bound (a0 : List UInt8) (a1 : Int) : Option Bool :=
  bnd (if a1 < 0 then
    some true
  else
    some (decide (a1 > (a0.length : Int))) : Option Bool) fun t1 =>
  if t1 = true then
    some false
  else
    bnd (loop (utf_Bound.l1 a0 a1) 1 : Option (Ex Unit Bool)) fun t4 => match t4 with
      | .brk u5 =>
        some true
      | .ret u5 => some u5
set_option maxHeartbeats 4000000 in
theorem utf_Bound_c {a0 : List UInt8} {a1 : Int} {res : Bool} (h0 : utf_Bound a0 a1 = some res) : CallF X 53 [.sl 1 (List.map byteD a0), .val (.int .i64 a1)] [] (fun x => .val (.bool res)) (fun x => []) := by
 unfold utf_Bound at h0
 refine CallF.mkG (X := X) Try.func53 rfl rfl Try.ntmps53 rfl rfl ?_
 refine T.seq ?_
 refine T.region ?_
 refine TL.op1 (OpR.pure rfl) rfl ?_
 refine TL.nil ?_
 show T X _ _ _
 refine T.seq ?_
 refine T.seq ?_
 obtain ⟨t1, ht1, h0⟩ := bnd_some h0
 refine T.cutC (fun S' => S' = ⟨[(13, .val (.bool t1)), (4, .val (.bool false)), (1, .val (.int .i64 a1)), (0, .sl 1 (List.map byteD a0))], [], 30⟩) (fun _ h => h) ?_ ?_
 · refine T.region ?_
   refine TL.op1 (OpR.pure rfl) rfl ?_
   refine TL.op1 (OpR.pure rfl) rfl ?_
   refine TL.op1 (OpR.pure rfl) rfl ?_
   rcases ite_some ht1 with ⟨c2, ht1⟩ | ⟨c2, ht1⟩
   · refine TL.off rfl rfl rfl rfl (decide_eq_true c2) rfl rfl ?_
     refine TL.off rfl rfl rfl rfl (decide_eq_true c2) rfl rfl ?_
     refine TL.off rfl rfl rfl rfl (decide_eq_true c2) rfl rfl ?_
     refine TL.off rfl rfl rfl rfl (decide_eq_true c2) rfl rfl ?_
     refine TL.op1 (OpR.pickT rfl (decide_eq_true c2) rfl) rfl ?_
     refine TL.nil ?_
     obtain rfl := Option.some.inj ht1
     exact ⟨_, Gst.only [0, 1, 4, 13] rfl, rfl⟩
   refine TL.on rfl rfl rfl rfl (decide_eq_false c2) ?_
   refine TL.op1 (OpR.pure rfl) rfl ?_
   refine TL.on rfl rfl rfl rfl (decide_eq_false c2) ?_
   refine TL.op1 (OpR.pure rfl) rfl ?_
   refine TL.on rfl rfl rfl rfl (decide_eq_false c2) ?_
   refine TL.op1 (OpR.cast (OpR.pure rfl) (intE (lenM _ _))) rfl ?_
   refine TL.on rfl rfl rfl rfl (decide_eq_false c2) ?_
   refine TL.op1 (OpR.pure rfl) rfl ?_
   refine TL.op1 (OpR.pickF rfl (decide_eq_false c2) rfl) rfl ?_
   refine TL.nil ?_
   obtain rfl := Option.some.inj ht1
   exact ⟨_, Gst.only [0, 1, 4, 13] rfl, rfl⟩
 rintro _ rfl
 show T X _ _ _
 rcases ite_some h0 with ⟨c3, h0⟩ | ⟨c3, h0⟩
 · refine T.condT rfl (c3) ?_
   refine T.seq ?_
   refine T.region ?_
   refine TL.op1 (OpR.pure rfl) rfl ?_
   refine TL.nil ?_
   show T X _ _ _
   refine T.ret ?_
   obtain rfl := Option.some.inj h0
   exact PostG.retP (ks := []) (Gst.only [4] rfl) undef (ResL.cons (ResV.tmp rfl) ResL.nil) rfl rfl rfl rfl
 refine T.condF rfl (eq_false_of_ne_true c3) ?_
 refine T.skip ?_
 show T X _ _ _
 refine T.seq ?_
 refine T.seq ?_
 refine T.region ?_
 refine TL.op1 (OpR.pure rfl) rfl ?_
 refine TL.nil ?_
 show T X _ _ _
 obtain ⟨t4, ht4, h0⟩ := bnd_some h0
 refine T.cutC (fun S' => ∃ u5, t4 = Ex.brk u5 ∧ S' = ⟨[(4, .val (.bool false))], [], 30⟩) (fun _ h => h) ?_ ?_
 rotate_left
 · rintro _ ⟨u5, rfl, rfl⟩
   show T X _ _ _
   refine T.seq ?_
   refine T.region ?_
   refine TL.op1 (OpR.pure rfl) rfl ?_
   refine TL.nil ?_
   show T X _ _ _
   refine T.ret ?_
   obtain rfl := Option.some.inj h0
   exact PostG.retP (ks := []) (Gst.only [4] rfl) undef (ResL.cons (ResV.tmp rfl) ResL.nil) rfl rfl rfl rfl
 refine T.block ?_
 obtain ⟨n7, n12⟩ := loop_some ht4
 refine T.loop (fun n S' => ∃ S'', Gst S' S'' ∧ ∃ s6 : Int, S'' = ⟨[(5, .val (.int .i64 s6)), (4, .val (.bool false)), (1, .val (.int .i64 a1)), (0, .sl 1 (List.map byteD a0))], [], 30⟩ ∧ iter (utf_Bound.l1 a0 a1) n s6 = some t4) n7 ?_ ?_
 · exact ⟨_, Gst.only [0, 1, 4, 5] rfl, 1, rfl, n12⟩
 rintro n7 _ ⟨_, g, s6, rfl, i11⟩
 refine T.ghost g ?_
 obtain ⟨m8, q9, rfl, q10, i11⟩ := iter_succ i11
 unfold utf_Bound.l1 at q10
 refine T.seq ?_
 refine T.seq ?_
 obtain ⟨t14, ht14, q10⟩ := bnd_some q10
 refine T.cutC (fun S' => S' = ⟨[(20, .val (.bool t14)), (5, .val (.int .i64 s6)), (4, .val (.bool false)), (1, .val (.int .i64 a1)), (0, .sl 1 (List.map byteD a0))], [], 30⟩) (fun _ h => h) ?_ ?_
 · refine T.region ?_
   refine TL.op1 (OpR.pure rfl) rfl ?_
   refine TL.op1 (OpR.pure rfl) rfl ?_
   refine TL.op1 (OpR.pure rfl) rfl ?_
   rcases ite_some ht14 with ⟨c15, ht14⟩ | ⟨c15, ht14⟩
   rotate_left
   · refine TL.off rfl rfl rfl rfl (decide_eq_false c15) rfl rfl ?_
     refine TL.off rfl rfl rfl rfl (decide_eq_false c15) rfl rfl ?_
     refine TL.off rfl rfl rfl rfl (decide_eq_false c15) rfl rfl ?_
     refine TL.op1 (OpR.pickF rfl (decide_eq_false c15) rfl) rfl ?_
     refine TL.nil ?_
     obtain rfl := Option.some.inj ht14
     exact ⟨_, Gst.only [0, 1, 4, 5, 20] rfl, rfl⟩
   refine TL.on rfl rfl rfl rfl (decide_eq_true c15) ?_
   refine TL.op1 (OpR.pure rfl) rfl ?_
   refine TL.on rfl rfl rfl rfl (decide_eq_true c15) ?_
   refine TL.op1 (OpR.pure rfl) rfl ?_
   refine TL.on rfl rfl rfl rfl (decide_eq_true c15) ?_
   refine TL.op1 (OpR.pure rfl) rfl ?_
   refine TL.op1 (OpR.pickT rfl (decide_eq_true c15) rfl) rfl ?_
   refine TL.nil ?_
   obtain rfl := Option.some.inj ht14
   exact ⟨_, Gst.only [0, 1, 4, 5, 20] rfl, rfl⟩
 rintro _ rfl
 show T X _ _ _
 rcases ite_some q10 with ⟨c16, q10⟩ | ⟨c16, q10⟩
 rotate_left
 · refine T.condF rfl (eq_false_of_ne_true c16) ?_
   refine T.exit ?_
   obtain rfl := Option.some.inj q10
   obtain rfl : _ = _ := i11
   exact ⟨_, Gst.only [4] rfl, _, rfl, rfl⟩
 refine T.condT rfl (c16) ?_
 refine T.skip ?_
 show T X _ _ _
 refine T.seq ?_
 refine T.block ?_
 refine T.seq ?_
 refine T.region ?_
 refine TL.op1 (OpR.pure rfl) rfl ?_
 refine TL.op1 (OpR.pure rfl) rfl ?_
 refine TL.op1 (OpR.pure rfl) rfl ?_
 refine TL.op1 (OpR.pure rfl) rfl ?_
 obtain ⟨x17, hx17, q10⟩ := bnd_some q10
 refine TL.op1 (OpR.call0 fn69 (utf_Size_c hx17) rfl) rfl ?_
 refine TL.op1 (OpR.pure rfl) rfl ?_
 refine TL.op1 (OpR.pure rfl) rfl ?_
 refine TL.nil ?_
 show T X _ _ _
 rcases ite_some q10 with ⟨c18, q10⟩ | ⟨c18, q10⟩
 rotate_left
 · refine T.condF rfl (decide_eq_false c18) ?_
   refine T.skip ?_
   show T X _ _ _
   refine T.region ?_
   refine TL.op1 (OpR.pure rfl) rfl ?_
   refine TL.op1 (OpR.pure rfl) rfl ?_
   refine TL.op1 (OpR.pure rfl) rfl ?_
   refine TL.nil ?_
   obtain rfl := Option.some.inj q10
   exact ⟨m8, Nat.lt_succ_self _, _, Gst.only [0, 1, 4, 5] rfl, w64 (s6 + 1), rfl, i11⟩
 refine T.condT rfl (decide_eq_true c18) ?_
 refine T.seq ?_
 refine T.region ?_
 refine TL.op1 (OpR.pure rfl) rfl ?_
 refine TL.nil ?_
 show T X _ _ _
 refine T.ret ?_
 obtain rfl := Option.some.inj q10
 obtain rfl : _ = _ := i11
 obtain rfl := Option.some.inj h0
 exact PostG.retP (ks := []) (Gst.only [4] rfl) undef (ResL.cons (ResV.tmp rfl) ResL.nil) rfl rfl rfl rfl
noncomputable def utf_Prev.l1 (a0 : List UInt8) (s4 : Int) : Option (Lp Int (Ex Unit Int)) :=
  if s4 > 0 then
    bnd (utf_Bound a0 (w64 (s4 - 1))) fun x13 =>
    if x13 = true then
      some (Lp.done (Ex.ret (w64 (s4 - 1))))
    else
      some (Lp.next (w64 (s4 - 1)))
  else
    some (Lp.done (Ex.brk ()))
noncomputable def utf_Prev (a0 : List UInt8) (a1 : Int) : Option Int :=
  bnd (some (if (w64 ((a0.length : Int) + 1)) < a1 then (w64 ((a0.length : Int) + 1)) else a1)) fun x1 =>
  bnd (loop (utf_Prev.l1 a0) x1 : Option (Ex Unit Int)) fun t2 => match t2 with
    | .brk u3 =>
      some 0
    | .ret u3 => some u3
set_option maxHeartbeats 4000000 in
theorem utf_Prev_c {a0 : List UInt8} {a1 : Int} {res : Int} (h0 : utf_Prev a0 a1 = some res) : CallF X 48 [.sl 1 (List.map byteD a0), .val (.int .i64 a1)] [] (fun x => .val (.int .i64 res)) (fun x => []) := by
 unfold utf_Prev at h0
 refine CallF.mkG (X := X) Try.func48 rfl rfl Try.ntmps48 rfl rfl ?_
 refine T.seq ?_
 refine T.region ?_
 refine TL.op1 (OpR.pure rfl) rfl ?_
 refine TL.nil ?_
 show T X _ _ _
 refine T.seq ?_
 refine T.region ?_
 refine TL.op1 (OpR.pure rfl) rfl ?_
 refine TL.op1 (OpR.pure rfl) rfl ?_
 refine TL.op1 (OpR.cast (OpR.pure rfl) (intE (lenM _ _))) rfl ?_
 refine TL.op1 (OpR.pure rfl) rfl ?_
 obtain ⟨x1, hx1, h0⟩ := bnd_some h0
 refine TL.op1 (OpR.cast (OpR.pure rfl) (intE (Option.some.inj hx1))) rfl ?_
 refine TL.op1 (OpR.pure rfl) rfl ?_
 refine TL.nil ?_
 show T X _ _ _
 refine T.seq ?_
 obtain ⟨t2, ht2, h0⟩ := bnd_some h0
 refine T.cutC (fun S' => ∃ u3, t2 = Ex.brk u3 ∧ S' = ⟨[(4, .val (.int .i64 0))], [], 18⟩) (fun _ h => h) ?_ ?_
 rotate_left
 · rintro _ ⟨u3, rfl, rfl⟩
   show T X _ _ _
   refine T.seq ?_
   refine T.region ?_
   refine TL.op1 (OpR.pure rfl) rfl ?_
   refine TL.nil ?_
   show T X _ _ _
   refine T.ret ?_
   obtain rfl := Option.some.inj h0
   exact PostG.retP (ks := []) (Gst.only [4] rfl) undef (ResL.cons (ResV.tmp rfl) ResL.nil) rfl rfl rfl rfl
 refine T.block ?_
 obtain ⟨n5, n10⟩ := loop_some ht2
 refine T.loop (fun n S' => ∃ S'', Gst S' S'' ∧ ∃ s4 : Int, S'' = ⟨[(4, .val (.int .i64 0)), (1, .val (.int .i64 s4)), (0, .sl 1 (List.map byteD a0))], [], 18⟩ ∧ iter (utf_Prev.l1 a0) n s4 = some t2) n5 ?_ ?_
 · exact ⟨_, Gst.only [0, 1, 4] rfl, x1, rfl, n10⟩
 rintro n5 _ ⟨_, g, s4, rfl, i9⟩
 refine T.ghost g ?_
 obtain ⟨m6, q7, rfl, q8, i9⟩ := iter_succ i9
 unfold utf_Prev.l1 at q8
 refine T.seq ?_
 refine T.seq ?_
 refine T.region ?_
 refine TL.op1 (OpR.pure rfl) rfl ?_
 refine TL.op1 (OpR.pure rfl) rfl ?_
 refine TL.nil ?_
 show T X _ _ _
 rcases ite_some q8 with ⟨c12, q8⟩ | ⟨c12, q8⟩
 rotate_left
 · refine T.condF rfl (decide_eq_false c12) ?_
   refine T.exit ?_
   obtain rfl := Option.some.inj q8
   obtain rfl : _ = _ := i9
   exact ⟨_, Gst.only [4] rfl, _, rfl, rfl⟩
 refine T.condT rfl (decide_eq_true c12) ?_
 refine T.skip ?_
 show T X _ _ _
 refine T.block ?_
 refine T.seq ?_
 refine T.region ?_
 refine TL.op1 (OpR.pure rfl) rfl ?_
 refine TL.op1 (OpR.pure rfl) rfl ?_
 refine TL.op1 (OpR.pure rfl) rfl ?_
 refine TL.nil ?_
 show T X _ _ _
 refine T.seq ?_
 refine T.region ?_
 refine TL.op1 (OpR.pure rfl) rfl ?_
 refine TL.op1 (OpR.pure rfl) rfl ?_
 obtain ⟨x13, hx13, q8⟩ := bnd_some q8
 refine TL.op1 (OpR.call0 fn53 (utf_Bound_c hx13) rfl) rfl ?_
 refine TL.nil ?_
 show T X _ _ _
 rcases ite_some q8 with ⟨c14, q8⟩ | ⟨c14, q8⟩
 rotate_left
 · refine T.condF rfl (eq_false_of_ne_true c14) ?_
   refine T.skip ?_
   obtain rfl := Option.some.inj q8
   exact ⟨m6, Nat.lt_succ_self _, _, Gst.only [0, 1, 4] rfl, w64 (s4 - 1), rfl, i9⟩
 refine T.condT rfl (c14) ?_
 refine T.seq ?_
 refine T.region ?_
 refine TL.op1 (OpR.pure rfl) rfl ?_
 refine TL.op1 (OpR.pure rfl) rfl ?_
 refine TL.nil ?_
 show T X _ _ _
 refine T.ret ?_
 obtain rfl := Option.some.inj q8
 obtain rfl : _ = _ := i9
 obtain rfl := Option.some.inj h0
 exact PostG.retP (ks := []) (Gst.only [4] rfl) undef (ResL.cons (ResV.tmp rfl) ResL.nil) rfl rfl rfl rfl
noncomputable def line_bound (a0 : List UInt8) (a1 : Int) : Option Int :=
  bnd (some (if (a0.length : Int) < (if 0 > a1 then 0 else a1) then (a0.length : Int) else (if 0 > a1 then 0 else a1))) fun x1 =>
  bnd (utf_Bound a0 x1) fun x2 =>
  if x2 = true then
    some x1
  else
    bnd (utf_Prev a0 x1) fun x4 =>
    some x4
set_option maxHeartbeats 4000000 in
theorem line_bound_c {a0 : List UInt8} {a1 : Int} {res : Int} (h0 : line_bound a0 a1 = some res) : CallF X 36 [.sl 1 (List.map byteD a0), .val (.int .i64 a1)] [] (fun x => .val (.int .i64 res)) (fun x => []) := by
 unfold line_bound at h0
 refine CallF.mkG (X := X) Try.func36 rfl rfl Try.ntmps36 rfl rfl ?_
 refine T.seq ?_
 refine T.region ?_
 refine TL.op1 (OpR.pure rfl) rfl ?_
 refine TL.nil ?_
 show T X _ _ _
 refine T.seq ?_
 refine T.region ?_
 refine TL.op1 (OpR.pure rfl) rfl ?_
 refine TL.op1 (OpR.pure rfl) rfl ?_
 refine TL.op1 (OpR.pure rfl) rfl ?_
 refine TL.op1 (OpR.cast (OpR.pure rfl) (intE (lenM _ _))) rfl ?_
 obtain ⟨x1, hx1, h0⟩ := bnd_some h0
 refine TL.op1 (OpR.cast (OpR.pure rfl) (intE (Option.some.inj hx1))) rfl ?_
 refine TL.op1 (OpR.pure rfl) rfl ?_
 refine TL.nil ?_
 show T X _ _ _
 refine T.seq ?_
 refine T.seq ?_
 refine T.region ?_
 refine TL.op1 (OpR.pure rfl) rfl ?_
 refine TL.op1 (OpR.pure rfl) rfl ?_
 obtain ⟨x2, hx2, h0⟩ := bnd_some h0
 refine TL.op1 (OpR.call0 fn53 (utf_Bound_c hx2) rfl) rfl ?_
 refine TL.nil ?_
 show T X _ _ _
 rcases ite_some h0 with ⟨c3, h0⟩ | ⟨c3, h0⟩
 · refine T.condT rfl (c3) ?_
   refine T.seq ?_
   refine T.region ?_
   refine TL.op1 (OpR.pure rfl) rfl ?_
   refine TL.op1 (OpR.pure rfl) rfl ?_
   refine TL.nil ?_
   show T X _ _ _
   refine T.ret ?_
   obtain rfl := Option.some.inj h0
   exact PostG.retP (ks := []) (Gst.only [4] rfl) undef (ResL.cons (ResV.tmp rfl) ResL.nil) rfl rfl rfl rfl
 refine T.condF rfl (eq_false_of_ne_true c3) ?_
 refine T.skip ?_
 show T X _ _ _
 refine T.seq ?_
 refine T.region ?_
 refine TL.op1 (OpR.pure rfl) rfl ?_
 refine TL.op1 (OpR.pure rfl) rfl ?_
 obtain ⟨x4, hx4, h0⟩ := bnd_some h0
 refine TL.op1 (OpR.call0 fn48 (utf_Prev_c hx4) rfl) rfl ?_
 refine TL.op1 (OpR.pure rfl) rfl ?_
 refine TL.nil ?_
 show T X _ _ _
 refine T.ret ?_
 obtain rfl := Option.some.inj h0
 exact PostG.retP (ks := []) (Gst.only [4] rfl) undef (ResL.cons (ResV.tmp rfl) ResL.nil) rfl rfl rfl rfl
noncomputable def utf_head (a0 : Int) : Option utf_first :=
  if a0 = 0 then
    some (⟨0, 128⟩ : utf_first)
  else
    if a0 = 1 then
      some (⟨192, 32⟩ : utf_first)
    else
      if a0 = 2 then
        some (⟨224, 16⟩ : utf_first)
      else
        some (⟨240, 8⟩ : utf_first)
set_option maxHeartbeats 4000000 in
theorem utf_head_c {a0 : Int} {res : utf_first} (h0 : utf_head a0 = some res) : CallF X 65 [.val (.int .i64 a0)] [] (fun x => .agg [.val (.int .i64 res.fMark), .val (.int .i64 res.fRoom)]) (fun x => []) := by
 unfold utf_head at h0
 refine CallF.mkG (X := X) Try.func65 rfl rfl Try.ntmps65 rfl rfl ?_
 refine T.seq ?_
 refine T.region ?_
 refine TL.op (OpR.alloc rfl rfl (fun _ => rfl)) rfl (fun p1 => ?_)
 refine TL.nil ?_
 show T X _ _ _
 refine T.seq ?_
 refine T.seq ?_
 refine T.region ?_
 refine TL.op1 (OpR.pure rfl) rfl ?_
 refine TL.nil ?_
 show T X _ _ _
 refine T.block ?_
 refine T.seq ?_
 refine T.region ?_
 refine TL.op1 (OpR.pure rfl) rfl ?_
 refine TL.op1 (OpR.pure rfl) rfl ?_
 refine TL.nil ?_
 show T X _ _ _
 rcases ite_some h0 with ⟨c2, h0⟩ | ⟨c2, h0⟩
 · refine T.condT rfl (beq_iff_eq.2 c2) ?_
   refine T.seq ?_
   refine T.region ?_
   refine TL.op1 (OpR.build rfl rfl rfl rfl rfl) rfl ?_
   refine TL.op0 (OpR.store 0 rfl rfl rfl rfl rfl rfl rfl rfl) ?_
   refine TL.nil ?_
   show T X _ _ _
   refine T.ret ?_
   obtain rfl := Option.some.inj h0
   exact PostG.retP (ks := []) (Gst.only [2] rfl) undef (ResL.cons (ResV.var 0 rfl rfl rfl rfl) ResL.nil) rfl rfl rfl rfl
 refine T.condF rfl (beq_eq_false_iff_ne.2 c2) ?_
 refine T.seq ?_
 refine T.region ?_
 refine TL.op1 (OpR.pure rfl) rfl ?_
 refine TL.op1 (OpR.pure rfl) rfl ?_
 refine TL.nil ?_
 show T X _ _ _
 rcases ite_some h0 with ⟨c3, h0⟩ | ⟨c3, h0⟩
 · refine T.condT rfl (beq_iff_eq.2 c3) ?_
   refine T.seq ?_
   refine T.region ?_
   refine TL.op1 (OpR.build rfl rfl rfl rfl rfl) rfl ?_
   refine TL.op0 (OpR.store 0 rfl rfl rfl rfl rfl rfl rfl rfl) ?_
   refine TL.nil ?_
   show T X _ _ _
   refine T.ret ?_
   obtain rfl := Option.some.inj h0
   exact PostG.retP (ks := []) (Gst.only [2] rfl) undef (ResL.cons (ResV.var 0 rfl rfl rfl rfl) ResL.nil) rfl rfl rfl rfl
 refine T.condF rfl (beq_eq_false_iff_ne.2 c3) ?_
 refine T.seq ?_
 refine T.region ?_
 refine TL.op1 (OpR.pure rfl) rfl ?_
 refine TL.op1 (OpR.pure rfl) rfl ?_
 refine TL.nil ?_
 show T X _ _ _
 rcases ite_some h0 with ⟨c4, h0⟩ | ⟨c4, h0⟩
 · refine T.condT rfl (beq_iff_eq.2 c4) ?_
   refine T.seq ?_
   refine T.region ?_
   refine TL.op1 (OpR.build rfl rfl rfl rfl rfl) rfl ?_
   refine TL.op0 (OpR.store 0 rfl rfl rfl rfl rfl rfl rfl rfl) ?_
   refine TL.nil ?_
   show T X _ _ _
   refine T.ret ?_
   obtain rfl := Option.some.inj h0
   exact PostG.retP (ks := []) (Gst.only [2] rfl) undef (ResL.cons (ResV.var 0 rfl rfl rfl rfl) ResL.nil) rfl rfl rfl rfl
 refine T.condF rfl (beq_eq_false_iff_ne.2 c4) ?_
 refine T.skip ?_
 show T X _ _ _
 refine T.seq ?_
 refine T.region ?_
 refine TL.op1 (OpR.build rfl rfl rfl rfl rfl) rfl ?_
 refine TL.op0 (OpR.store 0 rfl rfl rfl rfl rfl rfl rfl rfl) ?_
 refine TL.nil ?_
 show T X _ _ _
 refine T.ret ?_
 obtain rfl := Option.some.inj h0
 exact PostG.retP (ks := []) (Gst.only [2] rfl) undef (ResL.cons (ResV.var 0 rfl rfl rfl rfl) ResL.nil) rfl rfl rfl rfl
noncomputable def utf_Put.l1 (s5 : Int × Int × UInt8 × UInt8 × UInt8 × UInt8) : Option (Lp (Int × Int × UInt8 × UInt8 × UInt8 × UInt8) (Int × Int × UInt8 × UInt8 × UInt8 × UInt8)) :=
  bnd (utf_head (w64 (3 - s5.2.1))) fun x13 =>
  if s5.1 ≥ x13.fRoom then
    bnd (idx ([s5.2.2.1, s5.2.2.2.1, s5.2.2.2.2.1, s5.2.2.2.2.2] : List UInt8) s5.2.1) fun x15 =>
    some (Lp.next (ishr .i64 s5.1 6, w64 (s5.2.1 - 1), (if s5.2.1 = 0 then (ub (w64 (ior .i64 128 (w64 (iand .i64 s5.1 63))))) else s5.2.2.1), (if s5.2.1 - 1 = 0 then (ub (w64 (ior .i64 128 (w64 (iand .i64 s5.1 63))))) else s5.2.2.2.1), (if s5.2.1 - 1 - 1 = 0 then (ub (w64 (ior .i64 128 (w64 (iand .i64 s5.1 63))))) else s5.2.2.2.2.1), (if s5.2.1 - 1 - 1 - 1 = 0 then (ub (w64 (ior .i64 128 (w64 (iand .i64 s5.1 63))))) else s5.2.2.2.2.2)))
  else
    some (Lp.done (s5.1, s5.2.1, s5.2.2.1, s5.2.2.2.1, s5.2.2.2.2.1, s5.2.2.2.2.2))
noncomputable def utf_Put (a0 : Int) : Option (List UInt8) :=
  bnd (utf_scalar a0) fun x1 =>
  if x1 = true then
    bnd (loop utf_Put.l1 (a0, 3, 0, 0, 0, 0) : Option (Int × Int × UInt8 × UInt8 × UInt8 × UInt8)) fun t4 =>
    bnd (utf_head (w64 (3 - t4.2.1))) fun x16 =>
    bnd (idx ([t4.2.2.1, t4.2.2.2.1, t4.2.2.2.2.1, t4.2.2.2.2.2] : List UInt8) t4.2.1) fun x17 =>
    bnd (cut ([(if t4.2.1 = 0 then (ub (w64 (ior .i64 t4.1 x16.fMark))) else t4.2.2.1), (if t4.2.1 - 1 = 0 then (ub (w64 (ior .i64 t4.1 x16.fMark))) else t4.2.2.2.1), (if t4.2.1 - 1 - 1 = 0 then (ub (w64 (ior .i64 t4.1 x16.fMark))) else t4.2.2.2.2.1), (if t4.2.1 - 1 - 1 - 1 = 0 then (ub (w64 (ior .i64 t4.1 x16.fMark))) else t4.2.2.2.2.2)] : List UInt8) t4.2.1 4) fun x18 =>
    some x18
  else
    some []
set_option maxHeartbeats 4000000 in
theorem utf_Put_c {a0 : Int} {res : (List UInt8)} (h0 : utf_Put a0 = some res) : CallF X 46 [.val (.int .i64 a0)] [] (fun x => .sl 1 (List.map byteD res)) (fun x => []) := by
 unfold utf_Put at h0
 refine CallF.mkG (X := X) Try.func46 rfl rfl Try.ntmps46 rfl rfl ?_
 refine T.seq ?_
 refine T.region ?_
 refine TL.op1 (OpR.pure rfl) rfl ?_
 refine TL.nil ?_
 show T X _ _ _
 refine T.seq ?_
 refine T.seq ?_
 refine T.region ?_
 refine TL.op1 (OpR.pure rfl) rfl ?_
 obtain ⟨x1, hx1, h0⟩ := bnd_some h0
 refine TL.op1 (OpR.call0 fn64 (utf_scalar_c hx1) rfl) rfl ?_
 refine TL.op1 (OpR.pure rfl) rfl ?_
 refine TL.nil ?_
 show T X _ _ _
 rcases ite_some h0 with ⟨c2, h0⟩ | ⟨c2, h0⟩
 rotate_left
 · refine T.condT rfl (not_f (eq_false_of_ne_true c2)) ?_
   refine T.seq ?_
   refine T.region ?_
   refine TL.op1 (OpR.pure rfl) rfl ?_
   refine TL.nil ?_
   show T X _ _ _
   refine T.ret ?_
   obtain rfl := Option.some.inj h0
   exact PostG.retP (ks := []) (Gst.trans (Gst.only [2] rfl) (Gst.denil (ReS.cons (Re.base .nil) ReS.nil) ReO.nil)) undef (ResL.cons (ResV.tmp rfl) ResL.nil) rfl rfl rfl rfl
 refine T.condF rfl (not_t (c2)) ?_
 refine T.skip ?_
 show T X _ _ _
 refine T.seq ?_
 refine T.region ?_
 refine TL.op (OpR.alloc rfl rfl (fun _ => rfl)) rfl (fun p3 => ?_)
 refine TL.nil ?_
 show T X _ _ _
 refine T.seq ?_
 refine T.region ?_
 refine TL.op1 (OpR.pure rfl) rfl ?_
 refine TL.nil ?_
 show T X _ _ _
 refine T.seq ?_
 obtain ⟨t4, ht4, h0⟩ := bnd_some h0
 refine T.cutC (fun S' => S' = ⟨[(4, .val (.int .i64 t4.2.1)), (3, .val (.pointer (some ⟨(blk p3), 0, none⟩))), (2, .val (.slice none 0 0)), (0, .val (.int .i64 t4.1))], [.var (blk p3) [.val (.int .u8 (t4.2.2.1.toNat : Int)), .val (.int .u8 (t4.2.2.2.1.toNat : Int)), .val (.int .u8 (t4.2.2.2.2.1.toNat : Int)), .val (.int .u8 (t4.2.2.2.2.2.toNat : Int))] 102], 35⟩) (fun _ h => h) ?_ ?_
 rotate_left
 · rintro _ rfl
   show T X _ _ _
   refine T.seq ?_
   refine T.region ?_
   refine TL.op1 (OpR.pure rfl) rfl ?_
   refine TL.op1 (OpR.pure rfl) rfl ?_
   refine TL.op1 (OpR.pure rfl) rfl ?_
   refine TL.op1 (OpR.pure rfl) rfl ?_
   obtain ⟨x16, hx16, h0⟩ := bnd_some h0
   refine TL.op1 (OpR.call0 fn65 (utf_head_c hx16) rfl) rfl ?_
   refine TL.op1 (OpR.pure rfl) rfl ?_
   refine TL.op1 (OpR.pure rfl) rfl ?_
   refine TL.op1 (OpR.cast (OpR.pure rfl) (intE (ub_wrap _))) rfl ?_
   obtain ⟨x17, hx17, h0⟩ := bnd_some h0
   refine TL.op1 (OpR.indexVarM (l := ([t4.2.2.1, t4.2.2.2.1, t4.2.2.2.2.1, t4.2.2.2.2.2] : List UInt8)) hx17 rfl rfl rfl rfl rfl rfl rfl) rfl ?_
   refine TL.op0 (OpR.arrStoreM (off := 0) (j := t4.2.1) (a' := (ub (w64 (ior .i64 t4.1 x16.fMark)))) (l := ([t4.2.2.1, t4.2.2.2.1, t4.2.2.2.2.1, t4.2.2.2.2.2] : List UInt8)) (pre := []) (rest := []) byteD 0 hx17 rfl rfl rfl rfl rfl (fun _ => rfl) rfl rfl rfl rfl) ?_
   refine TL.nil ?_
   show T X _ _ _
   refine T.seq ?_
   refine T.region ?_
   refine TL.op1 (OpR.pure rfl) rfl ?_
   obtain ⟨x18, hx18, h0⟩ := bnd_some h0
   refine TL.op1 (OpR.sliceArrM (n := 4) (l := ([(if t4.2.1 = 0 then (ub (w64 (ior .i64 t4.1 x16.fMark))) else t4.2.2.1), (if t4.2.1 - 1 = 0 then (ub (w64 (ior .i64 t4.1 x16.fMark))) else t4.2.2.2.1), (if t4.2.1 - 1 - 1 = 0 then (ub (w64 (ior .i64 t4.1 x16.fMark))) else t4.2.2.2.2.1), (if t4.2.1 - 1 - 1 - 1 = 0 then (ub (w64 (ior .i64 t4.1 x16.fMark))) else t4.2.2.2.2.2)] : List UInt8)) byteD 0 hx18 rfl rfl rfl rfl rfl rfl rfl rfl (fun _ => rfl) rfl rfl rfl rfl) rfl ?_
   refine TL.op1 (OpR.pure rfl) rfl ?_
   refine TL.nil ?_
   show T X _ _ _
   refine T.ret ?_
   obtain rfl := Option.some.inj h0
   exact PostG.retP (ks := []) (Gst.trans (Gst.only [2] rfl) (Gst.pick [] rfl rfl)) undef (ResL.cons (ResV.tmp rfl) ResL.nil) rfl rfl rfl rfl
 refine T.block ?_
 obtain ⟨n6, n11⟩ := loop_some ht4
 refine T.loop (fun n S' => ∃ S'', Gst S' S'' ∧ ∃ s5 : Int × Int × UInt8 × UInt8 × UInt8 × UInt8, S'' = ⟨[(4, .val (.int .i64 s5.2.1)), (3, .val (.pointer (some ⟨(blk p3), 0, none⟩))), (2, .val (.slice none 0 0)), (0, .val (.int .i64 s5.1))], [.var (blk p3) [.val (.int .u8 (s5.2.2.1.toNat : Int)), .val (.int .u8 (s5.2.2.2.1.toNat : Int)), .val (.int .u8 (s5.2.2.2.2.1.toNat : Int)), .val (.int .u8 (s5.2.2.2.2.2.toNat : Int))] 102], 35⟩ ∧ iter utf_Put.l1 n s5 = some t4) n6 ?_ ?_
 · exact ⟨_, Gst.only [0, 2, 3, 4] rfl, (a0, 3, 0, 0, 0, 0), rfl, n11⟩
 rintro n6 _ ⟨_, g, s5, rfl, i10⟩
 refine T.ghost g ?_
 obtain ⟨m7, q8, rfl, q9, i10⟩ := iter_succ i10
 unfold utf_Put.l1 at q9
 refine T.seq ?_
 refine T.seq ?_
 refine T.region ?_
 refine TL.op1 (OpR.pure rfl) rfl ?_
 refine TL.op1 (OpR.pure rfl) rfl ?_
 refine TL.op1 (OpR.pure rfl) rfl ?_
 obtain ⟨x13, hx13, q9⟩ := bnd_some q9
 refine TL.op1 (OpR.call0 fn65 (utf_head_c hx13) rfl) rfl ?_
 refine TL.op1 (OpR.pure rfl) rfl ?_
 refine TL.op1 (OpR.pure rfl) rfl ?_
 refine TL.nil ?_
 show T X _ _ _
 rcases ite_some q9 with ⟨c14, q9⟩ | ⟨c14, q9⟩
 rotate_left
 · refine T.condF rfl (decide_eq_false c14) ?_
   refine T.exit ?_
   obtain rfl := Option.some.inj q9
   obtain rfl : _ = _ := i10
   exact ⟨_, Gst.only [0, 2, 3, 4] rfl, rfl⟩
 refine T.condT rfl (decide_eq_true c14) ?_
 refine T.skip ?_
 show T X _ _ _
 refine T.seq ?_
 refine T.block ?_
 refine T.seq ?_
 refine T.region ?_
 refine TL.op1 (OpR.pure rfl) rfl ?_
 refine TL.op1 (OpR.pure rfl) rfl ?_
 refine TL.op1 (OpR.pure rfl) rfl ?_
 refine TL.op1 (OpR.pure rfl) rfl ?_
 refine TL.op1 (OpR.cast (OpR.pure rfl) (intE (ub_wrap _))) rfl ?_
 obtain ⟨x15, hx15, q9⟩ := bnd_some q9
 refine TL.op1 (OpR.indexVarM (l := ([s5.2.2.1, s5.2.2.2.1, s5.2.2.2.2.1, s5.2.2.2.2.2] : List UInt8)) hx15 rfl rfl rfl rfl rfl rfl rfl) rfl ?_
 refine TL.op0 (OpR.arrStoreM (off := 0) (j := s5.2.1) (a' := (ub (w64 (ior .i64 128 (w64 (iand .i64 s5.1 63)))))) (l := ([s5.2.2.1, s5.2.2.2.1, s5.2.2.2.2.1, s5.2.2.2.2.2] : List UInt8)) (pre := []) (rest := []) byteD 0 hx15 rfl rfl rfl rfl rfl (fun _ => rfl) rfl rfl rfl rfl) ?_
 refine TL.nil ?_
 show T X _ _ _
 refine T.region ?_
 refine TL.op1 (OpR.pure rfl) rfl ?_
 refine TL.op1 (OpR.pure rfl) rfl ?_
 refine TL.op1 (OpR.pure rfl) rfl ?_
 refine TL.nil ?_
 show T X _ _ _
 refine T.region ?_
 refine TL.op1 (OpR.pure rfl) rfl ?_
 refine TL.op1 (OpR.pure rfl) rfl ?_
 refine TL.op1 (OpR.pure rfl) rfl ?_
 refine TL.nil ?_
 obtain rfl := Option.some.inj q9
 exact ⟨m7, Nat.lt_succ_self _, _, Gst.only [0, 2, 3, 4] rfl, (ishr .i64 s5.1 6, w64 (s5.2.1 - 1), (if s5.2.1 = 0 then (ub (w64 (ior .i64 128 (w64 (iand .i64 s5.1 63))))) else s5.2.2.1), (if s5.2.1 - 1 = 0 then (ub (w64 (ior .i64 128 (w64 (iand .i64 s5.1 63))))) else s5.2.2.2.1), (if s5.2.1 - 1 - 1 = 0 then (ub (w64 (ior .i64 128 (w64 (iand .i64 s5.1 63))))) else s5.2.2.2.2.1), (if s5.2.1 - 1 - 1 - 1 = 0 then (ub (w64 (ior .i64 128 (w64 (iand .i64 s5.1 63))))) else s5.2.2.2.2.2)), rfl, i10⟩
noncomputable def keys_Types (a0 : Int) : Option Bool :=
  bnd (if a0 ≥ 32 then
    if a0 = 127 then
      some false
    else
      bnd (utf_Put a0) fun x4 =>
      some (decide ((x4.length : Int) > 0))
  else
    some false : Option Bool) fun t1 =>
  some t1
set_option maxHeartbeats 4000000 in
theorem keys_Types_c {a0 : Int} {res : Bool} (h0 : keys_Types a0 = some res) : CallF X 45 [.val (.int .i64 a0)] [] (fun x => .val (.bool res)) (fun x => []) := by
 unfold keys_Types at h0
 refine CallF.mkG (X := X) Try.func45 rfl rfl Try.ntmps45 rfl rfl ?_
 refine T.seq ?_
 refine T.region ?_
 refine TL.op1 (OpR.pure rfl) rfl ?_
 refine TL.nil ?_
 show T X _ _ _
 refine T.seq ?_
 obtain ⟨t1, ht1, h0⟩ := bnd_some h0
 refine T.cutC (fun S' => S' = ⟨[(2, .val (.bool t1))], [], 15⟩) (fun _ h => h) ?_ ?_
 rotate_left
 · rintro _ rfl
   show T X _ _ _
   refine T.ret ?_
   obtain rfl := Option.some.inj h0
   exact PostG.retP (ks := []) (Gst.only [2] rfl) undef (ResL.cons (ResV.tmp rfl) ResL.nil) rfl rfl rfl rfl
 refine T.region ?_
 refine TL.op1 (OpR.pure rfl) rfl ?_
 refine TL.op1 (OpR.pure rfl) rfl ?_
 refine TL.op1 (OpR.pure rfl) rfl ?_
 rcases ite_some ht1 with ⟨c2, ht1⟩ | ⟨c2, ht1⟩
 rotate_left
 · refine TL.off rfl rfl rfl rfl (decide_eq_false c2) rfl rfl ?_
   refine TL.off rfl rfl rfl rfl (decide_eq_false c2) rfl rfl ?_
   refine TL.op1 (OpR.pickF rfl (decide_eq_false c2) rfl) rfl ?_
   refine TL.op1 (OpR.pure rfl) rfl ?_
   refine TL.off rfl rfl rfl rfl rfl rfl rfl ?_
   refine TL.off rfl rfl rfl rfl rfl rfl rfl ?_
   refine TL.off rfl rfl rfl rfl rfl rfl rfl ?_
   refine TL.off rfl rfl rfl rfl rfl rfl rfl ?_
   refine TL.op1 (OpR.pickF rfl rfl rfl) rfl ?_
   refine TL.op1 (OpR.pure rfl) rfl ?_
   refine TL.nil ?_
   obtain rfl := Option.some.inj ht1
   exact ⟨_, Gst.only [2] rfl, rfl⟩
 refine TL.on rfl rfl rfl rfl (decide_eq_true c2) ?_
 refine TL.op1 (OpR.pure rfl) rfl ?_
 refine TL.on rfl rfl rfl rfl (decide_eq_true c2) ?_
 refine TL.op1 (OpR.pure rfl) rfl ?_
 refine TL.op1 (OpR.pickT rfl (decide_eq_true c2) rfl) rfl ?_
 refine TL.op1 (OpR.pure rfl) rfl ?_
 rcases ite_some ht1 with ⟨c3, ht1⟩ | ⟨c3, ht1⟩
 · refine TL.off rfl rfl rfl rfl (not_t (beq_iff_eq.2 c3)) rfl rfl ?_
   refine TL.off rfl rfl rfl rfl (not_t (beq_iff_eq.2 c3)) rfl rfl ?_
   refine TL.off rfl rfl rfl rfl (not_t (beq_iff_eq.2 c3)) rfl rfl ?_
   refine TL.off rfl rfl rfl rfl (not_t (beq_iff_eq.2 c3)) rfl rfl ?_
   refine TL.op1 (OpR.pickF rfl (not_t (beq_iff_eq.2 c3)) rfl) rfl ?_
   refine TL.op1 (OpR.pure rfl) rfl ?_
   refine TL.nil ?_
   obtain rfl := Option.some.inj ht1
   exact ⟨_, Gst.only [2] rfl, rfl⟩
 refine TL.on rfl rfl rfl rfl (not_f (beq_eq_false_iff_ne.2 c3)) ?_
 refine TL.op1 (OpR.pure rfl) rfl ?_
 refine TL.on rfl rfl rfl rfl (not_f (beq_eq_false_iff_ne.2 c3)) ?_
 obtain ⟨x4, hx4, ht1⟩ := bnd_some ht1
 refine TL.op1 (OpR.call0 fn46 (utf_Put_c hx4) rfl) rfl ?_
 refine TL.on rfl rfl rfl rfl (not_f (beq_eq_false_iff_ne.2 c3)) ?_
 refine TL.op1 (OpR.cast (OpR.pure rfl) (intE (lenM _ _))) rfl ?_
 refine TL.on rfl rfl rfl rfl (not_f (beq_eq_false_iff_ne.2 c3)) ?_
 refine TL.op1 (OpR.pure rfl) rfl ?_
 refine TL.op1 (OpR.pickT rfl (not_f (beq_eq_false_iff_ne.2 c3)) rfl) rfl ?_
 refine TL.op1 (OpR.pure rfl) rfl ?_
 refine TL.nil ?_
 obtain rfl := Option.some.inj ht1
 exact ⟨_, Gst.only [2] rfl, rfl⟩
noncomputable def line_gone (a0 : Int) (a1 : Int) : Option line_Edit :=
  some (⟨a0, a1, [], a0⟩ : line_Edit)
set_option maxHeartbeats 4000000 in
theorem line_gone_c {a0 : Int} {a1 : Int} {res : line_Edit} (h0 : line_gone a0 a1 = some res) : CallF X 47 [.val (.int .i64 a0), .val (.int .i64 a1)] [] (fun x => .agg [.val (.int .i64 res.fFrom), .val (.int .i64 res.fTo), .val (.string (bs res.fIn)), .val (.int .i64 res.fAt)]) (fun x => []) := by
 unfold line_gone at h0
 refine CallF.mkG (X := X) Try.func47 rfl rfl Try.ntmps47 rfl rfl ?_
 refine T.seq ?_
 refine T.region ?_
 refine TL.op (OpR.alloc rfl rfl (fun _ => rfl)) rfl (fun p1 => ?_)
 refine TL.nil ?_
 show T X _ _ _
 refine T.seq ?_
 refine T.region ?_
 refine TL.op1 (OpR.pure rfl) rfl ?_
 refine TL.op1 (OpR.pure rfl) rfl ?_
 refine TL.op1 (OpR.pure rfl) rfl ?_
 refine TL.op1 (OpR.build rfl rfl rfl rfl rfl) rfl ?_
 refine TL.op0 (OpR.store 0 rfl rfl rfl rfl rfl rfl rfl rfl) ?_
 refine TL.nil ?_
 show T X _ _ _
 refine T.ret ?_
 obtain rfl := Option.some.inj h0
 exact PostG.retP (ks := []) (Gst.only [4] rfl) undef (ResL.cons (ResV.var 0 rfl rfl rfl rfl) ResL.nil) rfl rfl rfl rfl
noncomputable def utf_Next.l1 (a0 : List UInt8) (s4 : Int) : Option (Lp Int (Ex Unit Int)) :=
  if s4 < (a0.length : Int) then
    bnd (utf_Bound a0 (w64 (s4 + 1))) fun x13 =>
    if x13 = true then
      some (Lp.done (Ex.ret (w64 (s4 + 1))))
    else
      some (Lp.next (w64 (s4 + 1)))
  else
    some (Lp.done (Ex.brk ()))
noncomputable def utf_Next (a0 : List UInt8) (a1 : Int) : Option Int :=
  if a1 < 0 then
    some 0
  else
    bnd (loop (utf_Next.l1 a0) a1 : Option (Ex Unit Int)) fun t2 => match t2 with
      | .brk u3 =>
        some (a0.length : Int)
      | .ret u3 => some u3
set_option maxHeartbeats 4000000 in
theorem utf_Next_c {a0 : List UInt8} {a1 : Int} {res : Int} (h0 : utf_Next a0 a1 = some res) : CallF X 49 [.sl 1 (List.map byteD a0), .val (.int .i64 a1)] [] (fun x => .val (.int .i64 res)) (fun x => []) := by
 unfold utf_Next at h0
 refine CallF.mkG (X := X) Try.func49 rfl rfl Try.ntmps49 rfl rfl ?_
 refine T.seq ?_
 refine T.region ?_
 refine TL.op1 (OpR.pure rfl) rfl ?_
 refine TL.nil ?_
 show T X _ _ _
 refine T.seq ?_
 refine T.seq ?_
 refine T.region ?_
 refine TL.op1 (OpR.pure rfl) rfl ?_
 refine TL.op1 (OpR.pure rfl) rfl ?_
 refine TL.nil ?_
 show T X _ _ _
 rcases ite_some h0 with ⟨c1, h0⟩ | ⟨c1, h0⟩
 · refine T.condT rfl (decide_eq_true c1) ?_
   refine T.seq ?_
   refine T.region ?_
   refine TL.op1 (OpR.pure rfl) rfl ?_
   refine TL.nil ?_
   show T X _ _ _
   refine T.ret ?_
   obtain rfl := Option.some.inj h0
   exact PostG.retP (ks := []) (Gst.only [4] rfl) undef (ResL.cons (ResV.tmp rfl) ResL.nil) rfl rfl rfl rfl
 refine T.condF rfl (decide_eq_false c1) ?_
 refine T.skip ?_
 show T X _ _ _
 refine T.seq ?_
 obtain ⟨t2, ht2, h0⟩ := bnd_some h0
 refine T.cutC (fun S' => ∃ u3, t2 = Ex.brk u3 ∧ S' = ⟨[(4, .val (.int .i64 0)), (0, .sl 1 (List.map byteD a0))], [], 19⟩) (fun _ h => h) ?_ ?_
 rotate_left
 · rintro _ ⟨u3, rfl, rfl⟩
   show T X _ _ _
   refine T.seq ?_
   refine T.region ?_
   refine TL.op1 (OpR.pure rfl) rfl ?_
   refine TL.op1 (OpR.cast (OpR.pure rfl) (intE (lenM _ _))) rfl ?_
   refine TL.op1 (OpR.pure rfl) rfl ?_
   refine TL.nil ?_
   show T X _ _ _
   refine T.ret ?_
   obtain rfl := Option.some.inj h0
   exact PostG.retP (ks := []) (Gst.only [4] rfl) undef (ResL.cons (ResV.tmp rfl) ResL.nil) rfl rfl rfl rfl
 refine T.block ?_
 obtain ⟨n5, n10⟩ := loop_some ht2
 refine T.loop (fun n S' => ∃ S'', Gst S' S'' ∧ ∃ s4 : Int, S'' = ⟨[(4, .val (.int .i64 0)), (1, .val (.int .i64 s4)), (0, .sl 1 (List.map byteD a0))], [], 19⟩ ∧ iter (utf_Next.l1 a0) n s4 = some t2) n5 ?_ ?_
 · exact ⟨_, Gst.only [0, 1, 4] rfl, a1, rfl, n10⟩
 rintro n5 _ ⟨_, g, s4, rfl, i9⟩
 refine T.ghost g ?_
 obtain ⟨m6, q7, rfl, q8, i9⟩ := iter_succ i9
 unfold utf_Next.l1 at q8
 refine T.seq ?_
 refine T.seq ?_
 refine T.region ?_
 refine TL.op1 (OpR.pure rfl) rfl ?_
 refine TL.op1 (OpR.pure rfl) rfl ?_
 refine TL.op1 (OpR.cast (OpR.pure rfl) (intE (lenM _ _))) rfl ?_
 refine TL.op1 (OpR.pure rfl) rfl ?_
 refine TL.nil ?_
 show T X _ _ _
 rcases ite_some q8 with ⟨c12, q8⟩ | ⟨c12, q8⟩
 rotate_left
 · refine T.condF rfl (decide_eq_false c12) ?_
   refine T.exit ?_
   obtain rfl := Option.some.inj q8
   obtain rfl : _ = _ := i9
   exact ⟨_, Gst.only [0, 4] rfl, _, rfl, rfl⟩
 refine T.condT rfl (decide_eq_true c12) ?_
 refine T.skip ?_
 show T X _ _ _
 refine T.block ?_
 refine T.seq ?_
 refine T.region ?_
 refine TL.op1 (OpR.pure rfl) rfl ?_
 refine TL.op1 (OpR.pure rfl) rfl ?_
 refine TL.op1 (OpR.pure rfl) rfl ?_
 refine TL.nil ?_
 show T X _ _ _
 refine T.seq ?_
 refine T.region ?_
 refine TL.op1 (OpR.pure rfl) rfl ?_
 refine TL.op1 (OpR.pure rfl) rfl ?_
 obtain ⟨x13, hx13, q8⟩ := bnd_some q8
 refine TL.op1 (OpR.call0 fn53 (utf_Bound_c hx13) rfl) rfl ?_
 refine TL.nil ?_
 show T X _ _ _
 rcases ite_some q8 with ⟨c14, q8⟩ | ⟨c14, q8⟩
 rotate_left
 · refine T.condF rfl (eq_false_of_ne_true c14) ?_
   refine T.skip ?_
   obtain rfl := Option.some.inj q8
   exact ⟨m6, Nat.lt_succ_self _, _, Gst.only [0, 1, 4] rfl, w64 (s4 + 1), rfl, i9⟩
 refine T.condT rfl (c14) ?_
 refine T.seq ?_
 refine T.region ?_
 refine TL.op1 (OpR.pure rfl) rfl ?_
 refine TL.op1 (OpR.pure rfl) rfl ?_
 refine TL.nil ?_
 show T X _ _ _
 refine T.ret ?_
 obtain rfl := Option.some.inj q8
 obtain rfl : _ = _ := i9
 obtain rfl := Option.some.inj h0
 exact PostG.retP (ks := []) (Gst.only [4] rfl) undef (ResL.cons (ResV.tmp rfl) ResL.nil) rfl rfl rfl rfl
noncomputable def keys_Ctrl (a0 : UInt8) : Option Int :=
  bnd (if (a0.toNat : Int) < 97 then
    some true
  else
    some (decide ((a0.toNat : Int) > 122)) : Option Bool) fun t1 =>
  if t1 = true then
    some 0
  else
    some (w64 (((ub ((a0.toNat : Int) - 97)).toNat : Int) + 1))
set_option maxHeartbeats 4000000 in
theorem keys_Ctrl_c {a0 : UInt8} {res : Int} (h0 : keys_Ctrl a0 = some res) : CallF X 50 [.val (.int .u8 (a0.toNat : Int))] [] (fun x => .val (.int .i64 res)) (fun x => []) := by
 unfold keys_Ctrl at h0
 refine CallF.mkG (X := X) Try.func50 rfl rfl Try.ntmps50 rfl rfl ?_
 refine T.seq ?_
 refine T.region ?_
 refine TL.op1 (OpR.pure rfl) rfl ?_
 refine TL.nil ?_
 show T X _ _ _
 refine T.seq ?_
 refine T.seq ?_
 obtain ⟨t1, ht1, h0⟩ := bnd_some h0
 refine T.cutC (fun S' => S' = ⟨[(8, .val (.bool t1)), (2, .val (.int .i64 0)), (0, .val (.int .u8 (a0.toNat : Int)))], [], 13⟩) (fun _ h => h) ?_ ?_
 · refine T.region ?_
   refine TL.op1 (OpR.pure rfl) rfl ?_
   refine TL.op1 (OpR.pure rfl) rfl ?_
   refine TL.op1 (OpR.pure rfl) rfl ?_
   rcases ite_some ht1 with ⟨c2, ht1⟩ | ⟨c2, ht1⟩
   · refine TL.off rfl rfl rfl rfl (decide_eq_true c2) rfl rfl ?_
     refine TL.off rfl rfl rfl rfl (decide_eq_true c2) rfl rfl ?_
     refine TL.op1 (OpR.pickT rfl (decide_eq_true c2) rfl) rfl ?_
     refine TL.nil ?_
     obtain rfl := Option.some.inj ht1
     exact ⟨_, Gst.only [0, 2, 8] rfl, rfl⟩
   refine TL.on rfl rfl rfl rfl (decide_eq_false c2) ?_
   refine TL.op1 (OpR.pure rfl) rfl ?_
   refine TL.on rfl rfl rfl rfl (decide_eq_false c2) ?_
   refine TL.op1 (OpR.pure rfl) rfl ?_
   refine TL.op1 (OpR.pickF rfl (decide_eq_false c2) rfl) rfl ?_
   refine TL.nil ?_
   obtain rfl := Option.some.inj ht1
   exact ⟨_, Gst.only [0, 2, 8] rfl, rfl⟩
 rintro _ rfl
 show T X _ _ _
 rcases ite_some h0 with ⟨c3, h0⟩ | ⟨c3, h0⟩
 · refine T.condT rfl (c3) ?_
   refine T.seq ?_
   refine T.region ?_
   refine TL.op1 (OpR.pure rfl) rfl ?_
   refine TL.nil ?_
   show T X _ _ _
   refine T.ret ?_
   obtain rfl := Option.some.inj h0
   exact PostG.retP (ks := []) (Gst.only [2] rfl) undef (ResL.cons (ResV.tmp rfl) ResL.nil) rfl rfl rfl rfl
 refine T.condF rfl (eq_false_of_ne_true c3) ?_
 refine T.skip ?_
 show T X _ _ _
 refine T.seq ?_
 refine T.region ?_
 refine TL.op1 (OpR.pure rfl) rfl ?_
 refine TL.op1 (OpR.cast (OpR.pure rfl) (intE (ub_wrap _))) rfl ?_
 refine TL.op1 (OpR.cast (OpR.pure rfl) (intE (w64_u8 _))) rfl ?_
 refine TL.op1 (OpR.pure rfl) rfl ?_
 refine TL.op1 (OpR.pure rfl) rfl ?_
 refine TL.nil ?_
 show T X _ _ _
 refine T.ret ?_
 obtain rfl := Option.some.inj h0
 exact PostG.retP (ks := []) (Gst.only [2] rfl) undef (ResL.cons (ResV.tmp rfl) ResL.nil) rfl rfl rfl rfl
noncomputable def utf_Rune (a0 : List UInt8) (a1 : Int) : Option Int :=
  bnd (utf_within a0 a1) fun x1 =>
  if x1 = true then
    bnd (cut a0 a1 (a0.length : Int)) fun x3 =>
    bnd (utf_decode x3) fun x4 =>
    some x4.1
  else
    some (-1)
set_option maxHeartbeats 4000000 in
theorem utf_Rune_c {a0 : List UInt8} {a1 : Int} {res : Int} (h0 : utf_Rune a0 a1 = some res) : CallF X 68 [.sl 1 (List.map byteD a0), .val (.int .i64 a1)] [] (fun x => .val (.int .i64 res)) (fun x => []) := by
 unfold utf_Rune at h0
 refine CallF.mkG (X := X) Try.func68 rfl rfl Try.ntmps68 rfl rfl ?_
 refine T.seq ?_
 refine T.region ?_
 refine TL.op1 (OpR.pure rfl) rfl ?_
 refine TL.nil ?_
 show T X _ _ _
 refine T.seq ?_
 refine T.seq ?_
 refine T.region ?_
 refine TL.op1 (OpR.pure rfl) rfl ?_
 refine TL.op1 (OpR.pure rfl) rfl ?_
 obtain ⟨x1, hx1, h0⟩ := bnd_some h0
 refine TL.op1 (OpR.call0 fn73 (utf_within_c hx1) rfl) rfl ?_
 refine TL.op1 (OpR.pure rfl) rfl ?_
 refine TL.nil ?_
 show T X _ _ _
 rcases ite_some h0 with ⟨c2, h0⟩ | ⟨c2, h0⟩
 rotate_left
 · refine T.condT rfl (not_f (eq_false_of_ne_true c2)) ?_
   refine T.seq ?_
   refine T.region ?_
   refine TL.op1 (OpR.pure rfl) rfl ?_
   refine TL.nil ?_
   show T X _ _ _
   refine T.ret ?_
   obtain rfl := Option.some.inj h0
   exact PostG.retP (ks := []) (Gst.only [4] rfl) undef (ResL.cons (ResV.tmp rfl) ResL.nil) rfl rfl rfl rfl
 refine T.condF rfl (not_t (c2)) ?_
 refine T.skip ?_
 show T X _ _ _
 refine T.seq ?_
 refine T.region ?_
 refine TL.op1 (OpR.pure rfl) rfl ?_
 refine TL.op1 (OpR.pure rfl) rfl ?_
 obtain ⟨x3, hx3, h0⟩ := bnd_some h0
 refine TL.op1 (OpR.sliceM (sz := 1) byteD hx3 rfl rfl rfl rfl (BdM.some rfl) BdM.none rfl) rfl ?_
 obtain ⟨x4, hx4, h0⟩ := bnd_some h0
 refine TL.op1 (OpR.call0 fn74 (utf_decode_c hx4) rfl) rfl ?_
 refine TL.op1 (OpR.pure rfl) rfl ?_
 refine TL.op1 (OpR.pure rfl) rfl ?_
 refine TL.op1 (OpR.pure rfl) rfl ?_
 refine TL.op1 (OpR.pure rfl) rfl ?_
 refine TL.op1 (OpR.pure rfl) rfl ?_
 refine TL.nil ?_
 show T X _ _ _
 refine T.seq ?_
 refine T.region ?_
 refine TL.op1 (OpR.pure rfl) rfl ?_
 refine TL.op1 (OpR.pure rfl) rfl ?_
 refine TL.nil ?_
 show T X _ _ _
 refine T.ret ?_
 obtain rfl := Option.some.inj h0
 exact PostG.retP (ks := []) (Gst.only [4] rfl) undef (ResL.cons (ResV.tmp rfl) ResL.nil) rfl rfl rfl rfl
noncomputable def utf_Class (a0 : Int) : Option Int :=
  bnd (if a0 = 32 then
    some (a0 == 32)
  else
    if a0 ≥ 9 then
      some (decide (a0 ≤ 13))
    else
      some false : Option Bool) fun t1 =>
  if t1 = true then
    some 0
  else
    bnd (if a0 > 127 then
      some (decide (a0 > 127))
    else
      if a0 = 95 then
        some (a0 == 95)
      else
        if a0 ≥ 48 then
          some (decide (a0 ≤ 57))
        else
          some false : Option Bool) fun t5 =>
    if t5 = true then
      some 1
    else
      bnd (if a0 ≥ 97 then
        some (decide (a0 ≤ 122))
      else
        some false : Option Bool) fun t10 =>
      bnd (if t10 = true then
        some t10
      else
        if a0 ≥ 65 then
          some (decide (a0 ≤ 90))
        else
          some false : Option Bool) fun t12 =>
      if t12 = true then
        some 1
      else
        some 2
set_option maxHeartbeats 4000000 in
theorem utf_Class_c {a0 : Int} {res : Int} (h0 : utf_Class a0 = some res) : CallF X 67 [.val (.int .i64 a0)] [] (fun x => .val (.int .i64 res)) (fun x => []) := by
 unfold utf_Class at h0
 refine CallF.mkG (X := X) Try.func67 rfl rfl Try.ntmps67 rfl rfl ?_
 refine T.seq ?_
 refine T.region ?_
 refine TL.op1 (OpR.pure rfl) rfl ?_
 refine TL.nil ?_
 show T X _ _ _
 refine T.seq ?_
 refine T.block ?_
 refine T.seq ?_
 refine T.seq ?_
 refine T.region ?_
 refine TL.op1 (OpR.pure rfl) rfl ?_
 refine TL.op1 (OpR.pure rfl) rfl ?_
 refine TL.op1 (OpR.pure rfl) rfl ?_
 refine TL.nil ?_
 show T X _ _ _
 obtain ⟨t1, ht1, h0⟩ := bnd_some h0
 refine T.cutC (fun S' => S' = ⟨[(3, .val (.bool t1)), (2, .val (.int .i64 0)), (0, .val (.int .i64 a0))], [], 36⟩) (fun _ h => h) ?_ ?_
 · rcases ite_some ht1 with ⟨c2, ht1⟩ | ⟨c2, ht1⟩
   · refine T.condT rfl (beq_iff_eq.2 c2) ?_
     refine T.skip ?_
     obtain rfl := Option.some.inj ht1
     exact ⟨_, Gst.only [0, 2, 3] rfl, rfl⟩
   refine T.condF rfl (beq_eq_false_iff_ne.2 c2) ?_
   refine T.region ?_
   refine TL.op1 (OpR.pure rfl) rfl ?_
   refine TL.op1 (OpR.pure rfl) rfl ?_
   refine TL.op1 (OpR.pure rfl) rfl ?_
   rcases ite_some ht1 with ⟨c3, ht1⟩ | ⟨c3, ht1⟩
   rotate_left
   · refine TL.off rfl rfl rfl rfl (decide_eq_false c3) rfl rfl ?_
     refine TL.off rfl rfl rfl rfl (decide_eq_false c3) rfl rfl ?_
     refine TL.op1 (OpR.pickF rfl (decide_eq_false c3) rfl) rfl ?_
     refine TL.op1 (OpR.pure rfl) rfl ?_
     refine TL.nil ?_
     obtain rfl := Option.some.inj ht1
     exact ⟨_, Gst.only [0, 2, 3] rfl, rfl⟩
   refine TL.on rfl rfl rfl rfl (decide_eq_true c3) ?_
   refine TL.op1 (OpR.pure rfl) rfl ?_
   refine TL.on rfl rfl rfl rfl (decide_eq_true c3) ?_
   refine TL.op1 (OpR.pure rfl) rfl ?_
   refine TL.op1 (OpR.pickT rfl (decide_eq_true c3) rfl) rfl ?_
   refine TL.op1 (OpR.pure rfl) rfl ?_
   refine TL.nil ?_
   obtain rfl := Option.some.inj ht1
   exact ⟨_, Gst.only [0, 2, 3] rfl, rfl⟩
 rintro _ rfl
 show T X _ _ _
 rcases ite_some h0 with ⟨c4, h0⟩ | ⟨c4, h0⟩
 · refine T.condT rfl (c4) ?_
   refine T.seq ?_
   refine T.region ?_
   refine TL.op1 (OpR.pure rfl) rfl ?_
   refine TL.nil ?_
   show T X _ _ _
   refine T.ret ?_
   obtain rfl := Option.some.inj h0
   exact PostG.retP (ks := []) (Gst.only [2] rfl) undef (ResL.cons (ResV.tmp rfl) ResL.nil) rfl rfl rfl rfl
 refine T.condF rfl (eq_false_of_ne_true c4) ?_
 refine T.seq ?_
 refine T.seq ?_
 refine T.region ?_
 refine TL.op1 (OpR.pure rfl) rfl ?_
 refine TL.op1 (OpR.pure rfl) rfl ?_
 refine TL.op1 (OpR.pure rfl) rfl ?_
 refine TL.nil ?_
 show T X _ _ _
 obtain ⟨t5, ht5, h0⟩ := bnd_some h0
 refine T.cutC (fun S' => S' = ⟨[(12, .val (.bool t5)), (2, .val (.int .i64 0)), (0, .val (.int .i64 a0))], [], 36⟩) (fun _ h => h) ?_ ?_
 · rcases ite_some ht5 with ⟨c6, ht5⟩ | ⟨c6, ht5⟩
   · refine T.condT rfl (decide_eq_true c6) ?_
     refine T.skip ?_
     obtain rfl := Option.some.inj ht5
     exact ⟨_, Gst.only [0, 2, 12] rfl, rfl⟩
   refine T.condF rfl (decide_eq_false c6) ?_
   refine T.seq ?_
   refine T.region ?_
   refine TL.op1 (OpR.pure rfl) rfl ?_
   refine TL.op1 (OpR.pure rfl) rfl ?_
   refine TL.op1 (OpR.pure rfl) rfl ?_
   refine TL.nil ?_
   show T X _ _ _
   rcases ite_some ht5 with ⟨c7, ht5⟩ | ⟨c7, ht5⟩
   · refine T.condT rfl (beq_iff_eq.2 c7) ?_
     refine T.skip ?_
     obtain rfl := Option.some.inj ht5
     exact ⟨_, Gst.only [0, 2, 12] rfl, rfl⟩
   refine T.condF rfl (beq_eq_false_iff_ne.2 c7) ?_
   refine T.region ?_
   refine TL.op1 (OpR.pure rfl) rfl ?_
   refine TL.op1 (OpR.pure rfl) rfl ?_
   refine TL.op1 (OpR.pure rfl) rfl ?_
   rcases ite_some ht5 with ⟨c8, ht5⟩ | ⟨c8, ht5⟩
   rotate_left
   · refine TL.off rfl rfl rfl rfl (decide_eq_false c8) rfl rfl ?_
     refine TL.off rfl rfl rfl rfl (decide_eq_false c8) rfl rfl ?_
     refine TL.op1 (OpR.pickF rfl (decide_eq_false c8) rfl) rfl ?_
     refine TL.op1 (OpR.pure rfl) rfl ?_
     refine TL.nil ?_
     obtain rfl := Option.some.inj ht5
     exact ⟨_, Gst.only [0, 2, 12] rfl, rfl⟩
   refine TL.on rfl rfl rfl rfl (decide_eq_true c8) ?_
   refine TL.op1 (OpR.pure rfl) rfl ?_
   refine TL.on rfl rfl rfl rfl (decide_eq_true c8) ?_
   refine TL.op1 (OpR.pure rfl) rfl ?_
   refine TL.op1 (OpR.pickT rfl (decide_eq_true c8) rfl) rfl ?_
   refine TL.op1 (OpR.pure rfl) rfl ?_
   refine TL.nil ?_
   obtain rfl := Option.some.inj ht5
   exact ⟨_, Gst.only [0, 2, 12] rfl, rfl⟩
 rintro _ rfl
 show T X _ _ _
 rcases ite_some h0 with ⟨c9, h0⟩ | ⟨c9, h0⟩
 · refine T.condT rfl (c9) ?_
   refine T.seq ?_
   refine T.region ?_
   refine TL.op1 (OpR.pure rfl) rfl ?_
   refine TL.nil ?_
   show T X _ _ _
   refine T.ret ?_
   obtain rfl := Option.some.inj h0
   exact PostG.retP (ks := []) (Gst.only [2] rfl) undef (ResL.cons (ResV.tmp rfl) ResL.nil) rfl rfl rfl rfl
 refine T.condF rfl (eq_false_of_ne_true c9) ?_
 refine T.seq ?_
 refine T.seq ?_
 obtain ⟨t10, ht10, h0⟩ := bnd_some h0
 refine T.cutC (fun S' => S' = ⟨[(23, .val (.bool t10)), (2, .val (.int .i64 0)), (0, .val (.int .i64 a0))], [], 36⟩) (fun _ h => h) ?_ ?_
 · refine T.region ?_
   refine TL.op1 (OpR.pure rfl) rfl ?_
   refine TL.op1 (OpR.pure rfl) rfl ?_
   refine TL.op1 (OpR.pure rfl) rfl ?_
   rcases ite_some ht10 with ⟨c11, ht10⟩ | ⟨c11, ht10⟩
   rotate_left
   · refine TL.off rfl rfl rfl rfl (decide_eq_false c11) rfl rfl ?_
     refine TL.off rfl rfl rfl rfl (decide_eq_false c11) rfl rfl ?_
     refine TL.op1 (OpR.pickF rfl (decide_eq_false c11) rfl) rfl ?_
     refine TL.op1 (OpR.pure rfl) rfl ?_
     refine TL.nil ?_
     obtain rfl := Option.some.inj ht10
     exact ⟨_, Gst.only [0, 2, 23] rfl, rfl⟩
   refine TL.on rfl rfl rfl rfl (decide_eq_true c11) ?_
   refine TL.op1 (OpR.pure rfl) rfl ?_
   refine TL.on rfl rfl rfl rfl (decide_eq_true c11) ?_
   refine TL.op1 (OpR.pure rfl) rfl ?_
   refine TL.op1 (OpR.pickT rfl (decide_eq_true c11) rfl) rfl ?_
   refine TL.op1 (OpR.pure rfl) rfl ?_
   refine TL.nil ?_
   obtain rfl := Option.some.inj ht10
   exact ⟨_, Gst.only [0, 2, 23] rfl, rfl⟩
 rintro _ rfl
 show T X _ _ _
 obtain ⟨t12, ht12, h0⟩ := bnd_some h0
 refine T.cutC (fun S' => S' = ⟨[(23, .val (.bool t12)), (2, .val (.int .i64 0))], [], 36⟩) (fun _ h => h) ?_ ?_
 rotate_left
 · rintro _ rfl
   show T X _ _ _
   rcases ite_some h0 with ⟨c15, h0⟩ | ⟨c15, h0⟩
   · refine T.condT rfl (c15) ?_
     refine T.seq ?_
     refine T.region ?_
     refine TL.op1 (OpR.pure rfl) rfl ?_
     refine TL.nil ?_
     show T X _ _ _
     refine T.ret ?_
     obtain rfl := Option.some.inj h0
     exact PostG.retP (ks := []) (Gst.only [2] rfl) undef (ResL.cons (ResV.tmp rfl) ResL.nil) rfl rfl rfl rfl
   refine T.condF rfl (eq_false_of_ne_true c15) ?_
   refine T.skip ?_
   show T X _ _ _
   refine T.seq ?_
   refine T.region ?_
   refine TL.op1 (OpR.pure rfl) rfl ?_
   refine TL.nil ?_
   show T X _ _ _
   refine T.ret ?_
   obtain rfl := Option.some.inj h0
   exact PostG.retP (ks := []) (Gst.only [2] rfl) undef (ResL.cons (ResV.tmp rfl) ResL.nil) rfl rfl rfl rfl
 rcases ite_some ht12 with ⟨c13, ht12⟩ | ⟨c13, ht12⟩
 · refine T.condT rfl (c13) ?_
   refine T.skip ?_
   obtain rfl := Option.some.inj ht12
   exact ⟨_, Gst.only [2, 23] rfl, rfl⟩
 refine T.condF rfl (eq_false_of_ne_true c13) ?_
 refine T.region ?_
 refine TL.op1 (OpR.pure rfl) rfl ?_
 refine TL.op1 (OpR.pure rfl) rfl ?_
 refine TL.op1 (OpR.pure rfl) rfl ?_
 rcases ite_some ht12 with ⟨c14, ht12⟩ | ⟨c14, ht12⟩
 rotate_left
 · refine TL.off rfl rfl rfl rfl (decide_eq_false c14) rfl rfl ?_
   refine TL.off rfl rfl rfl rfl (decide_eq_false c14) rfl rfl ?_
   refine TL.op1 (OpR.pickF rfl (decide_eq_false c14) rfl) rfl ?_
   refine TL.op1 (OpR.pure rfl) rfl ?_
   refine TL.nil ?_
   obtain rfl := Option.some.inj ht12
   exact ⟨_, Gst.only [2, 23] rfl, rfl⟩
 refine TL.on rfl rfl rfl rfl (decide_eq_true c14) ?_
 refine TL.op1 (OpR.pure rfl) rfl ?_
 refine TL.on rfl rfl rfl rfl (decide_eq_true c14) ?_
 refine TL.op1 (OpR.pure rfl) rfl ?_
 refine TL.op1 (OpR.pickT rfl (decide_eq_true c14) rfl) rfl ?_
 refine TL.op1 (OpR.pure rfl) rfl ?_
 refine TL.nil ?_
 obtain rfl := Option.some.inj ht12
 exact ⟨_, Gst.only [2, 23] rfl, rfl⟩
noncomputable def line_word_1 (a0 : Int) (a1 : List UInt8) : Option Int :=
  bnd (utf_Prev a1 a0) fun x2 =>
  bnd (utf_Rune a1 x2) fun x3 =>
  bnd (utf_Class x3) fun x4 =>
  some x4
set_option maxHeartbeats 4000000 in
theorem line_word_1_c {a0 : Int} {a1 : List UInt8} {b0 : Nat} {res : Int} (h0 : line_word_1 a0 a1 = some res) : CallF X 66 [.val (.int .i64 a0), .val (.pointer (some ⟨b0, 0, none⟩))] [.var b0 [.sl 1 (List.map byteD a1)] 41] (fun x => .val (.int .i64 res)) (fun x => [.var b0 [.sl 1 (List.map byteD a1)] 41]) := by
 unfold line_word_1 at h0
 refine CallF.mkG (X := X) Try.func66 rfl rfl Try.ntmps66 rfl rfl ?_
 refine T.seq ?_
 refine T.region ?_
 refine TL.op1 (OpR.pure rfl) rfl ?_
 refine TL.nil ?_
 show T X _ _ _
 refine T.seq ?_
 obtain ⟨x2, hx2, h0⟩ := bnd_some h0
 obtain ⟨x3, hx3, h0⟩ := bnd_some h0
 obtain ⟨x4, hx4, h0⟩ := bnd_some h0
 refine T.drawQ drawsX [.sl 1 (List.map byteD a1), .sl 1 (List.map byteD a1), .val (.int .i64 a0), .val (.int .i64 x2), .val (.int .i64 x3), .val (.int .i64 x4), .val (.int .i64 x4)] [0, 1, 3, 4, 5, 6, 7, 8, 9] (by decide +kernel) rfl ?_ rfl ?_
 rotate_left
 · show T X _ _ _
   refine T.ret ?_
   obtain rfl := Option.some.inj h0
   exact PostG.retP (ks := [0]) (Gst.only [3] rfl) undef (ResL.cons (ResV.tmp rfl) ResL.nil) rfl rfl rfl rfl
 refine OpsQ.yes (Want.plain rfl) rfl (OpR.loadPtr 0 rfl rfl rfl rfl) ?_
 refine OpsQ.yes (Want.plain rfl) rfl (OpR.loadPtr 0 rfl rfl rfl rfl) ?_
 refine OpsQ.yes (Want.plain rfl) rfl (OpR.pure rfl) ?_
 refine OpsQ.yes (Want.plain rfl) rfl (OpR.call0 fn48 (utf_Prev_c hx2) rfl) ?_
 refine OpsQ.yes (Want.plain rfl) rfl (OpR.call0 fn68 (utf_Rune_c hx3) rfl) ?_
 refine OpsQ.yes (Want.plain rfl) rfl (OpR.call0 fn67 (utf_Class_c hx4) rfl) ?_
 refine OpsQ.yes (Want.plain rfl) rfl (OpR.pure rfl) ?_
 exact OpsQ.nil
noncomputable def line_word.l1 (a0 : List UInt8) (s3 : Int) : Option (Lp Int Int) :=
  bnd (if s3 > 0 then
    bnd (line_word_1 s3 a0) fun x13 =>
    some (x13 == 0)
  else
    some false : Option Bool) fun t11 =>
  if t11 = true then
    bnd (utf_Prev a0 s3) fun x15 =>
    some (Lp.next x15)
  else
    some (Lp.done s3)
noncomputable def line_word.l2 (a0 : List UInt8) (t2 : Int) (s17 : Int) : Option (Lp Int Int) :=
  bnd (if s17 > 0 then
    bnd (line_word_1 s17 a0) fun x27 =>
    bnd (line_word_1 t2 a0) fun x28 =>
    some (x27 == x28)
  else
    some false : Option Bool) fun t25 =>
  if t25 = true then
    bnd (utf_Prev a0 s17) fun x30 =>
    some (Lp.next x30)
  else
    some (Lp.done s17)
noncomputable def line_word (a0 : List UInt8) (a1 : Int) : Option Int :=
  bnd (loop (line_word.l1 a0) a1 : Option Int) fun t2 =>
  bnd (loop (line_word.l2 a0 t2) t2 : Option Int) fun t16 =>
  some t16
set_option maxHeartbeats 4000000 in
theorem line_word_c {a0 : List UInt8} {a1 : Int} {res : Int} (h0 : line_word a0 a1 = some res) : CallF X 51 [.sl 1 (List.map byteD a0), .val (.int .i64 a1)] [] (fun x => .val (.int .i64 res)) (fun x => []) := by
 unfold line_word at h0
 refine CallF.mkG (X := X) Try.func51 rfl rfl Try.ntmps51 rfl rfl ?_
 refine T.seq ?_
 refine T.region ?_
 refine TL.op (OpR.boxVar rfl rfl (fun _ => rfl)) rfl (fun p1 => ?_)
 refine TL.op1 (OpR.pure rfl) rfl ?_
 refine TL.nil ?_
 show T X _ _ _
 refine T.seq ?_
 refine T.region ?_
 refine TL.op1 (OpR.pure rfl) rfl ?_
 refine TL.op1 (OpR.pure rfl) rfl ?_
 refine TL.nil ?_
 show T X _ _ _
 refine T.seq ?_
 obtain ⟨t2, ht2, h0⟩ := bnd_some h0
 refine T.cutC (fun S' => S' = ⟨[(5, .fn (.func 66) [] [.val (.pointer (some ⟨(blk p1), 0, none⟩))]), (4, .val (.int .i64 0)), (2, .val (.pointer (some ⟨(blk p1), 0, none⟩))), (1, .val (.int .i64 t2))], [.var (blk p1) [.sl 1 (List.map byteD a0)] 41], 35⟩) (fun _ h => h) ?_ ?_
 · refine T.block ?_
   obtain ⟨n4, n9⟩ := loop_some ht2
   refine T.loop (fun n S' => ∃ S'', Gst S' S'' ∧ ∃ s3 : Int, S'' = ⟨[(5, .fn (.func 66) [] [.val (.pointer (some ⟨(blk p1), 0, none⟩))]), (4, .val (.int .i64 0)), (2, .val (.pointer (some ⟨(blk p1), 0, none⟩))), (1, .val (.int .i64 s3))], [.var (blk p1) [.sl 1 (List.map byteD a0)] 41], 35⟩ ∧ iter (line_word.l1 a0) n s3 = some t2) n4 ?_ ?_
   · exact ⟨_, Gst.only [1, 2, 4, 5] rfl, a1, rfl, n9⟩
   rintro n4 _ ⟨_, g, s3, rfl, i8⟩
   refine T.ghost g ?_
   obtain ⟨m5, q6, rfl, q7, i8⟩ := iter_succ i8
   unfold line_word.l1 at q7
   refine T.seq ?_
   refine T.seq ?_
   obtain ⟨t11, ht11, q7⟩ := bnd_some q7
   refine T.cutC (fun S' => S' = ⟨[(15, .val (.bool t11)), (5, .fn (.func 66) [] [.val (.pointer (some ⟨(blk p1), 0, none⟩))]), (4, .val (.int .i64 0)), (2, .val (.pointer (some ⟨(blk p1), 0, none⟩))), (1, .val (.int .i64 s3))], [.var (blk p1) [.sl 1 (List.map byteD a0)] 41], 35⟩) (fun _ h => h) ?_ ?_
   rotate_left
   · rintro _ rfl
     show T X _ _ _
     rcases ite_some q7 with ⟨c14, q7⟩ | ⟨c14, q7⟩
     rotate_left
     · refine T.condF rfl (eq_false_of_ne_true c14) ?_
       refine T.exit ?_
       obtain rfl := Option.some.inj q7
       obtain rfl : _ = _ := i8
       exact ⟨_, Gst.only [1, 2, 4, 5] rfl, rfl⟩
     refine T.condT rfl (c14) ?_
     refine T.skip ?_
     show T X _ _ _
     refine T.block ?_
     refine T.region ?_
     refine TL.op1 (OpR.loadPtr 0 rfl rfl rfl rfl) rfl ?_
     refine TL.op1 (OpR.pure rfl) rfl ?_
     obtain ⟨x15, hx15, q7⟩ := bnd_some q7
     refine TL.op1 (OpR.call0 fn48 (utf_Prev_c hx15) rfl) rfl ?_
     refine TL.op1 (OpR.pure rfl) rfl ?_
     refine TL.nil ?_
     obtain rfl := Option.some.inj q7
     exact ⟨m5, Nat.lt_succ_self _, _, Gst.only [1, 2, 4, 5] rfl, x15, rfl, i8⟩
   refine T.region ?_
   refine TL.op1 (OpR.pure rfl) rfl ?_
   refine TL.op1 (OpR.pure rfl) rfl ?_
   refine TL.op1 (OpR.pure rfl) rfl ?_
   rcases ite_some ht11 with ⟨c12, ht11⟩ | ⟨c12, ht11⟩
   rotate_left
   · refine TL.off rfl rfl rfl rfl (decide_eq_false c12) rfl rfl ?_
     refine TL.off rfl rfl rfl rfl (decide_eq_false c12) rfl rfl ?_
     refine TL.off rfl rfl rfl rfl (decide_eq_false c12) rfl rfl ?_
     refine TL.off rfl rfl rfl rfl (decide_eq_false c12) rfl rfl ?_
     refine TL.op1 (OpR.pickF rfl (decide_eq_false c12) rfl) rfl ?_
     refine TL.nil ?_
     obtain rfl := Option.some.inj ht11
     exact ⟨_, Gst.only [1, 2, 4, 5, 15] rfl, rfl⟩
   refine TL.on rfl rfl rfl rfl (decide_eq_true c12) ?_
   refine TL.op1 (OpR.pure rfl) rfl ?_
   refine TL.on rfl rfl rfl rfl (decide_eq_true c12) ?_
   refine TL.op1 (OpR.pure rfl) rfl ?_
   refine TL.on rfl rfl rfl rfl (decide_eq_true c12) ?_
   obtain ⟨x13, hx13, ht11⟩ := bnd_some ht11
   refine TL.op1 (OpR.callV [0] rfl fn66 (line_word_1_c hx13) rfl rfl rfl (fun _ => rfl)) rfl ?_
   refine TL.on rfl rfl rfl rfl (decide_eq_true c12) ?_
   refine TL.op1 (OpR.pure rfl) rfl ?_
   refine TL.op1 (OpR.pickT rfl (decide_eq_true c12) rfl) rfl ?_
   refine TL.nil ?_
   obtain rfl := Option.some.inj ht11
   exact ⟨_, Gst.only [1, 2, 4, 5, 15] rfl, rfl⟩
 rintro _ rfl
 show T X _ _ _
 refine T.seq ?_
 refine T.seq ?_
 refine T.region ?_
 refine TL.op1 (OpR.pure rfl) rfl ?_
 refine TL.op1 (OpR.pure rfl) rfl ?_
 refine TL.nil ?_
 show T X _ _ _
 obtain ⟨t16, ht16, h0⟩ := bnd_some h0
 refine T.cutC (fun S' => S' = ⟨[(4, .val (.int .i64 0)), (1, .val (.int .i64 t16))], [], 35⟩) (fun _ h => h) ?_ ?_
 rotate_left
 · rintro _ rfl
   show T X _ _ _
   refine T.seq ?_
   refine T.region ?_
   refine TL.op1 (OpR.pure rfl) rfl ?_
   refine TL.op1 (OpR.pure rfl) rfl ?_
   refine TL.nil ?_
   show T X _ _ _
   refine T.ret ?_
   obtain rfl := Option.some.inj h0
   exact PostG.retP (ks := []) (Gst.only [4] rfl) undef (ResL.cons (ResV.tmp rfl) ResL.nil) rfl rfl rfl rfl
 refine T.block ?_
 obtain ⟨n18, n23⟩ := loop_some ht16
 refine T.loop (fun n S' => ∃ S'', Gst S' S'' ∧ ∃ s17 : Int, S'' = ⟨[(6, .val (.int .i64 t2)), (5, .fn (.func 66) [] [.val (.pointer (some ⟨(blk p1), 0, none⟩))]), (4, .val (.int .i64 0)), (2, .val (.pointer (some ⟨(blk p1), 0, none⟩))), (1, .val (.int .i64 s17))], [.var (blk p1) [.sl 1 (List.map byteD a0)] 41], 35⟩ ∧ iter (line_word.l2 a0 t2) n s17 = some t16) n18 ?_ ?_
 · exact ⟨_, Gst.only [1, 2, 4, 5, 6] rfl, t2, rfl, n23⟩
 rintro n18 _ ⟨_, g, s17, rfl, i22⟩
 refine T.ghost g ?_
 obtain ⟨m19, q20, rfl, q21, i22⟩ := iter_succ i22
 unfold line_word.l2 at q21
 refine T.seq ?_
 refine T.seq ?_
 obtain ⟨t25, ht25, q21⟩ := bnd_some q21
 refine T.cutC (fun S' => S' = ⟨[(30, .val (.bool t25)), (6, .val (.int .i64 t2)), (5, .fn (.func 66) [] [.val (.pointer (some ⟨(blk p1), 0, none⟩))]), (4, .val (.int .i64 0)), (2, .val (.pointer (some ⟨(blk p1), 0, none⟩))), (1, .val (.int .i64 s17))], [.var (blk p1) [.sl 1 (List.map byteD a0)] 41], 35⟩) (fun _ h => h) ?_ ?_
 rotate_left
 · rintro _ rfl
   show T X _ _ _
   rcases ite_some q21 with ⟨c29, q21⟩ | ⟨c29, q21⟩
   rotate_left
   · refine T.condF rfl (eq_false_of_ne_true c29) ?_
     refine T.exit ?_
     obtain rfl := Option.some.inj q21
     obtain rfl : _ = _ := i22
     exact ⟨_, Gst.trans (Gst.only [1, 4] rfl) (Gst.pick [] rfl rfl), rfl⟩
   refine T.condT rfl (c29) ?_
   refine T.skip ?_
   show T X _ _ _
   refine T.block ?_
   refine T.region ?_
   refine TL.op1 (OpR.loadPtr 0 rfl rfl rfl rfl) rfl ?_
   refine TL.op1 (OpR.pure rfl) rfl ?_
   obtain ⟨x30, hx30, q21⟩ := bnd_some q21
   refine TL.op1 (OpR.call0 fn48 (utf_Prev_c hx30) rfl) rfl ?_
   refine TL.op1 (OpR.pure rfl) rfl ?_
   refine TL.nil ?_
   obtain rfl := Option.some.inj q21
   exact ⟨m19, Nat.lt_succ_self _, _, Gst.only [1, 2, 4, 5, 6] rfl, x30, rfl, i22⟩
 refine T.region ?_
 refine TL.op1 (OpR.pure rfl) rfl ?_
 refine TL.op1 (OpR.pure rfl) rfl ?_
 refine TL.op1 (OpR.pure rfl) rfl ?_
 rcases ite_some ht25 with ⟨c26, ht25⟩ | ⟨c26, ht25⟩
 rotate_left
 · refine TL.off rfl rfl rfl rfl (decide_eq_false c26) rfl rfl ?_
   refine TL.off rfl rfl rfl rfl (decide_eq_false c26) rfl rfl ?_
   refine TL.off rfl rfl rfl rfl (decide_eq_false c26) rfl rfl ?_
   refine TL.off rfl rfl rfl rfl (decide_eq_false c26) rfl rfl ?_
   refine TL.off rfl rfl rfl rfl (decide_eq_false c26) rfl rfl ?_
   refine TL.off rfl rfl rfl rfl (decide_eq_false c26) rfl rfl ?_
   refine TL.off rfl rfl rfl rfl (decide_eq_false c26) rfl rfl ?_
   refine TL.op1 (OpR.pickF rfl (decide_eq_false c26) rfl) rfl ?_
   refine TL.nil ?_
   obtain rfl := Option.some.inj ht25
   exact ⟨_, Gst.only [1, 2, 4, 5, 6, 30] rfl, rfl⟩
 refine TL.on rfl rfl rfl rfl (decide_eq_true c26) ?_
 refine TL.op1 (OpR.pure rfl) rfl ?_
 refine TL.on rfl rfl rfl rfl (decide_eq_true c26) ?_
 refine TL.op1 (OpR.pure rfl) rfl ?_
 refine TL.on rfl rfl rfl rfl (decide_eq_true c26) ?_
 obtain ⟨x27, hx27, ht25⟩ := bnd_some ht25
 refine TL.op1 (OpR.callV [0] rfl fn66 (line_word_1_c hx27) rfl rfl rfl (fun _ => rfl)) rfl ?_
 refine TL.on rfl rfl rfl rfl (decide_eq_true c26) ?_
 refine TL.op1 (OpR.pure rfl) rfl ?_
 refine TL.on rfl rfl rfl rfl (decide_eq_true c26) ?_
 refine TL.op1 (OpR.pure rfl) rfl ?_
 refine TL.on rfl rfl rfl rfl (decide_eq_true c26) ?_
 obtain ⟨x28, hx28, ht25⟩ := bnd_some ht25
 refine TL.op1 (OpR.callV [0] rfl fn66 (line_word_1_c hx28) rfl rfl rfl (fun _ => rfl)) rfl ?_
 refine TL.on rfl rfl rfl rfl (decide_eq_true c26) ?_
 refine TL.op1 (OpR.pure rfl) rfl ?_
 refine TL.op1 (OpR.pickT rfl (decide_eq_true c26) rfl) rfl ?_
 refine TL.nil ?_
 obtain rfl := Option.some.inj ht25
 exact ⟨_, Gst.only [1, 2, 4, 5, 6, 30] rfl, rfl⟩
noncomputable def line_to (a0 : Int) (a1 : Int) : Option line_Edit :=
  some (⟨a0, a0, [], a1⟩ : line_Edit)
set_option maxHeartbeats 4000000 in
theorem line_to_c {a0 : Int} {a1 : Int} {res : line_Edit} (h0 : line_to a0 a1 = some res) : CallF X 52 [.val (.int .i64 a0), .val (.int .i64 a1)] [] (fun x => .agg [.val (.int .i64 res.fFrom), .val (.int .i64 res.fTo), .val (.string (bs res.fIn)), .val (.int .i64 res.fAt)]) (fun x => []) := by
 unfold line_to at h0
 refine CallF.mkG (X := X) Try.func52 rfl rfl Try.ntmps52 rfl rfl ?_
 refine T.seq ?_
 refine T.region ?_
 refine TL.op (OpR.alloc rfl rfl (fun _ => rfl)) rfl (fun p1 => ?_)
 refine TL.nil ?_
 show T X _ _ _
 refine T.seq ?_
 refine T.region ?_
 refine TL.op1 (OpR.pure rfl) rfl ?_
 refine TL.op1 (OpR.pure rfl) rfl ?_
 refine TL.op1 (OpR.pure rfl) rfl ?_
 refine TL.op1 (OpR.build rfl rfl rfl rfl rfl) rfl ?_
 refine TL.op0 (OpR.store 0 rfl rfl rfl rfl rfl rfl rfl rfl) ?_
 refine TL.nil ?_
 show T X _ _ _
 refine T.ret ?_
 obtain rfl := Option.some.inj h0
 exact PostG.retP (ks := []) (Gst.only [4] rfl) undef (ResL.cons (ResV.var 0 rfl rfl rfl rfl) ResL.nil) rfl rfl rfl rfl
noncomputable def line_Plan (a0 : List UInt8) (a1 : Int) (a2 : Int) : Option (line_Edit × Bool) :=
  bnd (line_bound a0 a1) fun x2 =>
  bnd (keys_Types a2) fun x3 =>
  bnd (if x3 = true then
    some x3
  else
    some (a2 == 10) : Option Bool) fun t4 =>
  if t4 = true then
    bnd (utf_Put a2) fun x7 =>
    some ((⟨x2, x2, x7, w64 (x2 + (x7.length : Int))⟩ : line_Edit), true)
  else
    if a2 = 8 then
      bnd (utf_Prev a0 x2) fun x9 =>
      bnd (line_gone x9 x2) fun x10 =>
      some (x10, true)
    else
      if a2 = 127 then
        bnd (utf_Next a0 x2) fun x12 =>
        bnd (line_gone x2 x12) fun x13 =>
        some (x13, true)
      else
        bnd (keys_Ctrl 117) fun x14 =>
        if a2 = x14 then
          bnd (line_gone 0 x2) fun x16 =>
          some (x16, true)
        else
          bnd (keys_Ctrl 119) fun x17 =>
          if a2 = x17 then
            bnd (line_word a0 x2) fun x19 =>
            bnd (line_gone x19 x2) fun x20 =>
            some (x20, true)
          else
            if a2 = (-1) then
              bnd (utf_Prev a0 x2) fun x22 =>
              bnd (line_to x2 x22) fun x23 =>
              some (x23, true)
            else
              if a2 = (-2) then
                bnd (utf_Next a0 x2) fun x25 =>
                bnd (line_to x2 x25) fun x26 =>
                some (x26, true)
              else
                if a2 = (-5) then
                  bnd (line_to x2 0) fun x28 =>
                  some (x28, true)
                else
                  if a2 = (-6) then
                    bnd (line_to x2 (a0.length : Int)) fun x30 =>
                    some (x30, true)
                  else
                    bnd (line_to x2 x2) fun x31 =>
                    some (x31, false)
set_option maxHeartbeats 4000000 in
theorem line_Plan_c {a0 : List UInt8} {a1 : Int} {a2 : Int} {res : line_Edit × Bool} (h0 : line_Plan a0 a1 a2 = some res) : CallF X 35 [.sl 1 (List.map byteD a0), .val (.int .i64 a1), .val (.int .i64 a2)] [] (fun x => .tup [.agg [.val (.int .i64 res.1.fFrom), .val (.int .i64 res.1.fTo), .val (.string (bs res.1.fIn)), .val (.int .i64 res.1.fAt)], .val (.bool res.2)]) (fun x => []) := by
 unfold line_Plan at h0
 refine CallF.mkG (X := X) Try.func35 rfl rfl Try.ntmps35 rfl rfl ?_
 refine T.seq ?_
 refine T.region ?_
 refine TL.op (OpR.alloc rfl rfl (fun _ => rfl)) rfl (fun p1 => ?_)
 refine TL.op1 (OpR.pure rfl) rfl ?_
 refine TL.nil ?_
 show T X _ _ _
 refine T.seq ?_
 refine T.region ?_
 refine TL.op1 (OpR.pure rfl) rfl ?_
 refine TL.op1 (OpR.pure rfl) rfl ?_
 obtain ⟨x2, hx2, h0⟩ := bnd_some h0
 refine TL.op1 (OpR.call0 fn36 (line_bound_c hx2) rfl) rfl ?_
 refine TL.op1 (OpR.pure rfl) rfl ?_
 refine TL.nil ?_
 show T X _ _ _
 refine T.seq ?_
 refine T.block ?_
 refine T.seq ?_
 refine T.seq ?_
 refine T.region ?_
 refine TL.op1 (OpR.pure rfl) rfl ?_
 obtain ⟨x3, hx3, h0⟩ := bnd_some h0
 refine TL.op1 (OpR.call0 fn45 (keys_Types_c hx3) rfl) rfl ?_
 refine TL.op1 (OpR.pure rfl) rfl ?_
 refine TL.nil ?_
 show T X _ _ _
 obtain ⟨t4, ht4, h0⟩ := bnd_some h0
 refine T.cutC (fun S' => S' = ⟨[(12, .val (.bool t4)), (7, .val (.bool false)), (6, .val (.pointer (some ⟨(blk p1), 0, none⟩))), (2, .val (.int .i64 a2)), (1, .val (.int .i64 x2)), (0, .sl 1 (List.map byteD a0))], [.var (blk p1) [.val (.int .i64 0), .val (.int .i64 0), .val (.string (bs [])), .val (.int .i64 0)] 79], 90⟩) (fun _ h => h) ?_ ?_
 · rcases ite_some ht4 with ⟨c5, ht4⟩ | ⟨c5, ht4⟩
   · refine T.condT rfl (c5) ?_
     refine T.skip ?_
     obtain rfl := Option.some.inj ht4
     exact ⟨_, Gst.only [0, 1, 2, 6, 7, 12] rfl, rfl⟩
   refine T.condF rfl (eq_false_of_ne_true c5) ?_
   refine T.region ?_
   refine TL.op1 (OpR.pure rfl) rfl ?_
   refine TL.op1 (OpR.pure rfl) rfl ?_
   refine TL.op1 (OpR.pure rfl) rfl ?_
   refine TL.nil ?_
   obtain rfl := Option.some.inj ht4
   exact ⟨_, Gst.only [0, 1, 2, 6, 7, 12] rfl, rfl⟩
 rintro _ rfl
 show T X _ _ _
 rcases ite_some h0 with ⟨c6, h0⟩ | ⟨c6, h0⟩
 · refine T.condT rfl (c6) ?_
   refine T.seq ?_
   refine T.region ?_
   refine TL.op1 (OpR.pure rfl) rfl ?_
   obtain ⟨x7, hx7, h0⟩ := bnd_some h0
   refine TL.op1 (OpR.call0 fn46 (utf_Put_c hx7) rfl) rfl ?_
   refine TL.op1 (OpR.toStr (bs := x7) rfl rfl rfl rfl rfl rfl rfl) rfl ?_
   refine TL.op1 (OpR.pure rfl) rfl ?_
   refine TL.nil ?_
   show T X _ _ _
   refine T.seq ?_
   refine T.region ?_
   refine TL.op1 (OpR.pure rfl) rfl ?_
   refine TL.op1 (OpR.pure rfl) rfl ?_
   refine TL.op1 (OpR.pure rfl) rfl ?_
   refine TL.op1 (OpR.pure rfl) rfl ?_
   refine TL.op1 (OpR.pure rfl) rfl ?_
   refine TL.op1 (OpR.cast (OpR.pure rfl) (intE (lenS _))) rfl ?_
   refine TL.op1 (OpR.pure rfl) rfl ?_
   refine TL.op1 (OpR.build rfl rfl rfl rfl rfl) rfl ?_
   refine TL.op0 (OpR.store 0 rfl rfl rfl rfl rfl rfl rfl rfl) ?_
   refine TL.op1 (OpR.pure rfl) rfl ?_
   refine TL.nil ?_
   show T X _ _ _
   refine T.ret ?_
   obtain rfl := Option.some.inj h0
   exact PostG.retP (ks := []) (Gst.only [6, 7] rfl) undef (ResL.cons (ResV.var 0 rfl rfl rfl rfl) (ResL.cons (ResV.tmp rfl) ResL.nil)) rfl rfl rfl rfl
 refine T.condF rfl (eq_false_of_ne_true c6) ?_
 refine T.seq ?_
 refine T.region ?_
 refine TL.op1 (OpR.pure rfl) rfl ?_
 refine TL.op1 (OpR.pure rfl) rfl ?_
 refine TL.op1 (OpR.pure rfl) rfl ?_
 refine TL.nil ?_
 show T X _ _ _
 rcases ite_some h0 with ⟨c8, h0⟩ | ⟨c8, h0⟩
 · refine T.condT rfl (beq_iff_eq.2 c8) ?_
   refine T.seq ?_
   refine T.region ?_
   refine TL.op1 (OpR.pure rfl) rfl ?_
   refine TL.op1 (OpR.pure rfl) rfl ?_
   obtain ⟨x9, hx9, h0⟩ := bnd_some h0
   refine TL.op1 (OpR.call0 fn48 (utf_Prev_c hx9) rfl) rfl ?_
   refine TL.op1 (OpR.pure rfl) rfl ?_
   obtain ⟨x10, hx10, h0⟩ := bnd_some h0
   refine TL.op1 (OpR.call0 fn47 (line_gone_c hx10) rfl) rfl ?_
   refine TL.op0 (OpR.store 0 rfl rfl rfl rfl rfl rfl rfl rfl) ?_
   refine TL.op1 (OpR.pure rfl) rfl ?_
   refine TL.nil ?_
   show T X _ _ _
   refine T.ret ?_
   obtain rfl := Option.some.inj h0
   exact PostG.retP (ks := []) (Gst.only [6, 7] rfl) undef (ResL.cons (ResV.var 0 rfl rfl rfl rfl) (ResL.cons (ResV.tmp rfl) ResL.nil)) rfl rfl rfl rfl
 refine T.condF rfl (beq_eq_false_iff_ne.2 c8) ?_
 refine T.seq ?_
 refine T.region ?_
 refine TL.op1 (OpR.pure rfl) rfl ?_
 refine TL.op1 (OpR.pure rfl) rfl ?_
 refine TL.op1 (OpR.pure rfl) rfl ?_
 refine TL.nil ?_
 show T X _ _ _
 rcases ite_some h0 with ⟨c11, h0⟩ | ⟨c11, h0⟩
 · refine T.condT rfl (beq_iff_eq.2 c11) ?_
   refine T.seq ?_
   refine T.region ?_
   refine TL.op1 (OpR.pure rfl) rfl ?_
   refine TL.op1 (OpR.pure rfl) rfl ?_
   refine TL.op1 (OpR.pure rfl) rfl ?_
   obtain ⟨x12, hx12, h0⟩ := bnd_some h0
   refine TL.op1 (OpR.call0 fn49 (utf_Next_c hx12) rfl) rfl ?_
   obtain ⟨x13, hx13, h0⟩ := bnd_some h0
   refine TL.op1 (OpR.call0 fn47 (line_gone_c hx13) rfl) rfl ?_
   refine TL.op0 (OpR.store 0 rfl rfl rfl rfl rfl rfl rfl rfl) ?_
   refine TL.op1 (OpR.pure rfl) rfl ?_
   refine TL.nil ?_
   show T X _ _ _
   refine T.ret ?_
   obtain rfl := Option.some.inj h0
   exact PostG.retP (ks := []) (Gst.only [6, 7] rfl) undef (ResL.cons (ResV.var 0 rfl rfl rfl rfl) (ResL.cons (ResV.tmp rfl) ResL.nil)) rfl rfl rfl rfl
 refine T.condF rfl (beq_eq_false_iff_ne.2 c11) ?_
 refine T.seq ?_
 refine T.region ?_
 refine TL.op1 (OpR.pure rfl) rfl ?_
 obtain ⟨x14, hx14, h0⟩ := bnd_some h0
 refine TL.op1 (OpR.call0 fn50 (keys_Ctrl_c hx14) rfl) rfl ?_
 refine TL.op1 (OpR.pure rfl) rfl ?_
 refine TL.op1 (OpR.pure rfl) rfl ?_
 refine TL.nil ?_
 show T X _ _ _
 rcases ite_some h0 with ⟨c15, h0⟩ | ⟨c15, h0⟩
 · refine T.condT rfl (beq_iff_eq.2 c15) ?_
   refine T.seq ?_
   refine T.region ?_
   refine TL.op1 (OpR.pure rfl) rfl ?_
   obtain ⟨x16, hx16, h0⟩ := bnd_some h0
   refine TL.op1 (OpR.call0 fn47 (line_gone_c hx16) rfl) rfl ?_
   refine TL.op0 (OpR.store 0 rfl rfl rfl rfl rfl rfl rfl rfl) ?_
   refine TL.op1 (OpR.pure rfl) rfl ?_
   refine TL.nil ?_
   show T X _ _ _
   refine T.ret ?_
   obtain rfl := Option.some.inj h0
   exact PostG.retP (ks := []) (Gst.only [6, 7] rfl) undef (ResL.cons (ResV.var 0 rfl rfl rfl rfl) (ResL.cons (ResV.tmp rfl) ResL.nil)) rfl rfl rfl rfl
 refine T.condF rfl (beq_eq_false_iff_ne.2 c15) ?_
 refine T.seq ?_
 refine T.region ?_
 refine TL.op1 (OpR.pure rfl) rfl ?_
 obtain ⟨x17, hx17, h0⟩ := bnd_some h0
 refine TL.op1 (OpR.call0 fn50 (keys_Ctrl_c hx17) rfl) rfl ?_
 refine TL.op1 (OpR.pure rfl) rfl ?_
 refine TL.op1 (OpR.pure rfl) rfl ?_
 refine TL.nil ?_
 show T X _ _ _
 rcases ite_some h0 with ⟨c18, h0⟩ | ⟨c18, h0⟩
 · refine T.condT rfl (beq_iff_eq.2 c18) ?_
   refine T.seq ?_
   refine T.region ?_
   refine TL.op1 (OpR.pure rfl) rfl ?_
   refine TL.op1 (OpR.pure rfl) rfl ?_
   obtain ⟨x19, hx19, h0⟩ := bnd_some h0
   refine TL.op1 (OpR.call0 fn51 (line_word_c hx19) rfl) rfl ?_
   refine TL.op1 (OpR.pure rfl) rfl ?_
   obtain ⟨x20, hx20, h0⟩ := bnd_some h0
   refine TL.op1 (OpR.call0 fn47 (line_gone_c hx20) rfl) rfl ?_
   refine TL.op0 (OpR.store 0 rfl rfl rfl rfl rfl rfl rfl rfl) ?_
   refine TL.op1 (OpR.pure rfl) rfl ?_
   refine TL.nil ?_
   show T X _ _ _
   refine T.ret ?_
   obtain rfl := Option.some.inj h0
   exact PostG.retP (ks := []) (Gst.only [6, 7] rfl) undef (ResL.cons (ResV.var 0 rfl rfl rfl rfl) (ResL.cons (ResV.tmp rfl) ResL.nil)) rfl rfl rfl rfl
 refine T.condF rfl (beq_eq_false_iff_ne.2 c18) ?_
 refine T.seq ?_
 refine T.region ?_
 refine TL.op1 (OpR.pure rfl) rfl ?_
 refine TL.op1 (OpR.pure rfl) rfl ?_
 refine TL.op1 (OpR.pure rfl) rfl ?_
 refine TL.nil ?_
 show T X _ _ _
 rcases ite_some h0 with ⟨c21, h0⟩ | ⟨c21, h0⟩
 · refine T.condT rfl (beq_iff_eq.2 c21) ?_
   refine T.seq ?_
   refine T.region ?_
   refine TL.op1 (OpR.pure rfl) rfl ?_
   refine TL.op1 (OpR.pure rfl) rfl ?_
   refine TL.op1 (OpR.pure rfl) rfl ?_
   obtain ⟨x22, hx22, h0⟩ := bnd_some h0
   refine TL.op1 (OpR.call0 fn48 (utf_Prev_c hx22) rfl) rfl ?_
   obtain ⟨x23, hx23, h0⟩ := bnd_some h0
   refine TL.op1 (OpR.call0 fn52 (line_to_c hx23) rfl) rfl ?_
   refine TL.op0 (OpR.store 0 rfl rfl rfl rfl rfl rfl rfl rfl) ?_
   refine TL.op1 (OpR.pure rfl) rfl ?_
   refine TL.nil ?_
   show T X _ _ _
   refine T.ret ?_
   obtain rfl := Option.some.inj h0
   exact PostG.retP (ks := []) (Gst.only [6, 7] rfl) undef (ResL.cons (ResV.var 0 rfl rfl rfl rfl) (ResL.cons (ResV.tmp rfl) ResL.nil)) rfl rfl rfl rfl
 refine T.condF rfl (beq_eq_false_iff_ne.2 c21) ?_
 refine T.seq ?_
 refine T.region ?_
 refine TL.op1 (OpR.pure rfl) rfl ?_
 refine TL.op1 (OpR.pure rfl) rfl ?_
 refine TL.op1 (OpR.pure rfl) rfl ?_
 refine TL.nil ?_
 show T X _ _ _
 rcases ite_some h0 with ⟨c24, h0⟩ | ⟨c24, h0⟩
 · refine T.condT rfl (beq_iff_eq.2 c24) ?_
   refine T.seq ?_
   refine T.region ?_
   refine TL.op1 (OpR.pure rfl) rfl ?_
   refine TL.op1 (OpR.pure rfl) rfl ?_
   refine TL.op1 (OpR.pure rfl) rfl ?_
   obtain ⟨x25, hx25, h0⟩ := bnd_some h0
   refine TL.op1 (OpR.call0 fn49 (utf_Next_c hx25) rfl) rfl ?_
   obtain ⟨x26, hx26, h0⟩ := bnd_some h0
   refine TL.op1 (OpR.call0 fn52 (line_to_c hx26) rfl) rfl ?_
   refine TL.op0 (OpR.store 0 rfl rfl rfl rfl rfl rfl rfl rfl) ?_
   refine TL.op1 (OpR.pure rfl) rfl ?_
   refine TL.nil ?_
   show T X _ _ _
   refine T.ret ?_
   obtain rfl := Option.some.inj h0
   exact PostG.retP (ks := []) (Gst.only [6, 7] rfl) undef (ResL.cons (ResV.var 0 rfl rfl rfl rfl) (ResL.cons (ResV.tmp rfl) ResL.nil)) rfl rfl rfl rfl
 refine T.condF rfl (beq_eq_false_iff_ne.2 c24) ?_
 refine T.seq ?_
 refine T.region ?_
 refine TL.op1 (OpR.pure rfl) rfl ?_
 refine TL.op1 (OpR.pure rfl) rfl ?_
 refine TL.op1 (OpR.pure rfl) rfl ?_
 refine TL.nil ?_
 show T X _ _ _
 rcases ite_some h0 with ⟨c27, h0⟩ | ⟨c27, h0⟩
 · refine T.condT rfl (beq_iff_eq.2 c27) ?_
   refine T.seq ?_
   refine T.region ?_
   refine TL.op1 (OpR.pure rfl) rfl ?_
   obtain ⟨x28, hx28, h0⟩ := bnd_some h0
   refine TL.op1 (OpR.call0 fn52 (line_to_c hx28) rfl) rfl ?_
   refine TL.op0 (OpR.store 0 rfl rfl rfl rfl rfl rfl rfl rfl) ?_
   refine TL.op1 (OpR.pure rfl) rfl ?_
   refine TL.nil ?_
   show T X _ _ _
   refine T.ret ?_
   obtain rfl := Option.some.inj h0
   exact PostG.retP (ks := []) (Gst.only [6, 7] rfl) undef (ResL.cons (ResV.var 0 rfl rfl rfl rfl) (ResL.cons (ResV.tmp rfl) ResL.nil)) rfl rfl rfl rfl
 refine T.condF rfl (beq_eq_false_iff_ne.2 c27) ?_
 refine T.seq ?_
 refine T.region ?_
 refine TL.op1 (OpR.pure rfl) rfl ?_
 refine TL.op1 (OpR.pure rfl) rfl ?_
 refine TL.op1 (OpR.pure rfl) rfl ?_
 refine TL.nil ?_
 show T X _ _ _
 rcases ite_some h0 with ⟨c29, h0⟩ | ⟨c29, h0⟩
 rotate_left
 · refine T.condF rfl (beq_eq_false_iff_ne.2 c29) ?_
   refine T.skip ?_
   show T X _ _ _
   refine T.seq ?_
   refine T.region ?_
   refine TL.op1 (OpR.pure rfl) rfl ?_
   refine TL.op1 (OpR.pure rfl) rfl ?_
   obtain ⟨x31, hx31, h0⟩ := bnd_some h0
   refine TL.op1 (OpR.call0 fn52 (line_to_c hx31) rfl) rfl ?_
   refine TL.op0 (OpR.store 0 rfl rfl rfl rfl rfl rfl rfl rfl) ?_
   refine TL.op1 (OpR.pure rfl) rfl ?_
   refine TL.nil ?_
   show T X _ _ _
   refine T.ret ?_
   obtain rfl := Option.some.inj h0
   exact PostG.retP (ks := []) (Gst.only [6, 7] rfl) undef (ResL.cons (ResV.var 0 rfl rfl rfl rfl) (ResL.cons (ResV.tmp rfl) ResL.nil)) rfl rfl rfl rfl
 refine T.condT rfl (beq_iff_eq.2 c29) ?_
 refine T.seq ?_
 refine T.region ?_
 refine TL.op1 (OpR.pure rfl) rfl ?_
 refine TL.op1 (OpR.pure rfl) rfl ?_
 refine TL.op1 (OpR.cast (OpR.pure rfl) (intE (lenM _ _))) rfl ?_
 obtain ⟨x30, hx30, h0⟩ := bnd_some h0
 refine TL.op1 (OpR.call0 fn52 (line_to_c hx30) rfl) rfl ?_
 refine TL.op0 (OpR.store 0 rfl rfl rfl rfl rfl rfl rfl rfl) ?_
 refine TL.op1 (OpR.pure rfl) rfl ?_
 refine TL.nil ?_
 show T X _ _ _
 refine T.ret ?_
 obtain rfl := Option.some.inj h0
 exact PostG.retP (ks := []) (Gst.only [6, 7] rfl) undef (ResL.cons (ResV.var 0 rfl rfl rfl rfl) (ResL.cons (ResV.tmp rfl) ResL.nil)) rfl rfl rfl rfl
noncomputable def line_Prompt_Key (a0 : line_Prompt) (a1 : Int) : Option (line_Prompt × Bool × Int) :=
  bnd (if a1 = 10 then
    some 0
  else
    some a1 : Option Int) fun t2 =>
  bnd (line_Plan a0.fS a0.fAt t2) fun x4 =>
  bnd (cut a0.fS 0 x4.1.fFrom) fun x7 =>
  bnd (catS x7 x4.1.fIn) fun x8 =>
  bnd (cut a0.fS x4.1.fTo (a0.fS.length : Int)) fun x9 =>
  bnd (catS x8 x9) fun x10 =>
  bnd (if (x10.length : Int) > 100 then
    some (decide ((x10.length : Int) > (a0.fS.length : Int)))
  else
    some false : Option Bool) fun t11 =>
  if t11 = true then
    some (a0, true, 7)
  else
    bnd (line_bound x10 x4.1.fAt) fun x14 =>
    some ((⟨x10, x14⟩ : line_Prompt), x4.2, 0)
set_option maxHeartbeats 4000000 in
theorem line_Prompt_Key_c {a0 : line_Prompt} {a1 : Int} {res : line_Prompt × Bool × Int} (h0 : line_Prompt_Key a0 a1 = some res) : CallF X 11 [.agg [.val (.string (bs a0.fS)), .val (.int .i64 a0.fAt)], .val (.int .i64 a1)] [] (fun x => .tup [.agg [.val (.string (bs res.1.fS)), .val (.int .i64 res.1.fAt)], .val (.bool res.2.1), .val (.int .i64 res.2.2)]) (fun x => []) := by
 unfold line_Prompt_Key at h0
 refine CallF.mkG (X := X) Try.func11 rfl rfl Try.ntmps11 rfl rfl ?_
 refine T.seq ?_
 refine T.region ?_
 refine TL.op1 (OpR.boxImm rfl rfl) rfl ?_
 refine TL.op (OpR.alloc rfl rfl (fun _ => rfl)) rfl (fun p1 => ?_)
 refine TL.op1 (OpR.pure rfl) rfl ?_
 refine TL.op1 (OpR.pure rfl) rfl ?_
 refine TL.nil ?_
 show T X _ _ _
 refine T.seq ?_
 refine T.seq ?_
 refine T.region ?_
 refine TL.op1 (OpR.pure rfl) rfl ?_
 refine TL.op1 (OpR.pure rfl) rfl ?_
 refine TL.nil ?_
 show T X _ _ _
 obtain ⟨t2, ht2, h0⟩ := bnd_some h0
 refine T.cutC (fun S' => S' = ⟨[(6, .val (.int .i64 0)), (5, .val (.bool false)), (4, .val (.pointer (some ⟨(blk p1), 0, none⟩))), (2, .nod [.val (.string (bs a0.fS)), .val (.int .i64 a0.fAt)]), (1, .val (.int .i64 t2))], [.var (blk p1) [.val (.string (bs [])), .val (.int .i64 0)] 26], 56⟩) (fun _ h => h) ?_ ?_
 · rcases ite_some ht2 with ⟨c3, ht2⟩ | ⟨c3, ht2⟩
   rotate_left
   · refine T.condF rfl (beq_eq_false_iff_ne.2 c3) ?_
     refine T.skip ?_
     obtain rfl := Option.some.inj ht2
     exact ⟨_, Gst.only [1, 2, 4, 5, 6] rfl, rfl⟩
   refine T.condT rfl (beq_iff_eq.2 c3) ?_
   refine T.region ?_
   refine TL.op1 (OpR.pure rfl) rfl ?_
   refine TL.nil ?_
   obtain rfl := Option.some.inj ht2
   exact ⟨_, Gst.only [1, 2, 4, 5, 6] rfl, rfl⟩
 rintro _ rfl
 show T X _ _ _
 refine T.seq ?_
 refine T.region ?_
 refine TL.op1 (OpR.pure rfl) rfl ?_
 refine TL.op1 (OpR.pure rfl) rfl ?_
 refine TL.op1 (OpR.toBytesM rfl rfl rfl rfl rfl rfl rfl) rfl ?_
 refine TL.op1 (OpR.pure rfl) rfl ?_
 refine TL.op1 (OpR.pure rfl) rfl ?_
 refine TL.op1 (OpR.pure rfl) rfl ?_
 obtain ⟨x4, hx4, h0⟩ := bnd_some h0
 refine TL.op1 (OpR.call0 fn35 (line_Plan_c hx4) rfl) rfl ?_
 refine TL.op1 (OpR.pure rfl) rfl ?_
 refine TL.op1 (OpR.pure rfl) rfl ?_
 refine TL.op1 (OpR.pure rfl) rfl ?_
 refine TL.op (OpR.alloc rfl rfl (fun _ => rfl)) rfl (fun p5 => ?_)
 refine TL.op0 (OpR.store 1 rfl rfl rfl rfl rfl rfl rfl rfl) ?_
 refine TL.op1 (OpR.pure rfl) rfl ?_
 refine TL.nil ?_
 show T X _ _ _
 refine T.seq ?_
 obtain ⟨x7, hx7, h0⟩ := bnd_some h0
 obtain ⟨x8, hx8, h0⟩ := bnd_some h0
 obtain ⟨x9, hx9, h0⟩ := bnd_some h0
 obtain ⟨x10, hx10, h0⟩ := bnd_some h0
 refine T.drawQ drawsX [.nod [.val (.string (bs a0.fS)), .val (.int .i64 a0.fAt)], .val (.string (bs a0.fS)), .val (.pointer (some ⟨(blk p5), 0, none⟩)), .val (.int .i64 x4.1.fFrom), .val (.string (bs x7)), .val (.pointer (some ⟨(blk p5), 2, none⟩)), .val (.string (bs x4.1.fIn)), .val (.string (bs x8)), .nod [.val (.string (bs a0.fS)), .val (.int .i64 a0.fAt)], .val (.string (bs a0.fS)), .val (.pointer (some ⟨(blk p5), 1, none⟩)), .val (.int .i64 x4.1.fTo), .val (.string (bs x9)), .val (.string (bs x10)), .val (.string (bs x10))] [1, 2, 4, 5, 6, 7, 8, 9, 12, 13, 14, 15, 16, 17, 18, 19, 20, 21, 22, 23, 24, 25, 26, 27, 28, 29, 30, 31, 32, 33, 34, 35] (by decide +kernel) rfl ?_ rfl ?_
 · refine OpsQ.yes (Want.plain rfl) rfl (OpR.pure rfl) ?_
   refine OpsQ.yes (Want.plain rfl) rfl (OpR.pure rfl) ?_
   refine OpsQ.yes (Want.plain rfl) rfl (OpR.pure rfl) ?_
   refine OpsQ.yes (Want.plain rfl) rfl (OpR.loadPtr 1 rfl rfl rfl rfl) ?_
   refine OpsQ.yes (Want.plain rfl) rfl (OpR.sliceS hx7 rfl rfl rfl BdM.none (BdM.some rfl)) ?_
   refine OpsQ.yes (Want.plain rfl) rfl (OpR.pure rfl) ?_
   refine OpsQ.yes (Want.plain rfl) rfl (OpR.loadPtr 1 rfl rfl rfl rfl) ?_
   refine OpsQ.yes (Want.plain rfl) rfl (OpR.concatM hx8 rfl rfl) ?_
   refine OpsQ.yes (Want.plain rfl) rfl (OpR.pure rfl) ?_
   refine OpsQ.yes (Want.plain rfl) rfl (OpR.pure rfl) ?_
   refine OpsQ.yes (Want.plain rfl) rfl (OpR.pure rfl) ?_
   refine OpsQ.yes (Want.plain rfl) rfl (OpR.loadPtr 1 rfl rfl rfl rfl) ?_
   refine OpsQ.yes (Want.plain rfl) rfl (OpR.sliceS hx9 rfl rfl rfl (BdM.some rfl) BdM.none) ?_
   refine OpsQ.yes (Want.plain rfl) rfl (OpR.concatM hx10 rfl rfl) ?_
   refine OpsQ.yes (Want.plain rfl) rfl (OpR.pure rfl) ?_
   exact OpsQ.nil
 show T X _ _ _
 refine T.seq ?_
 refine T.seq ?_
 obtain ⟨t11, ht11, h0⟩ := bnd_some h0
 refine T.cutC (fun S' => S' = ⟨[(46, .val (.bool t11)), (9, .val (.string (bs x10))), (8, .val (.bool x4.2)), (7, .val (.pointer (some ⟨(blk p5), 0, none⟩))), (6, .val (.int .i64 0)), (5, .val (.bool false)), (4, .val (.pointer (some ⟨(blk p1), 0, none⟩))), (2, .nod [.val (.string (bs a0.fS)), .val (.int .i64 a0.fAt)])], [.var (blk p1) [.val (.string (bs [])), .val (.int .i64 0)] 26, .var (blk p5) [.val (.int .i64 x4.1.fFrom), .val (.int .i64 x4.1.fTo), .val (.string (bs x4.1.fIn)), .val (.int .i64 x4.1.fAt)] 79], 56⟩) (fun _ h => h) ?_ ?_
 · refine T.region ?_
   refine TL.op1 (OpR.pure rfl) rfl ?_
   refine TL.op1 (OpR.cast (OpR.pure rfl) (intE (lenS _))) rfl ?_
   refine TL.op1 (OpR.pure rfl) rfl ?_
   refine TL.op1 (OpR.pure rfl) rfl ?_
   rcases ite_some ht11 with ⟨c12, ht11⟩ | ⟨c12, ht11⟩
   rotate_left
   · refine TL.off rfl rfl rfl rfl (decide_eq_false c12) rfl rfl ?_
     refine TL.off rfl rfl rfl rfl (decide_eq_false c12) rfl rfl ?_
     refine TL.off rfl rfl rfl rfl (decide_eq_false c12) rfl rfl ?_
     refine TL.off rfl rfl rfl rfl (decide_eq_false c12) rfl rfl ?_
     refine TL.off rfl rfl rfl rfl (decide_eq_false c12) rfl rfl ?_
     refine TL.off rfl rfl rfl rfl (decide_eq_false c12) rfl rfl ?_
     refine TL.op1 (OpR.pickF rfl (decide_eq_false c12) rfl) rfl ?_
     refine TL.nil ?_
     obtain rfl := Option.some.inj ht11
     exact ⟨_, Gst.only [2, 4, 5, 6, 7, 8, 9, 46] rfl, rfl⟩
   refine TL.on rfl rfl rfl rfl (decide_eq_true c12) ?_
   refine TL.op1 (OpR.pure rfl) rfl ?_
   refine TL.on rfl rfl rfl rfl (decide_eq_true c12) ?_
   refine TL.op1 (OpR.cast (OpR.pure rfl) (intE (lenS _))) rfl ?_
   refine TL.on rfl rfl rfl rfl (decide_eq_true c12) ?_
   refine TL.op1 (OpR.pure rfl) rfl ?_
   refine TL.on rfl rfl rfl rfl (decide_eq_true c12) ?_
   refine TL.op1 (OpR.pure rfl) rfl ?_
   refine TL.on rfl rfl rfl rfl (decide_eq_true c12) ?_
   refine TL.op1 (OpR.cast (OpR.pure rfl) (intE (lenS _))) rfl ?_
   refine TL.on rfl rfl rfl rfl (decide_eq_true c12) ?_
   refine TL.op1 (OpR.pure rfl) rfl ?_
   refine TL.op1 (OpR.pickT rfl (decide_eq_true c12) rfl) rfl ?_
   refine TL.nil ?_
   obtain rfl := Option.some.inj ht11
   exact ⟨_, Gst.only [2, 4, 5, 6, 7, 8, 9, 46] rfl, rfl⟩
 rintro _ rfl
 show T X _ _ _
 rcases ite_some h0 with ⟨c13, h0⟩ | ⟨c13, h0⟩
 · refine T.condT rfl (c13) ?_
   refine T.seq ?_
   refine T.region ?_
   refine TL.op1 (OpR.pure rfl) rfl ?_
   refine TL.op0 (OpR.store 0 rfl rfl rfl rfl rfl rfl rfl rfl) ?_
   refine TL.op1 (OpR.pure rfl) rfl ?_
   refine TL.op1 (OpR.pure rfl) rfl ?_
   refine TL.nil ?_
   show T X _ _ _
   refine T.ret ?_
   obtain rfl := Option.some.inj h0
   exact PostG.retP (ks := []) (Gst.trans (Gst.only [4, 5, 6] rfl) (Gst.pick [0] rfl rfl)) undef (ResL.cons (ResV.var 0 rfl rfl rfl rfl) (ResL.cons (ResV.tmp rfl) (ResL.cons (ResV.tmp rfl) ResL.nil))) rfl rfl rfl rfl
 refine T.condF rfl (eq_false_of_ne_true c13) ?_
 refine T.skip ?_
 show T X _ _ _
 refine T.seq ?_
 refine T.region ?_
 refine TL.op1 (OpR.pure rfl) rfl ?_
 refine TL.op1 (OpR.pure rfl) rfl ?_
 refine TL.op1 (OpR.toBytesM rfl rfl rfl rfl rfl rfl rfl) rfl ?_
 refine TL.op1 (OpR.pure rfl) rfl ?_
 refine TL.op1 (OpR.loadPtr 1 rfl rfl rfl rfl) rfl ?_
 obtain ⟨x14, hx14, h0⟩ := bnd_some h0
 refine TL.op1 (OpR.call0 fn36 (line_bound_c hx14) rfl) rfl ?_
 refine TL.op1 (OpR.build rfl rfl rfl rfl rfl) rfl ?_
 refine TL.op1 (OpR.pure rfl) rfl ?_
 refine TL.op0 (OpR.store 0 rfl rfl rfl rfl rfl rfl rfl rfl) ?_
 refine TL.op1 (OpR.pure rfl) rfl ?_
 refine TL.op1 (OpR.pure rfl) rfl ?_
 refine TL.nil ?_
 show T X _ _ _
 refine T.ret ?_
 obtain rfl := Option.some.inj h0
 exact PostG.retP (ks := []) (Gst.trans (Gst.only [4, 5, 6] rfl) (Gst.pick [0] rfl rfl)) undef (ResL.cons (ResV.var 0 rfl rfl rfl rfl) (ResL.cons (ResV.tmp rfl) (ResL.cons (ResV.tmp rfl) ResL.nil))) rfl rfl rfl rfl
noncomputable def ref01_Put (a0 : Int) : Option (List UInt8) :=
  bnd (if a0 < 0 then
    some true
  else
    if a0 > 1114111 then
      some true
    else
      if a0 ≥ 55296 then
        some (decide (a0 ≤ 57343))
      else
        some false : Option Bool) fun t1 =>
  if t1 = true then
    some []
  else
    if a0 < 128 then
      some [ub a0]
    else
      if a0 < 2048 then
        some [ub (w64 (192 + (w64 (quo a0 63)))), ub (w64 (128 + (rem a0 63)))]
      else
        if a0 < 65536 then
          some [ub (w64 (224 + (w64 (quo a0 4095)))), ub (w64 (128 + (rem (w64 (quo a0 63)) 63))), ub (w64 (128 + (rem a0 63)))]
        else
          some [ub (w64 (240 + (w64 (quo a0 262143)))), ub (w64 (128 + (rem (w64 (quo a0 4095)) 63))), ub (w64 (128 + (rem (w64 (quo a0 63)) 63))), ub (w64 (128 + (rem a0 63)))]
set_option maxHeartbeats 4000000 in
theorem ref01_Put_c {a0 : Int} {res : (List UInt8)} (h0 : ref01_Put a0 = some res) : CallF X 38 [.val (.int .i64 a0)] [] (fun x => .val (.string (bs res))) (fun x => []) := by
 unfold ref01_Put at h0
 refine CallF.mkG (X := X) Try.func38 rfl rfl Try.ntmps38 rfl rfl ?_
 refine T.seq ?_
 refine T.region ?_
 refine TL.op1 (OpR.pure rfl) rfl ?_
 refine TL.nil ?_
 show T X _ _ _
 refine T.seq ?_
 refine T.seq ?_
 obtain ⟨t1, ht1, h0⟩ := bnd_some h0
 refine T.cutC (fun S' => S' = ⟨[(16, .val (.bool t1)), (2, .val (.string (bs []))), (0, .val (.int .i64 a0))], [], 72⟩) (fun _ h => h) ?_ ?_
 · refine T.region ?_
   refine TL.op1 (OpR.pure rfl) rfl ?_
   refine TL.op1 (OpR.pure rfl) rfl ?_
   refine TL.op1 (OpR.pure rfl) rfl ?_
   rcases ite_some ht1 with ⟨c2, ht1⟩ | ⟨c2, ht1⟩
   · refine TL.off rfl rfl rfl rfl (decide_eq_true c2) rfl rfl ?_
     refine TL.off rfl rfl rfl rfl (decide_eq_true c2) rfl rfl ?_
     refine TL.op1 (OpR.pickT rfl (decide_eq_true c2) rfl) rfl ?_
     refine TL.op1 (OpR.pure rfl) rfl ?_
     refine TL.off rfl rfl rfl rfl rfl rfl rfl ?_
     refine TL.off rfl rfl rfl rfl rfl rfl rfl ?_
     refine TL.off rfl rfl rfl rfl rfl rfl rfl ?_
     refine TL.offU rfl rfl rfl rfl rfl rfl ?_
     refine TL.offU rfl rfl rfl rfl rfl rfl ?_
     refine TL.off rfl rfl rfl rfl rfl rfl rfl ?_
     refine TL.op1 (OpR.pickT rfl rfl rfl) rfl ?_
     refine TL.nil ?_
     obtain rfl := Option.some.inj ht1
     exact ⟨_, Gst.only [0, 2, 16] rfl, rfl⟩
   refine TL.on rfl rfl rfl rfl (decide_eq_false c2) ?_
   refine TL.op1 (OpR.pure rfl) rfl ?_
   refine TL.on rfl rfl rfl rfl (decide_eq_false c2) ?_
   refine TL.op1 (OpR.pure rfl) rfl ?_
   refine TL.op1 (OpR.pickF rfl (decide_eq_false c2) rfl) rfl ?_
   refine TL.op1 (OpR.pure rfl) rfl ?_
   rcases ite_some ht1 with ⟨c3, ht1⟩ | ⟨c3, ht1⟩
   · refine TL.off rfl rfl rfl rfl (decide_eq_true c3) rfl rfl ?_
     refine TL.off rfl rfl rfl rfl (decide_eq_true c3) rfl rfl ?_
     refine TL.off rfl rfl rfl rfl (decide_eq_true c3) rfl rfl ?_
     refine TL.offU rfl rfl rfl rfl rfl rfl ?_
     refine TL.offU rfl rfl rfl rfl rfl rfl ?_
     refine TL.off rfl rfl rfl rfl (decide_eq_true c3) rfl rfl ?_
     refine TL.op1 (OpR.pickT rfl (decide_eq_true c3) rfl) rfl ?_
     refine TL.nil ?_
     obtain rfl := Option.some.inj ht1
     exact ⟨_, Gst.only [0, 2, 16] rfl, rfl⟩
   refine TL.on rfl rfl rfl rfl (decide_eq_false c3) ?_
   refine TL.op1 (OpR.pure rfl) rfl ?_
   refine TL.on rfl rfl rfl rfl (decide_eq_false c3) ?_
   refine TL.op1 (OpR.pure rfl) rfl ?_
   refine TL.on rfl rfl rfl rfl (decide_eq_false c3) ?_
   refine TL.op1 (OpR.pure rfl) rfl ?_
   rcases ite_some ht1 with ⟨c4, ht1⟩ | ⟨c4, ht1⟩
   rotate_left
   · refine TL.off rfl rfl rfl rfl (decide_eq_false c4) rfl rfl ?_
     refine TL.off rfl rfl rfl rfl (decide_eq_false c4) rfl rfl ?_
     refine TL.on rfl rfl rfl rfl (decide_eq_false c3) ?_
     refine TL.op1 (OpR.pickF rfl (decide_eq_false c4) rfl) rfl ?_
     refine TL.op1 (OpR.pickF rfl (decide_eq_false c3) rfl) rfl ?_
     refine TL.nil ?_
     obtain rfl := Option.some.inj ht1
     exact ⟨_, Gst.only [0, 2, 16] rfl, rfl⟩
   refine TL.on rfl rfl rfl rfl (decide_eq_true c4) ?_
   refine TL.op1 (OpR.pure rfl) rfl ?_
   refine TL.on rfl rfl rfl rfl (decide_eq_true c4) ?_
   refine TL.op1 (OpR.pure rfl) rfl ?_
   refine TL.on rfl rfl rfl rfl (decide_eq_false c3) ?_
   refine TL.op1 (OpR.pickT rfl (decide_eq_true c4) rfl) rfl ?_
   refine TL.op1 (OpR.pickF rfl (decide_eq_false c3) rfl) rfl ?_
   refine TL.nil ?_
   obtain rfl := Option.some.inj ht1
   exact ⟨_, Gst.only [0, 2, 16] rfl, rfl⟩
 rintro _ rfl
 show T X _ _ _
 rcases ite_some h0 with ⟨c5, h0⟩ | ⟨c5, h0⟩
 · refine T.condT rfl (c5) ?_
   refine T.seq ?_
   refine T.region ?_
   refine TL.op1 (OpR.pure rfl) rfl ?_
   refine TL.nil ?_
   show T X _ _ _
   refine T.ret ?_
   obtain rfl := Option.some.inj h0
   exact PostG.retP (ks := []) (Gst.only [2] rfl) undef (ResL.cons (ResV.tmp rfl) ResL.nil) rfl rfl rfl rfl
 refine T.condF rfl (eq_false_of_ne_true c5) ?_
 refine T.skip ?_
 show T X _ _ _
 refine T.seq ?_
 refine T.seq ?_
 refine T.region ?_
 refine TL.op1 (OpR.pure rfl) rfl ?_
 refine TL.op1 (OpR.pure rfl) rfl ?_
 refine TL.nil ?_
 show T X _ _ _
 rcases ite_some h0 with ⟨c6, h0⟩ | ⟨c6, h0⟩
 · refine T.condT rfl (decide_eq_true c6) ?_
   refine T.seq ?_
   refine T.region ?_
   refine TL.op1 (OpR.pure rfl) rfl ?_
   refine TL.op1 (OpR.cast (OpR.pure rfl) (intE (ub_wrap _))) rfl ?_
   refine TL.op1 (OpR.lit rfl rfl rfl rfl rfl rfl rfl) rfl ?_
   refine TL.op1 (OpR.toStr (bs := [ub a0]) rfl rfl rfl rfl rfl rfl rfl) rfl ?_
   refine TL.op1 (OpR.pure rfl) rfl ?_
   refine TL.nil ?_
   show T X _ _ _
   refine T.ret ?_
   obtain rfl := Option.some.inj h0
   exact PostG.retP (ks := []) (Gst.only [2] rfl) undef (ResL.cons (ResV.tmp rfl) ResL.nil) rfl rfl rfl rfl
 refine T.condF rfl (decide_eq_false c6) ?_
 refine T.skip ?_
 show T X _ _ _
 refine T.seq ?_
 refine T.seq ?_
 refine T.region ?_
 refine TL.op1 (OpR.pure rfl) rfl ?_
 refine TL.op1 (OpR.pure rfl) rfl ?_
 refine TL.nil ?_
 show T X _ _ _
 rcases ite_some h0 with ⟨c7, h0⟩ | ⟨c7, h0⟩
 · refine T.condT rfl (decide_eq_true c7) ?_
   refine T.seq ?_
   refine T.region ?_
   refine TL.op1 (OpR.pure rfl) rfl ?_
   refine TL.op1 (OpR.pure rfl) rfl ?_
   refine TL.op1 (OpR.pure rfl) rfl ?_
   refine TL.op1 (OpR.cast (OpR.pure rfl) (intE (ub_wrap _))) rfl ?_
   refine TL.op1 (OpR.pure rfl) rfl ?_
   refine TL.op1 (OpR.pure rfl) rfl ?_
   refine TL.op1 (OpR.pure rfl) rfl ?_
   refine TL.op1 (OpR.cast (OpR.pure rfl) (intE (ub_wrap _))) rfl ?_
   refine TL.op1 (OpR.lit rfl rfl rfl rfl rfl rfl rfl) rfl ?_
   refine TL.op1 (OpR.toStr (bs := [ub (w64 (192 + (w64 (quo a0 63)))), ub (w64 (128 + (rem a0 63)))]) rfl rfl rfl rfl rfl rfl rfl) rfl ?_
   refine TL.op1 (OpR.pure rfl) rfl ?_
   refine TL.nil ?_
   show T X _ _ _
   refine T.ret ?_
   obtain rfl := Option.some.inj h0
   exact PostG.retP (ks := []) (Gst.only [2] rfl) undef (ResL.cons (ResV.tmp rfl) ResL.nil) rfl rfl rfl rfl
 refine T.condF rfl (decide_eq_false c7) ?_
 refine T.skip ?_
 show T X _ _ _
 refine T.seq ?_
 refine T.seq ?_
 refine T.region ?_
 refine TL.op1 (OpR.pure rfl) rfl ?_
 refine TL.op1 (OpR.pure rfl) rfl ?_
 refine TL.nil ?_
 show T X _ _ _
 rcases ite_some h0 with ⟨c8, h0⟩ | ⟨c8, h0⟩
 · refine T.condT rfl (decide_eq_true c8) ?_
   refine T.seq ?_
   refine T.region ?_
   refine TL.op1 (OpR.pure rfl) rfl ?_
   refine TL.op1 (OpR.pure rfl) rfl ?_
   refine TL.op1 (OpR.pure rfl) rfl ?_
   refine TL.op1 (OpR.cast (OpR.pure rfl) (intE (ub_wrap _))) rfl ?_
   refine TL.op1 (OpR.pure rfl) rfl ?_
   refine TL.op1 (OpR.pure rfl) rfl ?_
   refine TL.op1 (OpR.pure rfl) rfl ?_
   refine TL.op1 (OpR.pure rfl) rfl ?_
   refine TL.op1 (OpR.cast (OpR.pure rfl) (intE (ub_wrap _))) rfl ?_
   refine TL.op1 (OpR.pure rfl) rfl ?_
   refine TL.op1 (OpR.pure rfl) rfl ?_
   refine TL.op1 (OpR.pure rfl) rfl ?_
   refine TL.op1 (OpR.cast (OpR.pure rfl) (intE (ub_wrap _))) rfl ?_
   refine TL.op1 (OpR.lit rfl rfl rfl rfl rfl rfl rfl) rfl ?_
   refine TL.op1 (OpR.toStr (bs := [ub (w64 (224 + (w64 (quo a0 4095)))), ub (w64 (128 + (rem (w64 (quo a0 63)) 63))), ub (w64 (128 + (rem a0 63)))]) rfl rfl rfl rfl rfl rfl rfl) rfl ?_
   refine TL.op1 (OpR.pure rfl) rfl ?_
   refine TL.nil ?_
   show T X _ _ _
   refine T.ret ?_
   obtain rfl := Option.some.inj h0
   exact PostG.retP (ks := []) (Gst.only [2] rfl) undef (ResL.cons (ResV.tmp rfl) ResL.nil) rfl rfl rfl rfl
 refine T.condF rfl (decide_eq_false c8) ?_
 refine T.skip ?_
 show T X _ _ _
 refine T.seq ?_
 refine T.region ?_
 refine TL.op1 (OpR.pure rfl) rfl ?_
 refine TL.op1 (OpR.pure rfl) rfl ?_
 refine TL.op1 (OpR.pure rfl) rfl ?_
 refine TL.op1 (OpR.cast (OpR.pure rfl) (intE (ub_wrap _))) rfl ?_
 refine TL.op1 (OpR.pure rfl) rfl ?_
 refine TL.op1 (OpR.pure rfl) rfl ?_
 refine TL.op1 (OpR.pure rfl) rfl ?_
 refine TL.op1 (OpR.pure rfl) rfl ?_
 refine TL.op1 (OpR.cast (OpR.pure rfl) (intE (ub_wrap _))) rfl ?_
 refine TL.op1 (OpR.pure rfl) rfl ?_
 refine TL.op1 (OpR.pure rfl) rfl ?_
 refine TL.op1 (OpR.pure rfl) rfl ?_
 refine TL.op1 (OpR.pure rfl) rfl ?_
 refine TL.op1 (OpR.cast (OpR.pure rfl) (intE (ub_wrap _))) rfl ?_
 refine TL.op1 (OpR.pure rfl) rfl ?_
 refine TL.op1 (OpR.pure rfl) rfl ?_
 refine TL.op1 (OpR.pure rfl) rfl ?_
 refine TL.op1 (OpR.cast (OpR.pure rfl) (intE (ub_wrap _))) rfl ?_
 refine TL.op1 (OpR.lit rfl rfl rfl rfl rfl rfl rfl) rfl ?_
 refine TL.op1 (OpR.toStr (bs := [ub (w64 (240 + (w64 (quo a0 262143)))), ub (w64 (128 + (rem (w64 (quo a0 4095)) 63))), ub (w64 (128 + (rem (w64 (quo a0 63)) 63))), ub (w64 (128 + (rem a0 63)))]) rfl rfl rfl rfl rfl rfl rfl) rfl ?_
 refine TL.op1 (OpR.pure rfl) rfl ?_
 refine TL.nil ?_
 show T X _ _ _
 refine T.ret ?_
 obtain rfl := Option.some.inj h0
 exact PostG.retP (ks := []) (Gst.only [2] rfl) undef (ResL.cons (ResV.tmp rfl) ResL.nil) rfl rfl rfl rfl
noncomputable def ref22_Types (a0 : Int) : Option Bool :=
  bnd (if a0 ≥ 32 then
    if a0 = 127 then
      some false
    else
      bnd (ref01_Put a0) fun x4 =>
      some (!(x4 == []))
  else
    some false : Option Bool) fun t1 =>
  some t1
set_option maxHeartbeats 4000000 in
theorem ref22_Types_c {a0 : Int} {res : Bool} (h0 : ref22_Types a0 = some res) : CallF X 14 [.val (.int .i64 a0)] [] (fun x => .val (.bool res)) (fun x => []) := by
 unfold ref22_Types at h0
 refine CallF.mkG (X := X) Try.func14 rfl rfl Try.ntmps14 rfl rfl ?_
 refine T.seq ?_
 refine T.region ?_
 refine TL.op1 (OpR.pure rfl) rfl ?_
 refine TL.nil ?_
 show T X _ _ _
 refine T.seq ?_
 obtain ⟨t1, ht1, h0⟩ := bnd_some h0
 refine T.cutC (fun S' => S' = ⟨[(2, .val (.bool t1))], [], 14⟩) (fun _ h => h) ?_ ?_
 rotate_left
 · rintro _ rfl
   show T X _ _ _
   refine T.ret ?_
   obtain rfl := Option.some.inj h0
   exact PostG.retP (ks := []) (Gst.only [2] rfl) undef (ResL.cons (ResV.tmp rfl) ResL.nil) rfl rfl rfl rfl
 refine T.region ?_
 refine TL.op1 (OpR.pure rfl) rfl ?_
 refine TL.op1 (OpR.pure rfl) rfl ?_
 refine TL.op1 (OpR.pure rfl) rfl ?_
 rcases ite_some ht1 with ⟨c2, ht1⟩ | ⟨c2, ht1⟩
 rotate_left
 · refine TL.off rfl rfl rfl rfl (decide_eq_false c2) rfl rfl ?_
   refine TL.off rfl rfl rfl rfl (decide_eq_false c2) rfl rfl ?_
   refine TL.op1 (OpR.pickF rfl (decide_eq_false c2) rfl) rfl ?_
   refine TL.op1 (OpR.pure rfl) rfl ?_
   refine TL.off rfl rfl rfl rfl rfl rfl rfl ?_
   refine TL.off rfl rfl rfl rfl rfl rfl rfl ?_
   refine TL.off rfl rfl rfl rfl rfl rfl rfl ?_
   refine TL.op1 (OpR.pickF rfl rfl rfl) rfl ?_
   refine TL.op1 (OpR.pure rfl) rfl ?_
   refine TL.nil ?_
   obtain rfl := Option.some.inj ht1
   exact ⟨_, Gst.only [2] rfl, rfl⟩
 refine TL.on rfl rfl rfl rfl (decide_eq_true c2) ?_
 refine TL.op1 (OpR.pure rfl) rfl ?_
 refine TL.on rfl rfl rfl rfl (decide_eq_true c2) ?_
 refine TL.op1 (OpR.pure rfl) rfl ?_
 refine TL.op1 (OpR.pickT rfl (decide_eq_true c2) rfl) rfl ?_
 refine TL.op1 (OpR.pure rfl) rfl ?_
 rcases ite_some ht1 with ⟨c3, ht1⟩ | ⟨c3, ht1⟩
 · refine TL.off rfl rfl rfl rfl (not_t (beq_iff_eq.2 c3)) rfl rfl ?_
   refine TL.off rfl rfl rfl rfl (not_t (beq_iff_eq.2 c3)) rfl rfl ?_
   refine TL.off rfl rfl rfl rfl (not_t (beq_iff_eq.2 c3)) rfl rfl ?_
   refine TL.op1 (OpR.pickF rfl (not_t (beq_iff_eq.2 c3)) rfl) rfl ?_
   refine TL.op1 (OpR.pure rfl) rfl ?_
   refine TL.nil ?_
   obtain rfl := Option.some.inj ht1
   exact ⟨_, Gst.only [2] rfl, rfl⟩
 refine TL.on rfl rfl rfl rfl (not_f (beq_eq_false_iff_ne.2 c3)) ?_
 refine TL.op1 (OpR.pure rfl) rfl ?_
 refine TL.on rfl rfl rfl rfl (not_f (beq_eq_false_iff_ne.2 c3)) ?_
 obtain ⟨x4, hx4, ht1⟩ := bnd_some ht1
 refine TL.op1 (OpR.call0 fn38 (ref01_Put_c hx4) rfl) rfl ?_
 refine TL.on rfl rfl rfl rfl (not_f (beq_eq_false_iff_ne.2 c3)) ?_
 refine TL.op1 (OpR.cast (OpR.pure rfl) (boolE (strNe _ _))) rfl ?_
 refine TL.op1 (OpR.pickT rfl (not_f (beq_eq_false_iff_ne.2 c3)) rfl) rfl ?_
 refine TL.op1 (OpR.pure rfl) rfl ?_
 refine TL.nil ?_
 obtain rfl := Option.some.inj ht1
 exact ⟨_, Gst.only [2] rfl, rfl⟩
noncomputable def law30_awake : Option Bool :=
  bnd (line_Prompt_Key (⟨[97, 98, 32, 99, 100], 5⟩ : line_Prompt) 23) fun x1 =>
  bnd (line_Plan [97, 98] 1 120) fun x4 =>
  bnd (if x1.1 = (⟨[97, 98, 32], 3⟩ : line_Prompt) then
    if x1.2.1 = true then
      if x1.2.2 = 0 then
        if x4.1 = (⟨1, 1, [120], 2⟩ : line_Edit) then
          some x4.2
        else
          some false
      else
        some false
    else
      some false
  else
    some false : Option Bool) fun t6 =>
  some t6
set_option maxHeartbeats 4000000 in
theorem law30_awake_c {res : Bool} (h0 : law30_awake = some res) : CallF X 13 [] [] (fun x => .val (.bool res)) (fun x => []) := by
 unfold law30_awake at h0
 refine CallF.mkG (X := X) Try.func13 rfl rfl Try.ntmps13 rfl rfl ?_
 refine T.seq ?_
 refine T.region ?_
 refine TL.op1 (OpR.pure rfl) rfl ?_
 refine TL.nil ?_
 show T X _ _ _
 refine T.seq ?_
 refine T.region ?_
 refine TL.op1 (OpR.build rfl rfl rfl rfl rfl) rfl ?_
 obtain ⟨x1, hx1, h0⟩ := bnd_some h0
 refine TL.op1 (OpR.call0 fn11 (line_Prompt_Key_c hx1) rfl) rfl ?_
 refine TL.op1 (OpR.pure rfl) rfl ?_
 refine TL.op1 (OpR.pure rfl) rfl ?_
 refine TL.op1 (OpR.pure rfl) rfl ?_
 refine TL.op1 (OpR.pure rfl) rfl ?_
 refine TL.op (OpR.alloc rfl rfl (fun _ => rfl)) rfl (fun p2 => ?_)
 refine TL.op0 (OpR.store 0 rfl rfl rfl rfl rfl rfl rfl rfl) ?_
 refine TL.op1 (OpR.pure rfl) rfl ?_
 refine TL.op1 (OpR.pure rfl) rfl ?_
 refine TL.nil ?_
 show T X _ _ _
 refine T.seq ?_
 refine T.region ?_
 refine TL.op (OpR.litRow rfl rfl rfl rfl rfl rfl rfl rfl (fun _ => rfl)) rfl (fun v3 => ?_)
 refine TL.op1 (OpR.markRow 1 rfl rfl rfl rfl rfl rfl rfl rfl) rfl ?_
 obtain ⟨x4, hx4, h0⟩ := bnd_some h0
 refine TL.op1 (OpR.call0 fn35 (line_Plan_c hx4) rfl) rfl ?_
 refine TL.op1 (OpR.pure rfl) rfl ?_
 refine TL.op1 (OpR.pure rfl) rfl ?_
 refine TL.op1 (OpR.pure rfl) rfl ?_
 refine TL.op (OpR.alloc rfl rfl (fun _ => rfl)) rfl (fun p5 => ?_)
 refine TL.op0 (OpR.store 2 rfl rfl rfl rfl rfl rfl rfl rfl) ?_
 refine TL.op1 (OpR.pure rfl) rfl ?_
 refine TL.nil ?_
 show T X _ _ _
 refine T.seq ?_
 obtain ⟨t6, ht6, h0⟩ := bnd_some h0
 refine T.cutC (fun S' => S' = ⟨[(0, .val (.bool t6))], [], 36⟩) (fun _ h => h) ?_ ?_
 rotate_left
 · rintro _ rfl
   show T X _ _ _
   refine T.ret ?_
   obtain rfl := Option.some.inj h0
   exact PostG.retP (ks := []) (Gst.only [0] rfl) undef (ResL.cons (ResV.tmp rfl) ResL.nil) rfl rfl rfl rfl
 refine T.region ?_
 refine TL.op1 (OpR.loadPtr 0 rfl rfl rfl rfl) rfl ?_
 refine TL.op1 (OpR.build rfl rfl rfl rfl rfl) rfl ?_
 refine TL.op1 (OpR.cast (OpR.eqStruct rfl rfl rfl rfl rfl (by kernel_rfl) (by kernel_rfl)) (boolE (beq_line_Prompt x1.1 (⟨[97, 98, 32], 3⟩ : line_Prompt)))) rfl ?_
 refine TL.op1 (OpR.pure rfl) rfl ?_
 rcases ite_some ht6 with ⟨c7, ht6⟩ | ⟨c7, ht6⟩
 rotate_left
 · refine TL.off rfl rfl rfl rfl (beq_eq_false_iff_ne.2 c7) rfl rfl ?_
   refine TL.op1 (OpR.pickF rfl (beq_eq_false_iff_ne.2 c7) rfl) rfl ?_
   refine TL.op1 (OpR.pure rfl) rfl ?_
   refine TL.off rfl rfl rfl rfl rfl rfl rfl ?_
   refine TL.off rfl rfl rfl rfl rfl rfl rfl ?_
   refine TL.op1 (OpR.pickF rfl rfl rfl) rfl ?_
   refine TL.op1 (OpR.pure rfl) rfl ?_
   refine TL.off rfl rfl rfl rfl rfl rfl rfl ?_
   refine TL.off rfl rfl rfl rfl rfl rfl rfl ?_
   refine TL.off rfl rfl rfl rfl rfl rfl rfl ?_
   refine TL.op1 (OpR.pickF rfl rfl rfl) rfl ?_
   refine TL.op1 (OpR.pure rfl) rfl ?_
   refine TL.off rfl rfl rfl rfl rfl rfl rfl ?_
   refine TL.op1 (OpR.pickF rfl rfl rfl) rfl ?_
   refine TL.op1 (OpR.pure rfl) rfl ?_
   refine TL.nil ?_
   obtain rfl := Option.some.inj ht6
   exact ⟨_, Gst.trans (Gst.only [0] rfl) (Gst.pick [] rfl rfl), rfl⟩
 refine TL.on rfl rfl rfl rfl (beq_iff_eq.2 c7) ?_
 refine TL.op1 (OpR.pure rfl) rfl ?_
 refine TL.op1 (OpR.pickT rfl (beq_iff_eq.2 c7) rfl) rfl ?_
 refine TL.op1 (OpR.pure rfl) rfl ?_
 rcases ite_some ht6 with ⟨c8, ht6⟩ | ⟨c8, ht6⟩
 rotate_left
 · refine TL.off rfl rfl rfl rfl (eq_false_of_ne_true c8) rfl rfl ?_
   refine TL.off rfl rfl rfl rfl (eq_false_of_ne_true c8) rfl rfl ?_
   refine TL.op1 (OpR.pickF rfl (eq_false_of_ne_true c8) rfl) rfl ?_
   refine TL.op1 (OpR.pure rfl) rfl ?_
   refine TL.off rfl rfl rfl rfl rfl rfl rfl ?_
   refine TL.off rfl rfl rfl rfl rfl rfl rfl ?_
   refine TL.off rfl rfl rfl rfl rfl rfl rfl ?_
   refine TL.op1 (OpR.pickF rfl rfl rfl) rfl ?_
   refine TL.op1 (OpR.pure rfl) rfl ?_
   refine TL.off rfl rfl rfl rfl rfl rfl rfl ?_
   refine TL.op1 (OpR.pickF rfl rfl rfl) rfl ?_
   refine TL.op1 (OpR.pure rfl) rfl ?_
   refine TL.nil ?_
   obtain rfl := Option.some.inj ht6
   exact ⟨_, Gst.trans (Gst.only [0] rfl) (Gst.pick [] rfl rfl), rfl⟩
 refine TL.on rfl rfl rfl rfl (c8) ?_
 refine TL.op1 (OpR.pure rfl) rfl ?_
 refine TL.on rfl rfl rfl rfl (c8) ?_
 refine TL.op1 (OpR.pure rfl) rfl ?_
 refine TL.op1 (OpR.pickT rfl (c8) rfl) rfl ?_
 refine TL.op1 (OpR.pure rfl) rfl ?_
 rcases ite_some ht6 with ⟨c9, ht6⟩ | ⟨c9, ht6⟩
 rotate_left
 · refine TL.off rfl rfl rfl rfl (beq_eq_false_iff_ne.2 c9) rfl rfl ?_
   refine TL.off rfl rfl rfl rfl (beq_eq_false_iff_ne.2 c9) rfl rfl ?_
   refine TL.off rfl rfl rfl rfl (beq_eq_false_iff_ne.2 c9) rfl rfl ?_
   refine TL.op1 (OpR.pickF rfl (beq_eq_false_iff_ne.2 c9) rfl) rfl ?_
   refine TL.op1 (OpR.pure rfl) rfl ?_
   refine TL.off rfl rfl rfl rfl rfl rfl rfl ?_
   refine TL.op1 (OpR.pickF rfl rfl rfl) rfl ?_
   refine TL.op1 (OpR.pure rfl) rfl ?_
   refine TL.nil ?_
   obtain rfl := Option.some.inj ht6
   exact ⟨_, Gst.trans (Gst.only [0] rfl) (Gst.pick [] rfl rfl), rfl⟩
 refine TL.on rfl rfl rfl rfl (beq_iff_eq.2 c9) ?_
 refine TL.op1 (OpR.loadPtr 2 rfl rfl rfl rfl) rfl ?_
 refine TL.on rfl rfl rfl rfl (beq_iff_eq.2 c9) ?_
 refine TL.op1 (OpR.build rfl rfl rfl rfl rfl) rfl ?_
 refine TL.on rfl rfl rfl rfl (beq_iff_eq.2 c9) ?_
 refine TL.op1 (OpR.cast (OpR.eqStruct rfl rfl rfl rfl rfl (by kernel_rfl) (by kernel_rfl)) (boolE (beq_line_Edit x4.1 (⟨1, 1, [120], 2⟩ : line_Edit)))) rfl ?_
 refine TL.op1 (OpR.pickT rfl (beq_iff_eq.2 c9) rfl) rfl ?_
 refine TL.op1 (OpR.pure rfl) rfl ?_
 rcases ite_some ht6 with ⟨c10, ht6⟩ | ⟨c10, ht6⟩
 rotate_left
 · refine TL.off rfl rfl rfl rfl (beq_eq_false_iff_ne.2 c10) rfl rfl ?_
   refine TL.op1 (OpR.pickF rfl (beq_eq_false_iff_ne.2 c10) rfl) rfl ?_
   refine TL.op1 (OpR.pure rfl) rfl ?_
   refine TL.nil ?_
   obtain rfl := Option.some.inj ht6
   exact ⟨_, Gst.trans (Gst.only [0] rfl) (Gst.pick [] rfl rfl), rfl⟩
 refine TL.on rfl rfl rfl rfl (beq_iff_eq.2 c10) ?_
 refine TL.op1 (OpR.pure rfl) rfl ?_
 refine TL.op1 (OpR.pickT rfl (beq_iff_eq.2 c10) rfl) rfl ?_
 refine TL.op1 (OpR.pure rfl) rfl ?_
 refine TL.nil ?_
 obtain rfl := Option.some.inj ht6
 exact ⟨_, Gst.trans (Gst.only [0] rfl) (Gst.pick [] rfl rfl), rfl⟩
end Go.Proofs.Ytlginjmkmfodmaa.S
