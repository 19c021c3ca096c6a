/- Printed by a program of this session's own (gen.py): Lean functions for Go functions, and the proofs that the Go code comes to their answers. -/
import Derived.Test.YtlginjmkmfodmaaDoorG3xa
import Derived.Test.YtlginjmkmfodmaaDoorG1xa
set_option maxHeartbeats 4000000
set_option linter.unusedVariables false
set_option linter.unusedSimpArgs false
set_option maxRecDepth 20000
namespace Go.Proofs.YtlginjmkmfodmaaDoor.S
open Go Go.Sm
attribute [local irreducible] T TL OpR CallT iter loop
noncomputable def law22_cut (a0 : List UInt8) (a1 : Int) : Option (List UInt8) :=
  if (a0.length : Int) > a1 then
    bnd (cut a0 0 a1) fun x2 =>
    some x2
  else
    some a0
theorem law22_cut_c {a0 : List UInt8} {a1 : Int} {res : (List UInt8)} (h0 : law22_cut a0 a1 = some res) : CallF X 7 [.val (.string (bs a0)), dN a1] [] (fun x => .val (.string (bs res))) (fun x => []) := by
 unfold law22_cut at h0
 refine CallF.mkG (X := X) rfl Tryd.func7 rfl rfl Tryd.ntmps7 rfl rfl ?_
 refine aS ?_
 refine aA rfl rfl ?_
 refine aN rfl ?_
 refine T.seq ?_
 refine aS ?_
 refine aA rfl rfl ?_
 refine TL.op1 (OpR.cast (OpR.pure rfl) (intE (lenS _))) rfl ?_
 iterate 2 refine aA rfl rfl ?_
 refine aN rfl ?_
 rcases ite_some h0 with ⟨c1, h0⟩ | ⟨c1, h0⟩
 rotate_left
 · refine T.condF rfl (decide_eq_false c1) ?_
   refine aK rfl ?_
   refine aS ?_
   iterate 2 refine aA rfl rfl ?_
   refine aN rfl ?_
   refine T.ret ?_
   obtain rfl := Option.some.inj h0
   exact rO [] [4] rfl undef (cT rfl ResL.nil) rfl rfl rfl rfl
 refine T.condT rfl (decide_eq_true c1) ?_
 refine aS ?_
 iterate 2 refine aA rfl rfl ?_
 obtain ⟨x2, hx2, h0⟩ := bS h0
 refine TL.op1 (OpR.sliceS hx2 rfl rfl rfl BdM.none (BdM.some rfl)) rfl ?_
 refine aA rfl rfl ?_
 refine aN rfl ?_
 refine T.ret ?_
 obtain rfl := Option.some.inj h0
 exact rO [] [4] rfl undef (cT rfl ResL.nil) rfl rfl rfl rfl
noncomputable def ref01_more (a0 : List UInt8) (a1 : Int) : Option Bool :=
  bnd (if a1 < (a0.length : Int) then
    bnd (idx a0 a1) fun x3 =>
    if (x3.toNat : Int) ≥ 128 then
      some (decide ((x3.toNat : Int) ≤ 191))
    else
      some false
  else
    some false : Option Bool) fun t1 =>
  some t1
theorem ref01_more_c {a0 : List UInt8} {a1 : Int} {res : Bool} (h0 : ref01_more a0 a1 = some res) : CallF X 33 [.val (.string (bs a0)), dN a1] [] (fun x => (dT res)) (fun x => []) := by
 unfold ref01_more at h0
 refine CallF.mkG (X := X) rfl Tryd.func33 rfl rfl Tryd.ntmps33 rfl rfl ?_
 refine aS ?_
 refine aA rfl rfl ?_
 refine aN rfl ?_
 refine T.seq ?_
 obtain ⟨t1, ht1, h0⟩ := bS h0
 refine T.cutC (fun S' => S' = ⟨[(4, (dT t1))], [], 21⟩) (fun _ h => h) ?_ ?_
 rotate_left
 · rintro _ rfl
   show T X _ _ _
   refine T.ret ?_
   obtain rfl := Option.some.inj h0
   exact rO [] [4] rfl undef (cT rfl ResL.nil) rfl rfl rfl rfl
 refine T.region ?_
 iterate 2 refine aA rfl rfl ?_
 refine TL.op1 (OpR.cast (OpR.pure rfl) (intE (lenS _))) rfl ?_
 iterate 2 refine aA rfl rfl ?_
 rcases ite_some ht1 with ⟨c2, ht1⟩ | ⟨c2, ht1⟩
 rotate_left
 · refine TL.off rfl rfl rfl rfl (decide_eq_false c2) rfl rfl ?_
   refine TL.off rfl rfl rfl rfl (decide_eq_false c2) rfl rfl ?_
   refine TL.off rfl rfl rfl rfl (decide_eq_false c2) rfl rfl ?_
   refine TL.off rfl rfl rfl rfl (decide_eq_false c2) rfl rfl ?_
   refine TL.op1 (OpR.pickF rfl (decide_eq_false c2) rfl) rfl ?_
   refine aA rfl rfl ?_
   refine TL.off rfl rfl rfl rfl rfl rfl rfl ?_
   refine TL.off rfl rfl rfl rfl rfl rfl rfl ?_
   refine TL.off rfl rfl rfl rfl rfl rfl rfl ?_
   refine TL.off rfl rfl rfl rfl rfl rfl rfl ?_
   refine TL.op1 (OpR.pickF rfl rfl rfl) rfl ?_
   refine aA rfl rfl ?_
   refine TL.nil ?_
   obtain rfl := Option.some.inj ht1
   exact ⟨_, Gst.only [4] rfl, rfl⟩
 refine TL.on rfl rfl rfl rfl (decide_eq_true c2) ?_
 refine aA rfl rfl ?_
 refine TL.on rfl rfl rfl rfl (decide_eq_true c2) ?_
 refine aA rfl rfl ?_
 refine TL.on rfl rfl rfl rfl (decide_eq_true c2) ?_
 obtain ⟨x3, hx3, ht1⟩ := bS ht1
 refine TL.op1 (OpR.indexS hx3 rfl rfl rfl rfl) rfl ?_
 refine TL.on rfl rfl rfl rfl (decide_eq_true c2) ?_
 refine aA rfl rfl ?_
 refine TL.op1 (OpR.pickT rfl (decide_eq_true c2) rfl) rfl ?_
 refine aA rfl rfl ?_
 rcases ite_some ht1 with ⟨c4, ht1⟩ | ⟨c4, ht1⟩
 rotate_left
 · refine TL.off rfl rfl rfl rfl (decide_eq_false c4) rfl rfl ?_
   refine TL.off rfl rfl rfl rfl (decide_eq_false c4) rfl rfl ?_
   refine TL.off rfl rfl rfl rfl (decide_eq_false c4) rfl rfl ?_
   refine TL.off rfl rfl rfl rfl (decide_eq_false c4) rfl rfl ?_
   refine TL.op1 (OpR.pickF rfl (decide_eq_false c4) rfl) rfl ?_
   refine aA rfl rfl ?_
   refine TL.nil ?_
   obtain rfl := Option.some.inj ht1
   exact ⟨_, Gst.only [4] rfl, rfl⟩
 refine TL.on rfl rfl rfl rfl (decide_eq_true c4) ?_
 refine aA rfl rfl ?_
 refine TL.on rfl rfl rfl rfl (decide_eq_true c4) ?_
 refine aA rfl rfl ?_
 refine TL.on rfl rfl rfl rfl (decide_eq_true c4) ?_
 refine TL.op1 (OpR.indexS hx3 rfl rfl rfl rfl) rfl ?_
 refine TL.on rfl rfl rfl rfl (decide_eq_true c4) ?_
 refine aA rfl rfl ?_
 refine TL.op1 (OpR.pickT rfl (decide_eq_true c4) rfl) rfl ?_
 refine aA rfl rfl ?_
 refine TL.nil ?_
 obtain rfl := Option.some.inj ht1
 exact ⟨_, Gst.only [4] rfl, rfl⟩
noncomputable def ref01_At (a0 : List UInt8) (a1 : Int) : Option (Int × Int) :=
  bnd (if a1 < 0 then
    some true
  else
    some (decide (a1 ≥ (a0.length : Int))) : Option Bool) fun t1 =>
  if t1 = true then
    some ((-1), 0)
  else
    bnd (idx a0 a1) fun x4 =>
    if (x4.toNat : Int) < 128 then
      some ((x4.toNat : Int), 1)
    else
      bnd (if (x4.toNat : Int) ≥ 192 then
        if (x4.toNat : Int) < 224 then
          bnd (ref01_more a0 (w64 (a1 + 1))) fun x9 =>
          some x9
        else
          some false
      else
        some false : Option Bool) fun t6 =>
      bnd (if t6 = true then
        bnd (idx a0 (w64 (a1 + 1))) fun x13 =>
        bnd (some (w64 ((w64 ((w64 ((w64 ((x4.toNat : Int) - 192)) * 64)) + (x13.toNat : Int))) - 128))) fun x14 =>
        if x14 ≥ 128 then
          some (Ex.ret (x14, 2))
        else
          some (Ex.brk ())
      else
        some (Ex.brk ()) : Option (Ex Unit (Int × Int))) fun t10 => match t10 with
        | .brk u11 =>
          bnd (if (x4.toNat : Int) ≥ 224 then
            if (x4.toNat : Int) < 240 then
              bnd (ref01_more a0 (w64 (a1 + 1))) fun x19 =>
              if x19 = true then
                bnd (ref01_more a0 (w64 (a1 + 2))) fun x21 =>
                some x21
              else
                some false
            else
              some false
          else
            some false : Option Bool) fun t16 =>
          bnd (if t16 = true then
            bnd (idx a0 (w64 (a1 + 1))) fun x26 =>
            bnd (some (w64 ((w64 ((w64 ((x4.toNat : Int) - 224)) * 4096)) + (w64 ((w64 ((x26.toNat : Int) - 128)) * 64))))) fun x27 =>
            bnd (idx a0 (w64 (a1 + 2))) fun x28 =>
            bnd (if (w64 ((w64 (x27 + (x28.toNat : Int))) - 128)) ≥ 2048 then
              if (w64 ((w64 (x27 + (x28.toNat : Int))) - 128)) < 55296 then
                some true
              else
                some (decide ((w64 ((w64 (x27 + (x28.toNat : Int))) - 128)) > 57343))
            else
              some false : Option Bool) fun t29 =>
            if t29 = true then
              some (Ex.ret (w64 ((w64 (x27 + (x28.toNat : Int))) - 128), 3))
            else
              some (Ex.brk ())
          else
            some (Ex.brk ()) : Option (Ex Unit (Int × Int))) fun t22 => match t22 with
            | .brk u23 =>
              bnd (if (x4.toNat : Int) ≥ 240 then
                if (x4.toNat : Int) < 248 then
                  bnd (ref01_more a0 (w64 (a1 + 1))) fun x36 =>
                  if x36 = true then
                    bnd (ref01_more a0 (w64 (a1 + 2))) fun x38 =>
                    if x38 = true then
                      bnd (ref01_more a0 (w64 (a1 + 3))) fun x40 =>
                      some x40
                    else
                      some false
                  else
                    some false
                else
                  some false
              else
                some false : Option Bool) fun t33 =>
              bnd (if t33 = true then
                bnd (idx a0 (w64 (a1 + 1))) fun x45 =>
                bnd (some (w64 ((w64 ((w64 ((x4.toNat : Int) - 240)) * 262144)) + (w64 ((w64 ((x45.toNat : Int) - 128)) * 4096))))) fun x46 =>
                bnd (idx a0 (w64 (a1 + 2))) fun x47 =>
                bnd (idx a0 (w64 (a1 + 3))) fun x48 =>
                bnd (some (w64 ((w64 (x46 + (w64 ((w64 ((x47.toNat : Int) - 128)) * 64)))) + (x48.toNat : Int)))) fun x49 =>
                bnd (if (w64 (x49 - 128)) ≥ 65536 then
                  some (decide ((w64 (x49 - 128)) ≤ 1114111))
                else
                  some false : Option Bool) fun t50 =>
                if t50 = true then
                  some (Ex.ret (w64 (x49 - 128), 4))
                else
                  some (Ex.brk ())
              else
                some (Ex.brk ()) : Option (Ex Unit (Int × Int))) fun t41 => match t41 with
                | .brk u42 =>
                  some ((-1), 1)
                | .ret u42 => some u42
            | .ret u23 => some u23
        | .ret u11 => some u11
theorem ref01_At_c {a0 : List UInt8} {a1 : Int} {res : Int × Int} (h0 : ref01_At a0 a1 = some res) : CallF X 24 [.val (.string (bs a0)), dN a1] [] (fun x => .tup [dN res.1, dN res.2]) (fun x => []) := by
 unfold ref01_At at h0
 refine CallF.mkG (X := X) rfl Tryd.func24 rfl rfl Tryd.ntmps24 rfl rfl ?_
 refine aS ?_
 iterate 2 refine aA rfl rfl ?_
 refine aN rfl ?_
 refine T.seq ?_
 refine T.seq ?_
 obtain ⟨t1, ht1, h0⟩ := bS h0
 refine T.cutC (fun S' => S' = ⟨[(17, (dT t1)), (5, (dN 0)), (4, (dN 0)), (1, (dN a1)), (0, .val (.string (bs a0)))], [], 154⟩) (fun _ h => h) ?_ ?_
 · refine T.region ?_
   iterate 3 refine aA rfl rfl ?_
   rcases ite_some ht1 with ⟨c2, ht1⟩ | ⟨c2, ht1⟩
   · refine TL.off rfl rfl rfl rfl (decide_eq_true c2) rfl rfl ?_
     refine TL.off rfl rfl rfl rfl (decide_eq_true c2) rfl rfl ?_
     refine TL.off rfl rfl rfl rfl (decide_eq_true c2) rfl rfl ?_
     refine TL.off rfl rfl rfl rfl (decide_eq_true c2) rfl rfl ?_
     refine TL.op1 (OpR.pickT rfl (decide_eq_true c2) rfl) rfl ?_
     refine TL.nil ?_
     obtain rfl := Option.some.inj ht1
     exact ⟨_, Gst.only [0, 1, 4, 5, 17] rfl, rfl⟩
   refine TL.on rfl rfl rfl rfl (decide_eq_false c2) ?_
   refine aA rfl rfl ?_
   refine TL.on rfl rfl rfl rfl (decide_eq_false c2) ?_
   refine aA rfl rfl ?_
   refine TL.on rfl rfl rfl rfl (decide_eq_false c2) ?_
   refine TL.op1 (OpR.cast (OpR.pure rfl) (intE (lenS _))) rfl ?_
   refine TL.on rfl rfl rfl rfl (decide_eq_false c2) ?_
   refine aA rfl rfl ?_
   refine TL.op1 (OpR.pickF rfl (decide_eq_false c2) rfl) rfl ?_
   refine TL.nil ?_
   obtain rfl := Option.some.inj ht1
   exact ⟨_, Gst.only [0, 1, 4, 5, 17] rfl, rfl⟩
 rintro _ rfl
 show T X _ _ _
 rcases ite_some h0 with ⟨c3, h0⟩ | ⟨c3, h0⟩
 · refine T.condT rfl (c3) ?_
   refine aS ?_
   iterate 2 refine aA rfl rfl ?_
   refine aN rfl ?_
   refine T.ret ?_
   obtain rfl := Option.some.inj h0
   exact rO [] [4, 5] rfl undef (cT rfl (cT rfl ResL.nil)) rfl rfl rfl rfl
 refine T.condF rfl (eq_false_of_ne_true c3) ?_
 refine aK rfl ?_
 refine aS ?_
 iterate 2 refine aA rfl rfl ?_
 obtain ⟨x4, hx4, h0⟩ := bS h0
 refine TL.op1 (OpR.indexS hx4 rfl rfl rfl rfl) rfl ?_
 refine TL.op1 (OpR.cast (OpR.pure rfl) (intE (w64_u8 _))) rfl ?_
 refine aA rfl rfl ?_
 refine aN rfl ?_
 refine T.seq ?_
 refine aS ?_
 iterate 2 refine aA rfl rfl ?_
 refine aN rfl ?_
 rcases ite_some h0 with ⟨c5, h0⟩ | ⟨c5, h0⟩
 · refine T.condT rfl (decide_eq_true c5) ?_
   refine aS ?_
   iterate 3 refine aA rfl rfl ?_
   refine aN rfl ?_
   refine T.ret ?_
   obtain rfl := Option.some.inj h0
   exact rO [] [4, 5] rfl undef (cT rfl (cT rfl ResL.nil)) rfl rfl rfl rfl
 refine T.condF rfl (decide_eq_false c5) ?_
 refine aK rfl ?_
 refine T.seq ?_
 refine T.seq ?_
 obtain ⟨t6, ht6, h0⟩ := bS h0
 refine T.cutC (fun S' => S' = ⟨[(36, (dT t6)), (6, (dN (x4.toNat : Int))), (5, (dN 0)), (4, (dN 0)), (1, (dN a1)), (0, .val (.string (bs a0)))], [], 154⟩) (fun _ h => h) ?_ ?_
 · refine T.region ?_
   iterate 3 refine aA rfl rfl ?_
   rcases ite_some ht6 with ⟨c7, ht6⟩ | ⟨c7, ht6⟩
   rotate_left
   · refine TL.off rfl rfl rfl rfl (decide_eq_false c7) rfl rfl ?_
     refine TL.off rfl rfl rfl rfl (decide_eq_false c7) rfl rfl ?_
     refine TL.op1 (OpR.pickF rfl (decide_eq_false c7) rfl) rfl ?_
     refine aA rfl rfl ?_
     refine TL.off rfl rfl rfl rfl rfl rfl rfl ?_
     refine TL.off rfl rfl rfl rfl rfl rfl rfl ?_
     refine TL.off rfl rfl rfl rfl rfl rfl rfl ?_
     refine TL.off rfl rfl rfl rfl rfl rfl rfl ?_
     refine TL.op1 (OpR.pickF rfl rfl rfl) rfl ?_
     refine TL.nil ?_
     obtain rfl := Option.some.inj ht6
     exact ⟨_, Gst.only [0, 1, 4, 5, 6, 36] rfl, rfl⟩
   refine TL.on rfl rfl rfl rfl (decide_eq_true c7) ?_
   refine aA rfl rfl ?_
   refine TL.on rfl rfl rfl rfl (decide_eq_true c7) ?_
   refine aA rfl rfl ?_
   refine TL.op1 (OpR.pickT rfl (decide_eq_true c7) rfl) rfl ?_
   refine aA rfl rfl ?_
   rcases ite_some ht6 with ⟨c8, ht6⟩ | ⟨c8, ht6⟩
   rotate_left
   · refine TL.off rfl rfl rfl rfl (decide_eq_false c8) rfl rfl ?_
     refine TL.off rfl rfl rfl rfl (decide_eq_false c8) rfl rfl ?_
     refine TL.off rfl rfl rfl rfl (decide_eq_false c8) rfl rfl ?_
     refine TL.off rfl rfl rfl rfl (decide_eq_false c8) rfl rfl ?_
     refine TL.op1 (OpR.pickF rfl (decide_eq_false c8) rfl) rfl ?_
     refine TL.nil ?_
     obtain rfl := Option.some.inj ht6
     exact ⟨_, Gst.only [0, 1, 4, 5, 6, 36] rfl, rfl⟩
   refine TL.on rfl rfl rfl rfl (decide_eq_true c8) ?_
   refine aA rfl rfl ?_
   refine TL.on rfl rfl rfl rfl (decide_eq_true c8) ?_
   refine aA rfl rfl ?_
   refine TL.on rfl rfl rfl rfl (decide_eq_true c8) ?_
   refine aA rfl rfl ?_
   refine TL.on rfl rfl rfl rfl (decide_eq_true c8) ?_
   obtain ⟨x9, hx9, ht6⟩ := bS ht6
   refine TL.op1 (OpR.call0 fn33 (ref01_more_c hx9) rfl) rfl ?_
   refine TL.op1 (OpR.pickT rfl (decide_eq_true c8) rfl) rfl ?_
   refine TL.nil ?_
   obtain rfl := Option.some.inj ht6
   exact ⟨_, Gst.only [0, 1, 4, 5, 6, 36] rfl, rfl⟩
 rintro _ rfl
 show T X _ _ _
 obtain ⟨t10, ht10, h0⟩ := bS h0
 refine T.cutC (fun S' => ∃ u11, t10 = Ex.brk u11 ∧ S' = ⟨[(6, (dN (x4.toNat : Int))), (5, (dN 0)), (4, (dN 0)), (1, (dN a1)), (0, .val (.string (bs a0)))], [], 154⟩) (fun _ h => h) ?_ ?_
 · rcases ite_some ht10 with ⟨c12, ht10⟩ | ⟨c12, ht10⟩
   rotate_left
   · refine T.condF rfl (eq_false_of_ne_true c12) ?_
     refine T.skip ?_
     obtain rfl := Option.some.inj ht10
     exact ⟨_, Gst.only [0, 1, 4, 5, 6] rfl, _, rfl, rfl⟩
   refine T.condT rfl (c12) ?_
   refine aS ?_
   iterate 6 refine aA rfl rfl ?_
   obtain ⟨x13, hx13, ht10⟩ := bS ht10
   refine TL.op1 (OpR.indexS hx13 rfl rfl rfl rfl) rfl ?_
   refine TL.op1 (OpR.cast (OpR.pure rfl) (intE (w64_u8 _))) rfl ?_
   refine aA rfl rfl ?_
   obtain ⟨x14, hx14, ht10⟩ := bS ht10
   refine TL.op1 (OpR.cast (OpR.pure rfl) (intE (Option.some.inj hx14))) rfl ?_
   refine aA rfl rfl ?_
   refine aN rfl ?_
   refine aS ?_
   iterate 2 refine aA rfl rfl ?_
   refine aN rfl ?_
   rcases ite_some ht10 with ⟨c15, ht10⟩ | ⟨c15, ht10⟩
   rotate_left
   · refine T.condF rfl (decide_eq_false c15) ?_
     refine T.skip ?_
     obtain rfl := Option.some.inj ht10
     exact ⟨_, Gst.only [0, 1, 4, 5, 6] rfl, _, rfl, rfl⟩
   refine T.condT rfl (decide_eq_true c15) ?_
   refine aS ?_
   iterate 3 refine aA rfl rfl ?_
   refine aN rfl ?_
   refine T.ret ?_
   obtain rfl := Option.some.inj ht10
   obtain rfl := Option.some.inj h0
   exact rO [] [4, 5] rfl undef (cT rfl (cT rfl ResL.nil)) rfl rfl rfl rfl
 rintro _ ⟨u11, rfl, rfl⟩
 show T X _ _ _
 refine T.seq ?_
 refine T.seq ?_
 obtain ⟨t16, ht16, h0⟩ := bS h0
 refine T.cutC (fun S' => S' = ⟨[(67, (dT t16)), (6, (dN (x4.toNat : Int))), (5, (dN 0)), (4, (dN 0)), (1, (dN a1)), (0, .val (.string (bs a0)))], [], 154⟩) (fun _ h => h) ?_ ?_
 · refine T.region ?_
   iterate 3 refine aA rfl rfl ?_
   rcases ite_some ht16 with ⟨c17, ht16⟩ | ⟨c17, ht16⟩
   rotate_left
   · refine TL.off rfl rfl rfl rfl (decide_eq_false c17) rfl rfl ?_
     refine TL.off rfl rfl rfl rfl (decide_eq_false c17) rfl rfl ?_
     refine TL.op1 (OpR.pickF rfl (decide_eq_false c17) rfl) rfl ?_
     refine aA rfl rfl ?_
     refine TL.off rfl rfl rfl rfl rfl rfl rfl ?_
     refine TL.off rfl rfl rfl rfl rfl rfl rfl ?_
     refine TL.off rfl rfl rfl rfl rfl rfl rfl ?_
     refine TL.off rfl rfl rfl rfl rfl rfl rfl ?_
     refine TL.op1 (OpR.pickF rfl rfl rfl) rfl ?_
     refine aA rfl rfl ?_
     refine TL.off rfl rfl rfl rfl rfl rfl rfl ?_
     refine TL.off rfl rfl rfl rfl rfl rfl rfl ?_
     refine TL.off rfl rfl rfl rfl rfl rfl rfl ?_
     refine TL.off rfl rfl rfl rfl rfl rfl rfl ?_
     refine TL.op1 (OpR.pickF rfl rfl rfl) rfl ?_
     refine TL.nil ?_
     obtain rfl := Option.some.inj ht16
     exact ⟨_, Gst.only [0, 1, 4, 5, 6, 67] rfl, rfl⟩
   refine TL.on rfl rfl rfl rfl (decide_eq_true c17) ?_
   refine aA rfl rfl ?_
   refine TL.on rfl rfl rfl rfl (decide_eq_true c17) ?_
   refine aA rfl rfl ?_
   refine TL.op1 (OpR.pickT rfl (decide_eq_true c17) rfl) rfl ?_
   refine aA rfl rfl ?_
   rcases ite_some ht16 with ⟨c18, ht16⟩ | ⟨c18, ht16⟩
   rotate_left
   · refine TL.off rfl rfl rfl rfl (decide_eq_false c18) rfl rfl ?_
     refine TL.off rfl rfl rfl rfl (decide_eq_false c18) rfl rfl ?_
     refine TL.off rfl rfl rfl rfl (decide_eq_false c18) rfl rfl ?_
     refine TL.off rfl rfl rfl rfl (decide_eq_false c18) rfl rfl ?_
     refine TL.op1 (OpR.pickF rfl (decide_eq_false c18) rfl) rfl ?_
     refine aA rfl rfl ?_
     refine TL.off rfl rfl rfl rfl rfl rfl rfl ?_
     refine TL.off rfl rfl rfl rfl rfl rfl rfl ?_
     refine TL.off rfl rfl rfl rfl rfl rfl rfl ?_
     refine TL.off rfl rfl rfl rfl rfl rfl rfl ?_
     refine TL.op1 (OpR.pickF rfl rfl rfl) rfl ?_
     refine TL.nil ?_
     obtain rfl := Option.some.inj ht16
     exact ⟨_, Gst.only [0, 1, 4, 5, 6, 67] rfl, rfl⟩
   refine TL.on rfl rfl rfl rfl (decide_eq_true c18) ?_
   refine aA rfl rfl ?_
   refine TL.on rfl rfl rfl rfl (decide_eq_true c18) ?_
   refine aA rfl rfl ?_
   refine TL.on rfl rfl rfl rfl (decide_eq_true c18) ?_
   refine aA rfl rfl ?_
   refine TL.on rfl rfl rfl rfl (decide_eq_true c18) ?_
   obtain ⟨x19, hx19, ht16⟩ := bS ht16
   refine TL.op1 (OpR.call0 fn33 (ref01_more_c hx19) rfl) rfl ?_
   refine TL.op1 (OpR.pickT rfl (decide_eq_true c18) rfl) rfl ?_
   refine aA rfl rfl ?_
   rcases ite_some ht16 with ⟨c20, ht16⟩ | ⟨c20, ht16⟩
   rotate_left
   · refine TL.off rfl rfl rfl rfl (eq_false_of_ne_true c20) rfl rfl ?_
     refine TL.off rfl rfl rfl rfl (eq_false_of_ne_true c20) rfl rfl ?_
     refine TL.off rfl rfl rfl rfl (eq_false_of_ne_true c20) rfl rfl ?_
     refine TL.off rfl rfl rfl rfl (eq_false_of_ne_true c20) rfl rfl ?_
     refine TL.op1 (OpR.pickF rfl (eq_false_of_ne_true c20) rfl) rfl ?_
     refine TL.nil ?_
     obtain rfl := Option.some.inj ht16
     exact ⟨_, Gst.only [0, 1, 4, 5, 6, 67] rfl, rfl⟩
   refine TL.on rfl rfl rfl rfl (c20) ?_
   refine aA rfl rfl ?_
   refine TL.on rfl rfl rfl rfl (c20) ?_
   refine aA rfl rfl ?_
   refine TL.on rfl rfl rfl rfl (c20) ?_
   refine aA rfl rfl ?_
   refine TL.on rfl rfl rfl rfl (c20) ?_
   obtain ⟨x21, hx21, ht16⟩ := bS ht16
   refine TL.op1 (OpR.call0 fn33 (ref01_more_c hx21) rfl) rfl ?_
   refine TL.op1 (OpR.pickT rfl (c20) rfl) rfl ?_
   refine TL.nil ?_
   obtain rfl := Option.some.inj ht16
   exact ⟨_, Gst.only [0, 1, 4, 5, 6, 67] rfl, rfl⟩
 rintro _ rfl
 show T X _ _ _
 obtain ⟨t22, ht22, h0⟩ := bS h0
 refine T.cutC (fun S' => ∃ u23, t22 = Ex.brk u23 ∧ S' = ⟨[(6, (dN (x4.toNat : Int))), (5, (dN 0)), (4, (dN 0)), (1, (dN a1)), (0, .val (.string (bs a0)))], [], 154⟩) (fun _ h => h) ?_ ?_
 · rcases ite_some ht22 with ⟨c24, ht22⟩ | ⟨c24, ht22⟩
   rotate_left
   · refine T.condF rfl (eq_false_of_ne_true c24) ?_
     refine T.skip ?_
     obtain rfl := Option.some.inj ht22
     exact ⟨_, Gst.only [0, 1, 4, 5, 6] rfl, _, rfl, rfl⟩
   refine T.condT rfl (c24) ?_
   refine T.seq ?_
   obtain ⟨x26, hx26, ht22⟩ := bS ht22
   obtain ⟨x27, hx27, ht22⟩ := bS ht22
   obtain ⟨x28, hx28, ht22⟩ := bS ht22
   refine T.drawQ drawsX [dN (x4.toNat : Int), dN (w64 ((x4.toNat : Int) - 224)), dN (w64 ((w64 ((x4.toNat : Int) - 224)) * 4096)), .val (.string (bs a0)), dN a1, dN (w64 (a1 + 1)), .val (.int .u8 (x26.toNat : Int)), dN (x26.toNat : Int), dN (w64 ((x26.toNat : Int) - 128)), dN (w64 ((w64 ((x26.toNat : Int) - 128)) * 64)), dN x27, .val (.string (bs a0)), dN a1, dN (w64 (a1 + 2)), .val (.int .u8 (x28.toNat : Int)), dN (x28.toNat : Int), dN (w64 (x27 + (x28.toNat : Int))), dN (w64 ((w64 (x27 + (x28.toNat : Int))) - 128)), dN (w64 ((w64 (x27 + (x28.toNat : Int))) - 128))] [0, 1, 4, 5, 6, 8] (by decide +kernel) rfl ?_ rfl ?_
   · iterate 6 refine aB rfl rfl rfl ?_
     refine OpsQ.yes (Want.plain rfl) rfl (OpR.indexS hx26 rfl rfl rfl rfl) ?_
     refine OpsQ.yes (Want.plain rfl) rfl (OpR.cast (OpR.pure rfl) (intE (w64_u8 _))) ?_
     iterate 2 refine aB rfl rfl rfl ?_
     refine OpsQ.yes (Want.plain rfl) rfl (OpR.cast (OpR.pure rfl) (intE (Option.some.inj hx27))) ?_
     iterate 3 refine aB rfl rfl rfl ?_
     refine OpsQ.yes (Want.plain rfl) rfl (OpR.indexS hx28 rfl rfl rfl rfl) ?_
     refine OpsQ.yes (Want.plain rfl) rfl (OpR.cast (OpR.pure rfl) (intE (w64_u8 _))) ?_
     iterate 3 refine aB rfl rfl rfl ?_
     exact OpsQ.nil
   show T X _ _ _
   refine T.seq ?_
   obtain ⟨t29, ht29, ht22⟩ := bS ht22
   refine T.cutC (fun S' => S' = ⟨[(95, (dT t29)), (8, (dN (w64 ((w64 (x27 + (x28.toNat : Int))) - 128)))), (6, (dN (x4.toNat : Int))), (5, (dN 0)), (4, (dN 0)), (1, (dN a1)), (0, .val (.string (bs a0)))], [], 154⟩) (fun _ h => h) ?_ ?_
   rotate_left
   · rintro _ rfl
     show T X _ _ _
     rcases ite_some ht22 with ⟨c32, ht22⟩ | ⟨c32, ht22⟩
     rotate_left
     · refine T.condF rfl (eq_false_of_ne_true c32) ?_
       refine T.skip ?_
       obtain rfl := Option.some.inj ht22
       exact ⟨_, Gst.only [0, 1, 4, 5, 6] rfl, _, rfl, rfl⟩
     refine T.condT rfl (c32) ?_
     refine aS ?_
     iterate 3 refine aA rfl rfl ?_
     refine aN rfl ?_
     refine T.ret ?_
     obtain rfl := Option.some.inj ht22
     obtain rfl := Option.some.inj h0
     exact rO [] [4, 5] rfl undef (cT rfl (cT rfl ResL.nil)) rfl rfl rfl rfl
   refine T.region ?_
   iterate 3 refine aA rfl rfl ?_
   rcases ite_some ht29 with ⟨c30, ht29⟩ | ⟨c30, ht29⟩
   rotate_left
   · refine TL.off rfl rfl rfl rfl (decide_eq_false c30) rfl rfl ?_
     refine TL.off rfl rfl rfl rfl (decide_eq_false c30) rfl rfl ?_
     refine TL.off rfl rfl rfl rfl (decide_eq_false c30) rfl rfl ?_
     refine TL.offU rfl rfl rfl rfl rfl rfl ?_
     refine TL.offU rfl rfl rfl rfl rfl rfl ?_
     refine TL.off rfl rfl rfl rfl (decide_eq_false c30) rfl rfl ?_
     refine TL.op1 (OpR.pickF rfl (decide_eq_false c30) rfl) rfl ?_
     refine TL.nil ?_
     obtain rfl := Option.some.inj ht29
     exact ⟨_, Gst.only [0, 1, 4, 5, 6, 8, 95] rfl, rfl⟩
   refine TL.on rfl rfl rfl rfl (decide_eq_true c30) ?_
   refine aA rfl rfl ?_
   refine TL.on rfl rfl rfl rfl (decide_eq_true c30) ?_
   refine aA rfl rfl ?_
   refine TL.on rfl rfl rfl rfl (decide_eq_true c30) ?_
   refine aA rfl rfl ?_
   rcases ite_some ht29 with ⟨c31, ht29⟩ | ⟨c31, ht29⟩
   · refine TL.off rfl rfl rfl rfl (decide_eq_true c31) rfl rfl ?_
     refine TL.off rfl rfl rfl rfl (decide_eq_true c31) rfl rfl ?_
     refine TL.on rfl rfl rfl rfl (decide_eq_true c30) ?_
     refine TL.op1 (OpR.pickT rfl (decide_eq_true c31) rfl) rfl ?_
     refine TL.op1 (OpR.pickT rfl (decide_eq_true c30) rfl) rfl ?_
     refine TL.nil ?_
     obtain rfl := Option.some.inj ht29
     exact ⟨_, Gst.only [0, 1, 4, 5, 6, 8, 95] rfl, rfl⟩
   refine TL.on rfl rfl rfl rfl (decide_eq_false c31) ?_
   refine aA rfl rfl ?_
   refine TL.on rfl rfl rfl rfl (decide_eq_false c31) ?_
   refine aA rfl rfl ?_
   refine TL.on rfl rfl rfl rfl (decide_eq_true c30) ?_
   refine TL.op1 (OpR.pickF rfl (decide_eq_false c31) rfl) rfl ?_
   refine TL.op1 (OpR.pickT rfl (decide_eq_true c30) rfl) rfl ?_
   refine TL.nil ?_
   obtain rfl := Option.some.inj ht29
   exact ⟨_, Gst.only [0, 1, 4, 5, 6, 8, 95] rfl, rfl⟩
 rintro _ ⟨u23, rfl, rfl⟩
 show T X _ _ _
 refine T.seq ?_
 refine T.seq ?_
 obtain ⟨t33, ht33, h0⟩ := bS h0
 refine T.cutC (fun S' => S' = ⟨[(120, (dT t33)), (6, (dN (x4.toNat : Int))), (5, (dN 0)), (4, (dN 0)), (1, (dN a1)), (0, .val (.string (bs a0)))], [], 154⟩) (fun _ h => h) ?_ ?_
 · refine T.region ?_
   iterate 3 refine aA rfl rfl ?_
   rcases ite_some ht33 with ⟨c34, ht33⟩ | ⟨c34, ht33⟩
   rotate_left
   · refine TL.off rfl rfl rfl rfl (decide_eq_false c34) rfl rfl ?_
     refine TL.off rfl rfl rfl rfl (decide_eq_false c34) rfl rfl ?_
     refine TL.op1 (OpR.pickF rfl (decide_eq_false c34) rfl) rfl ?_
     refine aA rfl rfl ?_
     refine TL.off rfl rfl rfl rfl rfl rfl rfl ?_
     refine TL.off rfl rfl rfl rfl rfl rfl rfl ?_
     refine TL.off rfl rfl rfl rfl rfl rfl rfl ?_
     refine TL.off rfl rfl rfl rfl rfl rfl rfl ?_
     refine TL.op1 (OpR.pickF rfl rfl rfl) rfl ?_
     refine aA rfl rfl ?_
     refine TL.off rfl rfl rfl rfl rfl rfl rfl ?_
     refine TL.off rfl rfl rfl rfl rfl rfl rfl ?_
     refine TL.off rfl rfl rfl rfl rfl rfl rfl ?_
     refine TL.off rfl rfl rfl rfl rfl rfl rfl ?_
     refine TL.op1 (OpR.pickF rfl rfl rfl) rfl ?_
     refine aA rfl rfl ?_
     refine TL.off rfl rfl rfl rfl rfl rfl rfl ?_
     refine TL.off rfl rfl rfl rfl rfl rfl rfl ?_
     refine TL.off rfl rfl rfl rfl rfl rfl rfl ?_
     refine TL.off rfl rfl rfl rfl rfl rfl rfl ?_
     refine TL.op1 (OpR.pickF rfl rfl rfl) rfl ?_
     refine TL.nil ?_
     obtain rfl := Option.some.inj ht33
     exact ⟨_, Gst.only [0, 1, 4, 5, 6, 120] rfl, rfl⟩
   refine TL.on rfl rfl rfl rfl (decide_eq_true c34) ?_
   refine aA rfl rfl ?_
   refine TL.on rfl rfl rfl rfl (decide_eq_true c34) ?_
   refine aA rfl rfl ?_
   refine TL.op1 (OpR.pickT rfl (decide_eq_true c34) rfl) rfl ?_
   refine aA rfl rfl ?_
   rcases ite_some ht33 with ⟨c35, ht33⟩ | ⟨c35, ht33⟩
   rotate_left
   · refine TL.off rfl rfl rfl rfl (decide_eq_false c35) rfl rfl ?_
     refine TL.off rfl rfl rfl rfl (decide_eq_false c35) rfl rfl ?_
     refine TL.off rfl rfl rfl rfl (decide_eq_false c35) rfl rfl ?_
     refine TL.off rfl rfl rfl rfl (decide_eq_false c35) rfl rfl ?_
     refine TL.op1 (OpR.pickF rfl (decide_eq_false c35) rfl) rfl ?_
     refine aA rfl rfl ?_
     refine TL.off rfl rfl rfl rfl rfl rfl rfl ?_
     refine TL.off rfl rfl rfl rfl rfl rfl rfl ?_
     refine TL.off rfl rfl rfl rfl rfl rfl rfl ?_
     refine TL.off rfl rfl rfl rfl rfl rfl rfl ?_
     refine TL.op1 (OpR.pickF rfl rfl rfl) rfl ?_
     refine aA rfl rfl ?_
     refine TL.off rfl rfl rfl rfl rfl rfl rfl ?_
     refine TL.off rfl rfl rfl rfl rfl rfl rfl ?_
     refine TL.off rfl rfl rfl rfl rfl rfl rfl ?_
     refine TL.off rfl rfl rfl rfl rfl rfl rfl ?_
     refine TL.op1 (OpR.pickF rfl rfl rfl) rfl ?_
     refine TL.nil ?_
     obtain rfl := Option.some.inj ht33
     exact ⟨_, Gst.only [0, 1, 4, 5, 6, 120] rfl, rfl⟩
   refine TL.on rfl rfl rfl rfl (decide_eq_true c35) ?_
   refine aA rfl rfl ?_
   refine TL.on rfl rfl rfl rfl (decide_eq_true c35) ?_
   refine aA rfl rfl ?_
   refine TL.on rfl rfl rfl rfl (decide_eq_true c35) ?_
   refine aA rfl rfl ?_
   refine TL.on rfl rfl rfl rfl (decide_eq_true c35) ?_
   obtain ⟨x36, hx36, ht33⟩ := bS ht33
   refine TL.op1 (OpR.call0 fn33 (ref01_more_c hx36) rfl) rfl ?_
   refine TL.op1 (OpR.pickT rfl (decide_eq_true c35) rfl) rfl ?_
   refine aA rfl rfl ?_
   rcases ite_some ht33 with ⟨c37, ht33⟩ | ⟨c37, ht33⟩
   rotate_left
   · refine TL.off rfl rfl rfl rfl (eq_false_of_ne_true c37) rfl rfl ?_
     refine TL.off rfl rfl rfl rfl (eq_false_of_ne_true c37) rfl rfl ?_
     refine TL.off rfl rfl rfl rfl (eq_false_of_ne_true c37) rfl rfl ?_
     refine TL.off rfl rfl rfl rfl (eq_false_of_ne_true c37) rfl rfl ?_
     refine TL.op1 (OpR.pickF rfl (eq_false_of_ne_true c37) rfl) rfl ?_
     refine aA rfl rfl ?_
     refine TL.off rfl rfl rfl rfl rfl rfl rfl ?_
     refine TL.off rfl rfl rfl rfl rfl rfl rfl ?_
     refine TL.off rfl rfl rfl rfl rfl rfl rfl ?_
     refine TL.off rfl rfl rfl rfl rfl rfl rfl ?_
     refine TL.op1 (OpR.pickF rfl rfl rfl) rfl ?_
     refine TL.nil ?_
     obtain rfl := Option.some.inj ht33
     exact ⟨_, Gst.only [0, 1, 4, 5, 6, 120] rfl, rfl⟩
   refine TL.on rfl rfl rfl rfl (c37) ?_
   refine aA rfl rfl ?_
   refine TL.on rfl rfl rfl rfl (c37) ?_
   refine aA rfl rfl ?_
   refine TL.on rfl rfl rfl rfl (c37) ?_
   refine aA rfl rfl ?_
   refine TL.on rfl rfl rfl rfl (c37) ?_
   obtain ⟨x38, hx38, ht33⟩ := bS ht33
   refine TL.op1 (OpR.call0 fn33 (ref01_more_c hx38) rfl) rfl ?_
   refine TL.op1 (OpR.pickT rfl (c37) rfl) rfl ?_
   refine aA rfl rfl ?_
   rcases ite_some ht33 with ⟨c39, ht33⟩ | ⟨c39, ht33⟩
   rotate_left
   · refine TL.off rfl rfl rfl rfl (eq_false_of_ne_true c39) rfl rfl ?_
     refine TL.off rfl rfl rfl rfl (eq_false_of_ne_true c39) rfl rfl ?_
     refine TL.off rfl rfl rfl rfl (eq_false_of_ne_true c39) rfl rfl ?_
     refine TL.off rfl rfl rfl rfl (eq_false_of_ne_true c39) rfl rfl ?_
     refine TL.op1 (OpR.pickF rfl (eq_false_of_ne_true c39) rfl) rfl ?_
     refine TL.nil ?_
     obtain rfl := Option.some.inj ht33
     exact ⟨_, Gst.only [0, 1, 4, 5, 6, 120] rfl, rfl⟩
   refine TL.on rfl rfl rfl rfl (c39) ?_
   refine aA rfl rfl ?_
   refine TL.on rfl rfl rfl rfl (c39) ?_
   refine aA rfl rfl ?_
   refine TL.on rfl rfl rfl rfl (c39) ?_
   refine aA rfl rfl ?_
   refine TL.on rfl rfl rfl rfl (c39) ?_
   obtain ⟨x40, hx40, ht33⟩ := bS ht33
   refine TL.op1 (OpR.call0 fn33 (ref01_more_c hx40) rfl) rfl ?_
   refine TL.op1 (OpR.pickT rfl (c39) rfl) rfl ?_
   refine TL.nil ?_
   obtain rfl := Option.some.inj ht33
   exact ⟨_, Gst.only [0, 1, 4, 5, 6, 120] rfl, rfl⟩
 rintro _ rfl
 show T X _ _ _
 obtain ⟨t41, ht41, h0⟩ := bS h0
 refine T.cutC (fun S' => ∃ u42, t41 = Ex.brk u42 ∧ S' = ⟨[(5, (dN 0)), (4, (dN 0))], [], 154⟩) (fun _ h => h) ?_ ?_
 rotate_left
 · rintro _ ⟨u42, rfl, rfl⟩
   show T X _ _ _
   refine aS ?_
   iterate 2 refine aA rfl rfl ?_
   refine aN rfl ?_
   refine T.ret ?_
   obtain rfl := Option.some.inj h0
   exact rO [] [4, 5] rfl undef (cT rfl (cT rfl ResL.nil)) rfl rfl rfl rfl
 rcases ite_some ht41 with ⟨c43, ht41⟩ | ⟨c43, ht41⟩
 rotate_left
 · refine T.condF rfl (eq_false_of_ne_true c43) ?_
   refine T.skip ?_
   obtain rfl := Option.some.inj ht41
   exact ⟨_, Gst.only [4, 5] rfl, _, rfl, rfl⟩
 refine T.condT rfl (c43) ?_
 refine T.seq ?_
 obtain ⟨x45, hx45, ht41⟩ := bS ht41
 obtain ⟨x46, hx46, ht41⟩ := bS ht41
 obtain ⟨x47, hx47, ht41⟩ := bS ht41
 obtain ⟨x48, hx48, ht41⟩ := bS ht41
 obtain ⟨x49, hx49, ht41⟩ := bS ht41
 refine T.drawQ drawsX [dN (x4.toNat : Int), dN (w64 ((x4.toNat : Int) - 240)), dN (w64 ((w64 ((x4.toNat : Int) - 240)) * 262144)), .val (.string (bs a0)), dN a1, dN (w64 (a1 + 1)), .val (.int .u8 (x45.toNat : Int)), dN (x45.toNat : Int), dN (w64 ((x45.toNat : Int) - 128)), dN (w64 ((w64 ((x45.toNat : Int) - 128)) * 4096)), dN x46, .val (.string (bs a0)), dN a1, dN (w64 (a1 + 2)), .val (.int .u8 (x47.toNat : Int)), dN (x47.toNat : Int), dN (w64 ((x47.toNat : Int) - 128)), dN (w64 ((w64 ((x47.toNat : Int) - 128)) * 64)), dN (w64 (x46 + (w64 ((w64 ((x47.toNat : Int) - 128)) * 64)))), .val (.string (bs a0)), dN a1, dN (w64 (a1 + 3)), .val (.int .u8 (x48.toNat : Int)), dN (x48.toNat : Int), dN x49, dN (w64 (x49 - 128)), dN (w64 (x49 - 128))] [4, 5, 9] (by decide +kernel) rfl ?_ rfl ?_
 · iterate 6 refine aB rfl rfl rfl ?_
   refine OpsQ.yes (Want.plain rfl) rfl (OpR.indexS hx45 rfl rfl rfl rfl) ?_
   refine OpsQ.yes (Want.plain rfl) rfl (OpR.cast (OpR.pure rfl) (intE (w64_u8 _))) ?_
   iterate 2 refine aB rfl rfl rfl ?_
   refine OpsQ.yes (Want.plain rfl) rfl (OpR.cast (OpR.pure rfl) (intE (Option.some.inj hx46))) ?_
   iterate 3 refine aB rfl rfl rfl ?_
   refine OpsQ.yes (Want.plain rfl) rfl (OpR.indexS hx47 rfl rfl rfl rfl) ?_
   refine OpsQ.yes (Want.plain rfl) rfl (OpR.cast (OpR.pure rfl) (intE (w64_u8 _))) ?_
   iterate 6 refine aB rfl rfl rfl ?_
   refine OpsQ.yes (Want.plain rfl) rfl (OpR.indexS hx48 rfl rfl rfl rfl) ?_
   refine OpsQ.yes (Want.plain rfl) rfl (OpR.cast (OpR.pure rfl) (intE (w64_u8 _))) ?_
   refine OpsQ.yes (Want.plain rfl) rfl (OpR.cast (OpR.pure rfl) (intE (Option.some.inj hx49))) ?_
   iterate 2 refine aB rfl rfl rfl ?_
   exact OpsQ.nil
 show T X _ _ _
 refine T.seq ?_
 obtain ⟨t50, ht50, ht41⟩ := bS ht41
 refine T.cutC (fun S' => S' = ⟨[(152, (dT t50)), (9, (dN (w64 (x49 - 128)))), (5, (dN 0)), (4, (dN 0))], [], 154⟩) (fun _ h => h) ?_ ?_
 rotate_left
 · rintro _ rfl
   show T X _ _ _
   rcases ite_some ht41 with ⟨c52, ht41⟩ | ⟨c52, ht41⟩
   rotate_left
   · refine T.condF rfl (eq_false_of_ne_true c52) ?_
     refine T.skip ?_
     obtain rfl := Option.some.inj ht41
     exact ⟨_, Gst.only [4, 5] rfl, _, rfl, rfl⟩
   refine T.condT rfl (c52) ?_
   refine aS ?_
   iterate 3 refine aA rfl rfl ?_
   refine aN rfl ?_
   refine T.ret ?_
   obtain rfl := Option.some.inj ht41
   obtain rfl := Option.some.inj h0
   exact rO [] [4, 5] rfl undef (cT rfl (cT rfl ResL.nil)) rfl rfl rfl rfl
 refine T.region ?_
 iterate 3 refine aA rfl rfl ?_
 rcases ite_some ht50 with ⟨c51, ht50⟩ | ⟨c51, ht50⟩
 rotate_left
 · refine TL.off rfl rfl rfl rfl (decide_eq_false c51) rfl rfl ?_
   refine TL.off rfl rfl rfl rfl (decide_eq_false c51) rfl rfl ?_
   refine TL.op1 (OpR.pickF rfl (decide_eq_false c51) rfl) rfl ?_
   refine TL.nil ?_
   obtain rfl := Option.some.inj ht50
   exact ⟨_, Gst.only [4, 5, 9, 152] rfl, rfl⟩
 refine TL.on rfl rfl rfl rfl (decide_eq_true c51) ?_
 refine aA rfl rfl ?_
 refine TL.on rfl rfl rfl rfl (decide_eq_true c51) ?_
 refine aA rfl rfl ?_
 refine TL.op1 (OpR.pickT rfl (decide_eq_true c51) rfl) rfl ?_
 refine TL.nil ?_
 obtain rfl := Option.some.inj ht50
 exact ⟨_, Gst.only [4, 5, 9, 152] rfl, rfl⟩
noncomputable def ref22_Parse.l1 (a0 : List UInt8) (s5 : Int × (List Int)) (s15 : Int × Int) : Option (Lp (Int × Int) Int) :=
  bnd (if s15.2 < 128 then
    some (s15.1 == 0)
  else
    some false : Option Bool) fun t23 =>
  if t23 = true then
    bnd (ref22_Text s15.2) fun x26 =>
    bnd (if x26 = [] then
      some false
    else
      if (w64 (s5.1 + (x26.length : Int))) ≤ (a0.length : Int) then
        bnd (cut a0 s5.1 (w64 (s5.1 + (x26.length : Int)))) fun x30 =>
        some (x30 == x26)
      else
        some false : Option Bool) fun t27 =>
    bnd (if t27 = true then
      some s15.2
    else
      some s15.1 : Option Int) fun t31 =>
    some (Lp.next (t31, w64 (s15.2 + 1)))
  else
    some (Lp.done s15.1)
noncomputable def ref22_Parse.l2 (a0 : List UInt8) (s5 : Int × (List Int)) : Option (Lp (Int × (List Int)) (Ex (List Int) ((List Int) × Int))) :=
  if s5.1 < (a0.length : Int) then
    bnd (loop (ref22_Parse.l1 a0 s5) (0, (-6)) : Option Int) fun t14 =>
    bnd (ref01_At a0 s5.1) fun x33 =>
    bnd (if t14 = 0 then
      some (decide (x33.1 > 127))
    else
      some false : Option Bool) fun t34 =>
    bnd (if t34 = true then
      some x33.1
    else
      some t14 : Option Int) fun t36 =>
    if t36 = 0 then
      some (Lp.done (Ex.ret ([], 3)))
    else
      bnd (app 8 s5.2 [t36]) fun x39 =>
      bnd (ref22_Text t36) fun x41 =>
      some (Lp.next (w64 (s5.1 + (x41.length : Int)), x39))
  else
    some (Lp.done (Ex.brk s5.2))
noncomputable def ref22_Parse (a0 : List UInt8) : Option ((List Int) × Int) :=
  bnd (loop (ref22_Parse.l2 a0) (0, []) : Option (Ex (List Int) ((List Int) × Int))) fun t1 => match t1 with
    | .brk u2 =>
      some (u2, 0)
    | .ret u2 => some u2
theorem ref22_Parse_c {a0 : List UInt8} {res : (List Int) × Int} (h0 : ref22_Parse a0 = some res) : CallF X 9 [.val (.string (bs a0))] [] (fun x => .tup [.sl 1 (List.map (eI .i64) res.1), dN res.2]) (fun x => []) := by
 unfold ref22_Parse at h0
 refine CallF.mkG (X := X) rfl Tryd.func9 rfl rfl Tryd.ntmps9 rfl rfl ?_
 refine aS ?_
 iterate 2 refine aA rfl rfl ?_
 refine aN rfl ?_
 refine aS ?_
 refine aA rfl rfl ?_
 refine aN rfl ?_
 refine T.seq ?_
 refine aS ?_
 refine aA rfl rfl ?_
 refine aN rfl ?_
 obtain ⟨t1, ht1, h0⟩ := bS h0
 refine T.cutC (fun S' => ∃ u2, t1 = Ex.brk u2 ∧ ∃ y3 : Value, S' = ⟨[(4, .val y3), (3, (dN 0)), (2, .val (.slice none 0 0))], [.row y3 (List.map (eI .i64) u2) 1 3], 73⟩) (fun _ h => h) ?_ ?_
 rotate_left
 · rintro _ ⟨u2, rfl, y3, rfl⟩
   show T X _ _ _
   refine aS ?_
   iterate 3 refine aA rfl rfl ?_
   refine aN rfl ?_
   refine T.ret ?_
   obtain rfl := Option.some.inj h0
   exact PostG.retP (ks := []) (Gst.trans (Gst.only [2, 3] rfl) (Gst.trans (Gst.freezeRow 0 rfl rfl (ReS.cons Re.refl (ReS.cons (Re.base .all) ReS.nil)) (ReO.same ReO.nil)) (Gst.pick [] rfl rfl))) undef (cT rfl (cT rfl ResL.nil)) rfl rfl rfl rfl
 refine T.block ?_
 obtain ⟨n6, n11⟩ := loop_some ht1
 refine T.loop (fun n S' => ∃ S'', Gst S' S'' ∧ ∃ y4 : Value, ∃ s5 : Int × (List Int), S'' = ⟨[(5, (dN s5.1)), (4, .val y4), (3, (dN 0)), (2, .val (.slice none 0 0)), (0, .val (.string (bs a0)))], [.row y4 (List.map (eI .i64) s5.2) 1 3], 73⟩ ∧ iter (ref22_Parse.l2 a0) n s5 = some t1) n6 ?_ ?_
 · exact ⟨_, Gst.trans (Gst.only [0, 2, 3, 4, 5] rfl) (Gst.nilRow (ow := []) 1 3 rfl), (.slice none 0 0), (0, []), rfl, n11⟩
 rintro n6 _ ⟨_, g, y4, s5, rfl, i10⟩
 refine T.ghost g ?_
 obtain ⟨m7, q8, rfl, q9, i10⟩ := iter_succ i10
 unfold ref22_Parse.l2 at q9
 refine T.seq ?_
 refine aS ?_
 iterate 2 refine aA rfl rfl ?_
 refine TL.op1 (OpR.cast (OpR.pure rfl) (intE (lenS _))) rfl ?_
 refine aA rfl rfl ?_
 refine aN rfl ?_
 rcases ite_some q9 with ⟨c13, q9⟩ | ⟨c13, q9⟩
 rotate_left
 · refine T.condF rfl (decide_eq_false c13) ?_
   refine T.exit ?_
   obtain rfl := Option.some.inj q9
   obtain rfl : _ = _ := i10
   exact ⟨_, Gst.only [2, 3, 4] rfl, _, rfl, y4, rfl⟩
 refine T.condT rfl (decide_eq_true c13) ?_
 refine aK rfl ?_
 refine T.block ?_
 refine aS ?_
 refine aA rfl rfl ?_
 refine aN rfl ?_
 refine T.seq ?_
 refine aS ?_
 refine aA rfl rfl ?_
 refine aN rfl ?_
 obtain ⟨t14, ht14, q9⟩ := bS q9
 refine T.cutC (fun S' => S' = ⟨[(6, (dN t14)), (5, (dN s5.1)), (4, .val y4), (3, (dN 0)), (2, .val (.slice none 0 0)), (0, .val (.string (bs a0)))], [.row y4 (List.map (eI .i64) s5.2) 1 3], 73⟩) (fun _ h => h) ?_ ?_
 rotate_left
 · rintro _ rfl
   show T X _ _ _
   refine aS ?_
   iterate 2 refine aA rfl rfl ?_
   obtain ⟨x33, hx33, q9⟩ := bS q9
   refine TL.op1 (OpR.call0 fn24 (ref01_At_c hx33) rfl) rfl ?_
   iterate 5 refine aA rfl rfl ?_
   refine aN rfl ?_
   refine T.seq ?_
   refine T.seq ?_
   obtain ⟨t34, ht34, q9⟩ := bS q9
   refine T.cutC (fun S' => S' = ⟨[(59, (dT t34)), (9, (dN x33.1)), (6, (dN t14)), (5, (dN s5.1)), (4, .val y4), (3, (dN 0)), (2, .val (.slice none 0 0)), (0, .val (.string (bs a0)))], [.row y4 (List.map (eI .i64) s5.2) 1 3], 73⟩) (fun _ h => h) ?_ ?_
   · refine T.region ?_
     iterate 3 refine aA rfl rfl ?_
     rcases ite_some ht34 with ⟨c35, ht34⟩ | ⟨c35, ht34⟩
     rotate_left
     · refine TL.off rfl rfl rfl rfl (beq_eq_false_iff_ne.2 c35) rfl rfl ?_
       refine TL.off rfl rfl rfl rfl (beq_eq_false_iff_ne.2 c35) rfl rfl ?_
       refine TL.op1 (OpR.pickF rfl (beq_eq_false_iff_ne.2 c35) rfl) rfl ?_
       refine TL.nil ?_
       obtain rfl := Option.some.inj ht34
       exact ⟨_, Gst.only [0, 2, 3, 4, 5, 6, 9, 59] rfl, rfl⟩
     refine TL.on rfl rfl rfl rfl (beq_iff_eq.2 c35) ?_
     refine aA rfl rfl ?_
     refine TL.on rfl rfl rfl rfl (beq_iff_eq.2 c35) ?_
     refine aA rfl rfl ?_
     refine TL.op1 (OpR.pickT rfl (beq_iff_eq.2 c35) rfl) rfl ?_
     refine TL.nil ?_
     obtain rfl := Option.some.inj ht34
     exact ⟨_, Gst.only [0, 2, 3, 4, 5, 6, 9, 59] rfl, rfl⟩
   rintro _ rfl
   show T X _ _ _
   obtain ⟨t36, ht36, q9⟩ := bS q9
   refine T.cutC (fun S' => S' = ⟨[(6, (dN t36)), (5, (dN s5.1)), (4, .val y4), (3, (dN 0)), (2, .val (.slice none 0 0)), (0, .val (.string (bs a0)))], [.row y4 (List.map (eI .i64) s5.2) 1 3], 73⟩) (fun _ h => h) ?_ ?_
   · rcases ite_some ht36 with ⟨c37, ht36⟩ | ⟨c37, ht36⟩
     rotate_left
     · refine T.condF rfl (eq_false_of_ne_true c37) ?_
       refine T.skip ?_
       obtain rfl := Option.some.inj ht36
       exact ⟨_, Gst.only [0, 2, 3, 4, 5, 6] rfl, rfl⟩
     refine T.condT rfl (c37) ?_
     refine T.region ?_
     iterate 2 refine aA rfl rfl ?_
     refine TL.nil ?_
     obtain rfl := Option.some.inj ht36
     exact ⟨_, Gst.only [0, 2, 3, 4, 5, 6] rfl, rfl⟩
   rintro _ rfl
   show T X _ _ _
   refine T.seq ?_
   refine aS ?_
   iterate 2 refine aA rfl rfl ?_
   refine aN rfl ?_
   rcases ite_some q9 with ⟨c38, q9⟩ | ⟨c38, q9⟩
   · refine T.condT rfl (beq_iff_eq.2 c38) ?_
     refine aS ?_
     iterate 2 refine aA rfl rfl ?_
     refine aN rfl ?_
     refine T.ret ?_
     obtain rfl := Option.some.inj q9
     obtain rfl : _ = _ := i10
     obtain rfl := Option.some.inj h0
     exact PostG.retP (ks := []) (Gst.trans (Gst.only [2, 3] rfl) (Gst.trans (Gst.denil (ReS.cons Re.refl (ReS.cons (Re.base .nil) ReS.nil)) (ReO.same ReO.nil)) (Gst.pick [] rfl rfl))) undef (cT rfl (cT rfl ResL.nil)) rfl rfl rfl rfl
   refine T.condF rfl (beq_eq_false_iff_ne.2 c38) ?_
   refine aK rfl ?_
   refine aS ?_
   iterate 2 refine aA rfl rfl ?_
   refine TL.op1 (OpR.lit rfl rfl rfl rfl rfl rfl rfl) rfl ?_
   obtain ⟨x39, hx39, q9⟩ := bS q9
   refine TL.op (OpR.appendM (m := [t36]) (eI .i64) 0 hx39 rfl rfl rfl rfl rfl rfl rfl rfl rfl (fun _ => rfl)) rfl (fun v40 => ?_)
   refine aA rfl rfl ?_
   refine aN rfl ?_
   refine T.region ?_
   iterate 2 refine aA rfl rfl ?_
   obtain ⟨x41, hx41, q9⟩ := bS q9
   refine TL.op1 (OpR.call0 fn19 (ref22_Text_c hx41) rfl) rfl ?_
   refine TL.op1 (OpR.cast (OpR.pure rfl) (intE (lenS _))) rfl ?_
   iterate 2 refine aA rfl rfl ?_
   refine TL.nil ?_
   obtain rfl := Option.some.inj q9
   exact ⟨m7, Nat.lt_succ_self _, _, Gst.only [0, 2, 3, 4, 5] rfl, v40, (w64 (s5.1 + (x41.length : Int)), x39), rfl, i10⟩
 refine T.block ?_
 obtain ⟨n16, n21⟩ := loop_some ht14
 refine T.loop (fun n S' => ∃ S'', Gst S' S'' ∧ ∃ s15 : Int × Int, S'' = ⟨[(7, (dN s15.2)), (6, (dN s15.1)), (5, (dN s5.1)), (4, .val y4), (3, (dN 0)), (2, .val (.slice none 0 0)), (0, .val (.string (bs a0)))], [.row y4 (List.map (eI .i64) s5.2) 1 3], 73⟩ ∧ iter (ref22_Parse.l1 a0 s5) n s15 = some t14) n16 ?_ ?_
 · exact ⟨_, Gst.only [0, 2, 3, 4, 5, 6, 7] rfl, (0, (-6)), rfl, n21⟩
 rintro n16 _ ⟨_, g, s15, rfl, i20⟩
 refine T.ghost g ?_
 obtain ⟨m17, q18, rfl, q19, i20⟩ := iter_succ i20
 unfold ref22_Parse.l1 at q19
 refine T.seq ?_
 refine T.seq ?_
 obtain ⟨t23, ht23, q19⟩ := bS q19
 refine T.cutC (fun S' => S' = ⟨[(20, (dT t23)), (7, (dN s15.2)), (6, (dN s15.1)), (5, (dN s5.1)), (4, .val y4), (3, (dN 0)), (2, .val (.slice none 0 0)), (0, .val (.string (bs a0)))], [.row y4 (List.map (eI .i64) s5.2) 1 3], 73⟩) (fun _ h => h) ?_ ?_
 · refine T.region ?_
   iterate 3 refine aA rfl rfl ?_
   rcases ite_some ht23 with ⟨c24, ht23⟩ | ⟨c24, ht23⟩
   rotate_left
   · refine TL.off rfl rfl rfl rfl (decide_eq_false c24) rfl rfl ?_
     refine TL.off rfl rfl rfl rfl (decide_eq_false c24) rfl rfl ?_
     refine TL.op1 (OpR.pickF rfl (decide_eq_false c24) rfl) rfl ?_
     refine TL.nil ?_
     obtain rfl := Option.some.inj ht23
     exact ⟨_, Gst.only [0, 2, 3, 4, 5, 6, 7, 20] rfl, rfl⟩
   refine TL.on rfl rfl rfl rfl (decide_eq_true c24) ?_
   refine aA rfl rfl ?_
   refine TL.on rfl rfl rfl rfl (decide_eq_true c24) ?_
   refine aA rfl rfl ?_
   refine TL.op1 (OpR.pickT rfl (decide_eq_true c24) rfl) rfl ?_
   refine TL.nil ?_
   obtain rfl := Option.some.inj ht23
   exact ⟨_, Gst.only [0, 2, 3, 4, 5, 6, 7, 20] rfl, rfl⟩
 rintro _ rfl
 show T X _ _ _
 rcases ite_some q19 with ⟨c25, q19⟩ | ⟨c25, q19⟩
 rotate_left
 · refine T.condF rfl (eq_false_of_ne_true c25) ?_
   refine T.exit ?_
   obtain rfl := Option.some.inj q19
   obtain rfl : _ = _ := i20
   exact ⟨_, Gst.only [0, 2, 3, 4, 5, 6] rfl, rfl⟩
 refine T.condT rfl (c25) ?_
 refine aK rfl ?_
 refine T.seq ?_
 refine T.block ?_
 refine aS ?_
 refine aA rfl rfl ?_
 obtain ⟨x26, hx26, q19⟩ := bS q19
 refine TL.op1 (OpR.call0 fn19 (ref22_Text_c hx26) rfl) rfl ?_
 refine aA rfl rfl ?_
 refine aN rfl ?_
 refine T.seq ?_
 obtain ⟨t27, ht27, q19⟩ := bS q19
 refine T.cutC (fun S' => S' = ⟨[(46, (dT t27)), (7, (dN s15.2)), (6, (dN s15.1)), (5, (dN s5.1)), (4, .val y4), (3, (dN 0)), (2, .val (.slice none 0 0)), (0, .val (.string (bs a0)))], [.row y4 (List.map (eI .i64) s5.2) 1 3], 73⟩) (fun _ h => h) ?_ ?_
 rotate_left
 · rintro _ rfl
   show T X _ _ _
   obtain ⟨t31, ht31, q19⟩ := bS q19
   refine T.cutC (fun S' => S' = ⟨[(7, (dN s15.2)), (6, (dN t31)), (5, (dN s5.1)), (4, .val y4), (3, (dN 0)), (2, .val (.slice none 0 0)), (0, .val (.string (bs a0)))], [.row y4 (List.map (eI .i64) s5.2) 1 3], 73⟩) (fun _ h => h) ?_ ?_
   rotate_left
   · rintro _ rfl
     show T X _ _ _
     refine T.region ?_
     iterate 3 refine aA rfl rfl ?_
     refine TL.nil ?_
     obtain rfl := Option.some.inj q19
     exact ⟨m17, Nat.lt_succ_self _, _, Gst.only [0, 2, 3, 4, 5, 6, 7] rfl, (t31, w64 (s15.2 + 1)), rfl, i20⟩
   rcases ite_some ht31 with ⟨c32, ht31⟩ | ⟨c32, ht31⟩
   rotate_left
   · refine T.condF rfl (eq_false_of_ne_true c32) ?_
     refine T.skip ?_
     obtain rfl := Option.some.inj ht31
     exact ⟨_, Gst.only [0, 2, 3, 4, 5, 6, 7] rfl, rfl⟩
   refine T.condT rfl (c32) ?_
   refine T.region ?_
   iterate 2 refine aA rfl rfl ?_
   refine TL.nil ?_
   obtain rfl := Option.some.inj ht31
   exact ⟨_, Gst.only [0, 2, 3, 4, 5, 6, 7] rfl, rfl⟩
 refine T.region ?_
 refine aA rfl rfl ?_
 refine TL.op1 (OpR.cast (OpR.pure rfl) (boolE (strNe _ _))) rfl ?_
 refine aA rfl rfl ?_
 rcases ite_some ht27 with ⟨c28, ht27⟩ | ⟨c28, ht27⟩
 · refine TL.off rfl rfl rfl rfl (not_t (beq_iff_eq.2 c28)) rfl rfl ?_
   refine TL.off rfl rfl rfl rfl (not_t (beq_iff_eq.2 c28)) rfl rfl ?_
   refine TL.off rfl rfl rfl rfl (not_t (beq_iff_eq.2 c28)) rfl rfl ?_
   refine TL.off rfl rfl rfl rfl (not_t (beq_iff_eq.2 c28)) rfl rfl ?_
   refine TL.off rfl rfl rfl rfl (not_t (beq_iff_eq.2 c28)) rfl rfl ?_
   refine TL.off rfl rfl rfl rfl (not_t (beq_iff_eq.2 c28)) rfl rfl ?_
   refine TL.off rfl rfl rfl rfl (not_t (beq_iff_eq.2 c28)) rfl rfl ?_
   refine TL.op1 (OpR.pickF rfl (not_t (beq_iff_eq.2 c28)) rfl) rfl ?_
   refine aA rfl rfl ?_
   refine TL.off rfl rfl rfl rfl rfl rfl rfl ?_
   refine TL.off rfl rfl rfl rfl rfl rfl rfl ?_
   refine TL.off rfl rfl rfl rfl rfl rfl rfl ?_
   refine TL.off rfl rfl rfl rfl rfl rfl rfl ?_
   refine TL.off rfl rfl rfl rfl rfl rfl rfl ?_
   refine TL.off rfl rfl rfl rfl rfl rfl rfl ?_
   refine TL.off rfl rfl rfl rfl rfl rfl rfl ?_
   refine TL.off rfl rfl rfl rfl rfl rfl rfl ?_
   refine TL.off rfl rfl rfl rfl rfl rfl rfl ?_
   refine TL.op1 (OpR.pickF rfl rfl rfl) rfl ?_
   refine TL.nil ?_
   obtain rfl := Option.some.inj ht27
   exact ⟨_, Gst.only [0, 2, 3, 4, 5, 6, 7, 46] rfl, rfl⟩
 refine TL.on rfl rfl rfl rfl (not_f (beq_eq_false_iff_ne.2 c28)) ?_
 refine aA rfl rfl ?_
 refine TL.on rfl rfl rfl rfl (not_f (beq_eq_false_iff_ne.2 c28)) ?_
 refine aA rfl rfl ?_
 refine TL.on rfl rfl rfl rfl (not_f (beq_eq_false_iff_ne.2 c28)) ?_
 refine TL.op1 (OpR.cast (OpR.pure rfl) (intE (lenS _))) rfl ?_
 refine TL.on rfl rfl rfl rfl (not_f (beq_eq_false_iff_ne.2 c28)) ?_
 refine aA rfl rfl ?_
 refine TL.on rfl rfl rfl rfl (not_f (beq_eq_false_iff_ne.2 c28)) ?_
 refine aA rfl rfl ?_
 refine TL.on rfl rfl rfl rfl (not_f (beq_eq_false_iff_ne.2 c28)) ?_
 refine TL.op1 (OpR.cast (OpR.pure rfl) (intE (lenS _))) rfl ?_
 refine TL.on rfl rfl rfl rfl (not_f (beq_eq_false_iff_ne.2 c28)) ?_
 refine aA rfl rfl ?_
 refine TL.op1 (OpR.pickT rfl (not_f (beq_eq_false_iff_ne.2 c28)) rfl) rfl ?_
 refine aA rfl rfl ?_
 rcases ite_some ht27 with ⟨c29, ht27⟩ | ⟨c29, ht27⟩
 rotate_left
 · refine TL.off rfl rfl rfl rfl (decide_eq_false c29) rfl rfl ?_
   refine TL.off rfl rfl rfl rfl (decide_eq_false c29) rfl rfl ?_
   refine TL.off rfl rfl rfl rfl (decide_eq_false c29) rfl rfl ?_
   refine TL.off rfl rfl rfl rfl (decide_eq_false c29) rfl rfl ?_
   refine TL.off rfl rfl rfl rfl (decide_eq_false c29) rfl rfl ?_
   refine TL.off rfl rfl rfl rfl (decide_eq_false c29) rfl rfl ?_
   refine TL.off rfl rfl rfl rfl (decide_eq_false c29) rfl rfl ?_
   refine TL.off rfl rfl rfl rfl (decide_eq_false c29) rfl rfl ?_
   refine TL.off rfl rfl rfl rfl (decide_eq_false c29) rfl rfl ?_
   refine TL.op1 (OpR.pickF rfl (decide_eq_false c29) rfl) rfl ?_
   refine TL.nil ?_
   obtain rfl := Option.some.inj ht27
   exact ⟨_, Gst.only [0, 2, 3, 4, 5, 6, 7, 46] rfl, rfl⟩
 refine TL.on rfl rfl rfl rfl (decide_eq_true c29) ?_
 refine aA rfl rfl ?_
 refine TL.on rfl rfl rfl rfl (decide_eq_true c29) ?_
 refine aA rfl rfl ?_
 refine TL.on rfl rfl rfl rfl (decide_eq_true c29) ?_
 refine aA rfl rfl ?_
 refine TL.on rfl rfl rfl rfl (decide_eq_true c29) ?_
 refine aA rfl rfl ?_
 refine TL.on rfl rfl rfl rfl (decide_eq_true c29) ?_
 refine TL.op1 (OpR.cast (OpR.pure rfl) (intE (lenS _))) rfl ?_
 refine TL.on rfl rfl rfl rfl (decide_eq_true c29) ?_
 refine aA rfl rfl ?_
 refine TL.on rfl rfl rfl rfl (decide_eq_true c29) ?_
 obtain ⟨x30, hx30, ht27⟩ := bS ht27
 refine TL.op1 (OpR.sliceS hx30 rfl rfl rfl (BdM.some rfl) (BdM.some rfl)) rfl ?_
 refine TL.on rfl rfl rfl rfl (decide_eq_true c29) ?_
 refine aA rfl rfl ?_
 refine TL.on rfl rfl rfl rfl (decide_eq_true c29) ?_
 refine TL.op1 (OpR.cast (OpR.pure rfl) (boolE (strEq _ _))) rfl ?_
 refine TL.op1 (OpR.pickT rfl (decide_eq_true c29) rfl) rfl ?_
 refine TL.nil ?_
 obtain rfl := Option.some.inj ht27
 exact ⟨_, Gst.only [0, 2, 3, 4, 5, 6, 7, 46] rfl, rfl⟩
noncomputable def law22_KeysParse (a0 : List UInt8) : Option Bool :=
  bnd (law22_cut a0 300) fun x1 =>
  bnd (keys_Parse x1) fun x2 =>
  bnd (ref22_Parse x1) fun x3 =>
  bnd (bnd (ref09_Same x2.1 x3.1) fun x5 =>
  if x5 = true then
    if x2.2 = x3.2 then
      if x2.2 = 0 then
        bnd (keys_Print x2.1) fun x9 =>
        if x9 = x1 then
          bnd (law22_awake) fun x11 =>
          some x11
        else
          some false
      else
        bnd (law22_awake) fun x12 =>
        some x12
    else
      some false
  else
    some false : Option Bool) fun t4 =>
  some t4
theorem law22_KeysParse_c {a0 : List UInt8} {res : Bool} (h0 : law22_KeysParse a0 = some res) : CallF X 3 [.val (.string (bs a0))] [] (fun x => (dT res)) (fun x => []) := by
 unfold law22_KeysParse at h0
 refine CallF.mkG (X := X) rfl Tryd.func3 rfl rfl Tryd.ntmps3 rfl rfl ?_
 refine aS ?_
 refine aA rfl rfl ?_
 refine aN rfl ?_
 refine aS ?_
 refine aA rfl rfl ?_
 obtain ⟨x1, hx1, h0⟩ := bS h0
 refine TL.op1 (OpR.call0 fn7 (law22_cut_c hx1) rfl) rfl ?_
 refine aA rfl rfl ?_
 refine aN rfl ?_
 refine aS ?_
 refine aA rfl rfl ?_
 obtain ⟨x2, hx2, h0⟩ := bS h0
 refine TL.op1 (OpR.call0 fn8 (keys_Parse_c hx2) rfl) rfl ?_
 iterate 5 refine aA rfl rfl ?_
 refine aN rfl ?_
 refine aS ?_
 refine aA rfl rfl ?_
 obtain ⟨x3, hx3, h0⟩ := bS h0
 refine TL.op1 (OpR.call0 fn9 (ref22_Parse_c hx3) rfl) rfl ?_
 iterate 5 refine aA rfl rfl ?_
 refine aN rfl ?_
 refine T.seq ?_
 obtain ⟨t4, ht4, h0⟩ := bS h0
 refine T.cutC (fun S' => S' = ⟨[(2, (dT t4))], [], 40⟩) (fun _ h => h) ?_ ?_
 rotate_left
 · rintro _ rfl
   show T X _ _ _
   refine T.ret ?_
   obtain rfl := Option.some.inj h0
   exact rO [] [2] rfl undef (cT rfl ResL.nil) rfl rfl rfl rfl
 refine T.region ?_
 iterate 2 refine aA rfl rfl ?_
 obtain ⟨x5, hx5, ht4⟩ := bS ht4
 refine TL.op1 (OpR.call0 fn10 (ref09_Same_c hx5) rfl) rfl ?_
 refine aA rfl rfl ?_
 rcases ite_some ht4 with ⟨c6, ht4⟩ | ⟨c6, ht4⟩
 rotate_left
 · refine TL.off rfl rfl rfl rfl (eq_false_of_ne_true c6) rfl rfl ?_
   refine TL.off rfl rfl rfl rfl (eq_false_of_ne_true c6) rfl rfl ?_
   refine TL.off rfl rfl rfl rfl (eq_false_of_ne_true c6) rfl rfl ?_
   refine TL.op1 (OpR.pickF rfl (eq_false_of_ne_true c6) rfl) rfl ?_
   refine aA rfl rfl ?_
   refine TL.off rfl rfl rfl rfl rfl rfl rfl ?_
   refine TL.off rfl rfl rfl rfl rfl rfl rfl ?_
   refine TL.off rfl rfl rfl rfl rfl rfl rfl ?_
   refine TL.offU rfl rfl rfl rfl rfl rfl ?_
   refine TL.offU rfl rfl rfl rfl rfl rfl ?_
   refine TL.offU rfl rfl rfl rfl rfl rfl ?_
   refine TL.offU rfl rfl rfl rfl rfl rfl ?_
   refine TL.off rfl rfl rfl rfl rfl rfl rfl ?_
   refine TL.op1 (OpR.pickF rfl rfl rfl) rfl ?_
   refine aA rfl rfl ?_
   refine TL.off rfl rfl rfl rfl rfl rfl rfl ?_
   refine TL.op1 (OpR.pickF rfl rfl rfl) rfl ?_
   refine aA rfl rfl ?_
   refine TL.nil ?_
   obtain rfl := Option.some.inj ht4
   exact ⟨_, Gst.only [2] rfl, rfl⟩
 refine TL.on rfl rfl rfl rfl (c6) ?_
 refine aA rfl rfl ?_
 refine TL.on rfl rfl rfl rfl (c6) ?_
 refine aA rfl rfl ?_
 refine TL.on rfl rfl rfl rfl (c6) ?_
 refine aA rfl rfl ?_
 refine TL.op1 (OpR.pickT rfl (c6) rfl) rfl ?_
 refine aA rfl rfl ?_
 rcases ite_some ht4 with ⟨c7, ht4⟩ | ⟨c7, ht4⟩
 rotate_left
 · refine TL.off rfl rfl rfl rfl (beq_eq_false_iff_ne.2 c7) rfl rfl ?_
   refine TL.off rfl rfl rfl rfl (beq_eq_false_iff_ne.2 c7) rfl rfl ?_
   refine TL.off rfl rfl rfl rfl (beq_eq_false_iff_ne.2 c7) rfl rfl ?_
   refine TL.offU rfl rfl rfl rfl rfl rfl ?_
   refine TL.offU rfl rfl rfl rfl rfl rfl ?_
   refine TL.offU rfl rfl rfl rfl rfl rfl ?_
   refine TL.offU rfl rfl rfl rfl rfl rfl ?_
   refine TL.off rfl rfl rfl rfl (beq_eq_false_iff_ne.2 c7) rfl rfl ?_
   refine TL.op1 (OpR.pickF rfl (beq_eq_false_iff_ne.2 c7) rfl) rfl ?_
   refine aA rfl rfl ?_
   refine TL.off rfl rfl rfl rfl rfl rfl rfl ?_
   refine TL.op1 (OpR.pickF rfl rfl rfl) rfl ?_
   refine aA rfl rfl ?_
   refine TL.nil ?_
   obtain rfl := Option.some.inj ht4
   exact ⟨_, Gst.only [2] rfl, rfl⟩
 refine TL.on rfl rfl rfl rfl (beq_iff_eq.2 c7) ?_
 refine aA rfl rfl ?_
 refine TL.on rfl rfl rfl rfl (beq_iff_eq.2 c7) ?_
 refine aA rfl rfl ?_
 refine TL.on rfl rfl rfl rfl (beq_iff_eq.2 c7) ?_
 refine aA rfl rfl ?_
 rcases ite_some ht4 with ⟨c8, ht4⟩ | ⟨c8, ht4⟩
 rotate_left
 · refine TL.off rfl rfl rfl rfl (not_f (beq_eq_false_iff_ne.2 c8)) rfl rfl ?_
   refine TL.off rfl rfl rfl rfl (not_f (beq_eq_false_iff_ne.2 c8)) rfl rfl ?_
   refine TL.off rfl rfl rfl rfl (not_f (beq_eq_false_iff_ne.2 c8)) rfl rfl ?_
   refine TL.off rfl rfl rfl rfl (not_f (beq_eq_false_iff_ne.2 c8)) rfl rfl ?_
   refine TL.on rfl rfl rfl rfl (beq_iff_eq.2 c7) ?_
   refine TL.op1 (OpR.pickT rfl (not_f (beq_eq_false_iff_ne.2 c8)) rfl) rfl ?_
   refine TL.op1 (OpR.pickT rfl (beq_iff_eq.2 c7) rfl) rfl ?_
   refine aA rfl rfl ?_
   refine TL.on rfl rfl rfl rfl rfl ?_
   obtain ⟨x12, hx12, ht4⟩ := bS ht4
   refine TL.op1 (OpR.call0 fn12 (law22_awake_c hx12) rfl) rfl ?_
   refine TL.op1 (OpR.pickT rfl rfl rfl) rfl ?_
   refine aA rfl rfl ?_
   refine TL.nil ?_
   obtain rfl := Option.some.inj ht4
   exact ⟨_, Gst.only [2] rfl, rfl⟩
 refine TL.on rfl rfl rfl rfl (not_t (beq_iff_eq.2 c8)) ?_
 refine aA rfl rfl ?_
 refine TL.on rfl rfl rfl rfl (not_t (beq_iff_eq.2 c8)) ?_
 obtain ⟨x9, hx9, ht4⟩ := bS ht4
 refine TL.op1 (OpR.call0 fn11 (keys_Print_c hx9) rfl) rfl ?_
 refine TL.on rfl rfl rfl rfl (not_t (beq_iff_eq.2 c8)) ?_
 refine aA rfl rfl ?_
 refine TL.on rfl rfl rfl rfl (not_t (beq_iff_eq.2 c8)) ?_
 refine TL.op1 (OpR.cast (OpR.pure rfl) (boolE (strEq _ _))) rfl ?_
 refine TL.on rfl rfl rfl rfl (beq_iff_eq.2 c7) ?_
 refine TL.op1 (OpR.pickF rfl (not_t (beq_iff_eq.2 c8)) rfl) rfl ?_
 refine TL.op1 (OpR.pickT rfl (beq_iff_eq.2 c7) rfl) rfl ?_
 refine aA rfl rfl ?_
 rcases ite_some ht4 with ⟨c10, ht4⟩ | ⟨c10, ht4⟩
 rotate_left
 · refine TL.off rfl rfl rfl rfl (beq_eq_false_iff_ne.2 c10) rfl rfl ?_
   refine TL.op1 (OpR.pickF rfl (beq_eq_false_iff_ne.2 c10) rfl) rfl ?_
   refine aA rfl rfl ?_
   refine TL.nil ?_
   obtain rfl := Option.some.inj ht4
   exact ⟨_, Gst.only [2] rfl, rfl⟩
 refine TL.on rfl rfl rfl rfl (beq_iff_eq.2 c10) ?_
 obtain ⟨x11, hx11, ht4⟩ := bS ht4
 refine TL.op1 (OpR.call0 fn12 (law22_awake_c hx11) rfl) rfl ?_
 refine TL.op1 (OpR.pickT rfl (beq_iff_eq.2 c10) rfl) rfl ?_
 refine aA rfl rfl ?_
 refine TL.nil ?_
 obtain rfl := Option.some.inj ht4
 exact ⟨_, Gst.only [2] rfl, rfl⟩
end Go.Proofs.YtlginjmkmfodmaaDoor.S
