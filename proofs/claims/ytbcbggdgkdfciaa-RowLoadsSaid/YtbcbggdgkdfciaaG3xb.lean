/- Printed by a program of this session's own (gen.py): Lean functions for Go functions, and the proofs that the Go code comes to their answers. -/
import Derived.Test.YtbcbggdgkdfciaaG3xa
set_option linter.unusedVariables false
set_option linter.unusedSimpArgs false
set_option maxRecDepth 20000
namespace Go.Proofs.Ytbcbggdgkdfciaa.S
open Go Go.Sm
attribute [local irreducible] T TL OpR CallT iter loop
noncomputable def ref01_more (a0 : List UInt8) (a1 : Int) : Option Bool :=
  bnd (if a1 < (a0.length : Int) then
    bnd (idx a0 a1) fun x3 =>
    if (x3.toNat : Int) ≥ 128 then
      some (decide ((x3.toNat : Int) ≤ 191))
    else
      some false
  else
    some false : Option Bool) fun t1 =>
  some t1
set_option maxHeartbeats 4000000 in
theorem ref01_more_c {a0 : List UInt8} {a1 : Int} {res : Bool} (h0 : ref01_more a0 a1 = some res) : CallF X 210 [.val (.string (bs a0)), .val (.int .i64 a1)] [] (fun x => .val (.bool res)) (fun x => []) := by
 unfold ref01_more at h0
 refine CallF.mkG (X := X) Try.func210 rfl rfl Try.ntmps210 rfl rfl ?_
 refine T.seq ?_
 refine T.region ?_
 refine TL.op1 (OpR.pure rfl) rfl ?_
 refine TL.nil ?_
 show T X _ _ _
 refine T.seq ?_
 obtain ⟨t1, ht1, h0⟩ := bnd_some h0
 refine T.cutC (fun S' => S' = ⟨[(4, .val (.bool t1))], [], 21⟩) (fun _ h => h) ?_ ?_
 rotate_left
 · rintro _ rfl
   show T X _ _ _
   refine T.ret ?_
   obtain rfl := Option.some.inj h0
   exact PostG.retP (ks := []) (Gst.only [4] rfl) undef (ResL.cons (ResV.tmp rfl) ResL.nil) rfl rfl rfl rfl
 refine T.region ?_
 refine TL.op1 (OpR.pure rfl) rfl ?_
 refine TL.op1 (OpR.pure rfl) rfl ?_
 refine TL.op1 (OpR.cast (OpR.pure rfl) (intE (lenS _))) rfl ?_
 refine TL.op1 (OpR.pure rfl) rfl ?_
 refine TL.op1 (OpR.pure rfl) rfl ?_
 rcases ite_some ht1 with ⟨c2, ht1⟩ | ⟨c2, ht1⟩
 rotate_left
 · refine TL.off rfl rfl rfl rfl (decide_eq_false c2) rfl rfl ?_
   refine TL.off rfl rfl rfl rfl (decide_eq_false c2) rfl rfl ?_
   refine TL.off rfl rfl rfl rfl (decide_eq_false c2) rfl rfl ?_
   refine TL.off rfl rfl rfl rfl (decide_eq_false c2) rfl rfl ?_
   refine TL.op1 (OpR.pickF rfl (decide_eq_false c2) rfl) rfl ?_
   refine TL.op1 (OpR.pure rfl) rfl ?_
   refine TL.off rfl rfl rfl rfl rfl rfl rfl ?_
   refine TL.off rfl rfl rfl rfl rfl rfl rfl ?_
   refine TL.off rfl rfl rfl rfl rfl rfl rfl ?_
   refine TL.off rfl rfl rfl rfl rfl rfl rfl ?_
   refine TL.op1 (OpR.pickF rfl rfl rfl) rfl ?_
   refine TL.op1 (OpR.pure rfl) rfl ?_
   refine TL.nil ?_
   obtain rfl := Option.some.inj ht1
   exact ⟨_, Gst.only [4] rfl, rfl⟩
 refine TL.on rfl rfl rfl rfl (decide_eq_true c2) ?_
 refine TL.op1 (OpR.pure rfl) rfl ?_
 refine TL.on rfl rfl rfl rfl (decide_eq_true c2) ?_
 refine TL.op1 (OpR.pure rfl) rfl ?_
 refine TL.on rfl rfl rfl rfl (decide_eq_true c2) ?_
 obtain ⟨x3, hx3, ht1⟩ := bnd_some ht1
 refine TL.op1 (OpR.indexS hx3 rfl rfl rfl rfl) rfl ?_
 refine TL.on rfl rfl rfl rfl (decide_eq_true c2) ?_
 refine TL.op1 (OpR.pure rfl) rfl ?_
 refine TL.op1 (OpR.pickT rfl (decide_eq_true c2) rfl) rfl ?_
 refine TL.op1 (OpR.pure rfl) rfl ?_
 rcases ite_some ht1 with ⟨c4, ht1⟩ | ⟨c4, ht1⟩
 rotate_left
 · refine TL.off rfl rfl rfl rfl (decide_eq_false c4) rfl rfl ?_
   refine TL.off rfl rfl rfl rfl (decide_eq_false c4) rfl rfl ?_
   refine TL.off rfl rfl rfl rfl (decide_eq_false c4) rfl rfl ?_
   refine TL.off rfl rfl rfl rfl (decide_eq_false c4) rfl rfl ?_
   refine TL.op1 (OpR.pickF rfl (decide_eq_false c4) rfl) rfl ?_
   refine TL.op1 (OpR.pure rfl) rfl ?_
   refine TL.nil ?_
   obtain rfl := Option.some.inj ht1
   exact ⟨_, Gst.only [4] rfl, rfl⟩
 refine TL.on rfl rfl rfl rfl (decide_eq_true c4) ?_
 refine TL.op1 (OpR.pure rfl) rfl ?_
 refine TL.on rfl rfl rfl rfl (decide_eq_true c4) ?_
 refine TL.op1 (OpR.pure rfl) rfl ?_
 refine TL.on rfl rfl rfl rfl (decide_eq_true c4) ?_
 refine TL.op1 (OpR.indexS hx3 rfl rfl rfl rfl) rfl ?_
 refine TL.on rfl rfl rfl rfl (decide_eq_true c4) ?_
 refine TL.op1 (OpR.pure rfl) rfl ?_
 refine TL.op1 (OpR.pickT rfl (decide_eq_true c4) rfl) rfl ?_
 refine TL.op1 (OpR.pure rfl) rfl ?_
 refine TL.nil ?_
 obtain rfl := Option.some.inj ht1
 exact ⟨_, Gst.only [4] rfl, rfl⟩
noncomputable def ref01_At (a0 : List UInt8) (a1 : Int) : Option (Int × Int) :=
  bnd (if a1 < 0 then
    some true
  else
    some (decide (a1 ≥ (a0.length : Int))) : Option Bool) fun t1 =>
  if t1 = true then
    some ((-1), 0)
  else
    bnd (idx a0 a1) fun x4 =>
    if (x4.toNat : Int) < 128 then
      some ((x4.toNat : Int), 1)
    else
      bnd (if (x4.toNat : Int) ≥ 192 then
        if (x4.toNat : Int) < 224 then
          bnd (ref01_more a0 (w64 (a1 + 1))) fun x9 =>
          some x9
        else
          some false
      else
        some false : Option Bool) fun t6 =>
      bnd (if t6 = true then
        bnd (idx a0 (w64 (a1 + 1))) fun x13 =>
        bnd (some (w64 ((w64 ((w64 ((w64 ((x4.toNat : Int) - 192)) * 64)) + (x13.toNat : Int))) - 128))) fun x14 =>
        if x14 ≥ 128 then
          some (Ex.ret (x14, 2))
        else
          some (Ex.brk ())
      else
        some (Ex.brk ()) : Option (Ex Unit (Int × Int))) fun t10 => match t10 with
        | .brk u11 =>
          bnd (if (x4.toNat : Int) ≥ 224 then
            if (x4.toNat : Int) < 240 then
              bnd (ref01_more a0 (w64 (a1 + 1))) fun x19 =>
              if x19 = true then
                bnd (ref01_more a0 (w64 (a1 + 2))) fun x21 =>
                some x21
              else
                some false
            else
              some false
          else
            some false : Option Bool) fun t16 =>
          bnd (if t16 = true then
            bnd (idx a0 (w64 (a1 + 1))) fun x26 =>
            bnd (some (w64 ((w64 ((w64 ((x4.toNat : Int) - 224)) * 4096)) + (w64 ((w64 ((x26.toNat : Int) - 128)) * 64))))) fun x27 =>
            bnd (idx a0 (w64 (a1 + 2))) fun x28 =>
            bnd (if (w64 ((w64 (x27 + (x28.toNat : Int))) - 128)) ≥ 2048 then
              if (w64 ((w64 (x27 + (x28.toNat : Int))) - 128)) < 55296 then
                some true
              else
                some (decide ((w64 ((w64 (x27 + (x28.toNat : Int))) - 128)) > 57343))
            else
              some false : Option Bool) fun t29 =>
            if t29 = true then
              some (Ex.ret (w64 ((w64 (x27 + (x28.toNat : Int))) - 128), 3))
            else
              some (Ex.brk ())
          else
            some (Ex.brk ()) : Option (Ex Unit (Int × Int))) fun t22 => match t22 with
            | .brk u23 =>
              bnd (if (x4.toNat : Int) ≥ 240 then
                if (x4.toNat : Int) < 248 then
                  bnd (ref01_more a0 (w64 (a1 + 1))) fun x36 =>
                  if x36 = true then
                    bnd (ref01_more a0 (w64 (a1 + 2))) fun x38 =>
                    if x38 = true then
                      bnd (ref01_more a0 (w64 (a1 + 3))) fun x40 =>
                      some x40
                    else
                      some false
                  else
                    some false
                else
                  some false
              else
                some false : Option Bool) fun t33 =>
              bnd (if t33 = true then
                bnd (idx a0 (w64 (a1 + 1))) fun x45 =>
                bnd (some (w64 ((w64 ((w64 ((x4.toNat : Int) - 240)) * 262144)) + (w64 ((w64 ((x45.toNat : Int) - 128)) * 4096))))) fun x46 =>
                bnd (idx a0 (w64 (a1 + 2))) fun x47 =>
                bnd (idx a0 (w64 (a1 + 3))) fun x48 =>
                bnd (some (w64 ((w64 (x46 + (w64 ((w64 ((x47.toNat : Int) - 128)) * 64)))) + (x48.toNat : Int)))) fun x49 =>
                bnd (if (w64 (x49 - 128)) ≥ 65536 then
                  some (decide ((w64 (x49 - 128)) ≤ 1114111))
                else
                  some false : Option Bool) fun t50 =>
                if t50 = true then
                  some (Ex.ret (w64 (x49 - 128), 4))
                else
                  some (Ex.brk ())
              else
                some (Ex.brk ()) : Option (Ex Unit (Int × Int))) fun t41 => match t41 with
                | .brk u42 =>
                  some ((-1), 1)
                | .ret u42 => some u42
            | .ret u23 => some u23
        | .ret u11 => some u11
set_option maxHeartbeats 4000000 in
theorem ref01_At_c {a0 : List UInt8} {a1 : Int} {res : Int × Int} (h0 : ref01_At a0 a1 = some res) : CallF X 186 [.val (.string (bs a0)), .val (.int .i64 a1)] [] (fun x => .tup [.val (.int .i64 res.1), .val (.int .i64 res.2)]) (fun x => []) := by
 unfold ref01_At at h0
 refine CallF.mkG (X := X) Try.func186 rfl rfl Try.ntmps186 rfl rfl ?_
 refine T.seq ?_
 refine T.region ?_
 refine TL.op1 (OpR.pure rfl) rfl ?_
 refine TL.op1 (OpR.pure rfl) rfl ?_
 refine TL.nil ?_
 show T X _ _ _
 refine T.seq ?_
 refine T.seq ?_
 obtain ⟨t1, ht1, h0⟩ := bnd_some h0
 refine T.cutC (fun S' => S' = ⟨[(17, .val (.bool t1)), (5, .val (.int .i64 0)), (4, .val (.int .i64 0)), (1, .val (.int .i64 a1)), (0, .val (.string (bs a0)))], [], 154⟩) (fun _ h => h) ?_ ?_
 · refine T.region ?_
   refine TL.op1 (OpR.pure rfl) rfl ?_
   refine TL.op1 (OpR.pure rfl) rfl ?_
   refine TL.op1 (OpR.pure rfl) rfl ?_
   rcases ite_some ht1 with ⟨c2, ht1⟩ | ⟨c2, ht1⟩
   · refine TL.off rfl rfl rfl rfl (decide_eq_true c2) rfl rfl ?_
     refine TL.off rfl rfl rfl rfl (decide_eq_true c2) rfl rfl ?_
     refine TL.off rfl rfl rfl rfl (decide_eq_true c2) rfl rfl ?_
     refine TL.off rfl rfl rfl rfl (decide_eq_true c2) rfl rfl ?_
     refine TL.op1 (OpR.pickT rfl (decide_eq_true c2) rfl) rfl ?_
     refine TL.nil ?_
     obtain rfl := Option.some.inj ht1
     exact ⟨_, Gst.only [0, 1, 4, 5, 17] rfl, rfl⟩
   refine TL.on rfl rfl rfl rfl (decide_eq_false c2) ?_
   refine TL.op1 (OpR.pure rfl) rfl ?_
   refine TL.on rfl rfl rfl rfl (decide_eq_false c2) ?_
   refine TL.op1 (OpR.pure rfl) rfl ?_
   refine TL.on rfl rfl rfl rfl (decide_eq_false c2) ?_
   refine TL.op1 (OpR.cast (OpR.pure rfl) (intE (lenS _))) rfl ?_
   refine TL.on rfl rfl rfl rfl (decide_eq_false c2) ?_
   refine TL.op1 (OpR.pure rfl) rfl ?_
   refine TL.op1 (OpR.pickF rfl (decide_eq_false c2) rfl) rfl ?_
   refine TL.nil ?_
   obtain rfl := Option.some.inj ht1
   exact ⟨_, Gst.only [0, 1, 4, 5, 17] rfl, rfl⟩
 rintro _ rfl
 show T X _ _ _
 rcases ite_some h0 with ⟨c3, h0⟩ | ⟨c3, h0⟩
 · refine T.condT rfl (c3) ?_
   refine T.seq ?_
   refine T.region ?_
   refine TL.op1 (OpR.pure rfl) rfl ?_
   refine TL.op1 (OpR.pure rfl) rfl ?_
   refine TL.nil ?_
   show T X _ _ _
   refine T.ret ?_
   obtain rfl := Option.some.inj h0
   exact PostG.retP (ks := []) (Gst.only [4, 5] rfl) undef (ResL.cons (ResV.tmp rfl) (ResL.cons (ResV.tmp rfl) ResL.nil)) rfl rfl rfl rfl
 refine T.condF rfl (eq_false_of_ne_true c3) ?_
 refine T.skip ?_
 show T X _ _ _
 refine T.seq ?_
 refine T.region ?_
 refine TL.op1 (OpR.pure rfl) rfl ?_
 refine TL.op1 (OpR.pure rfl) rfl ?_
 obtain ⟨x4, hx4, h0⟩ := bnd_some h0
 refine TL.op1 (OpR.indexS hx4 rfl rfl rfl rfl) rfl ?_
 refine TL.op1 (OpR.cast (OpR.pure rfl) (intE (w64_u8 _))) rfl ?_
 refine TL.op1 (OpR.pure rfl) rfl ?_
 refine TL.nil ?_
 show T X _ _ _
 refine T.seq ?_
 refine T.seq ?_
 refine T.region ?_
 refine TL.op1 (OpR.pure rfl) rfl ?_
 refine TL.op1 (OpR.pure rfl) rfl ?_
 refine TL.nil ?_
 show T X _ _ _
 rcases ite_some h0 with ⟨c5, h0⟩ | ⟨c5, h0⟩
 · refine T.condT rfl (decide_eq_true c5) ?_
   refine T.seq ?_
   refine T.region ?_
   refine TL.op1 (OpR.pure rfl) rfl ?_
   refine TL.op1 (OpR.pure rfl) rfl ?_
   refine TL.op1 (OpR.pure rfl) rfl ?_
   refine TL.nil ?_
   show T X _ _ _
   refine T.ret ?_
   obtain rfl := Option.some.inj h0
   exact PostG.retP (ks := []) (Gst.only [4, 5] rfl) undef (ResL.cons (ResV.tmp rfl) (ResL.cons (ResV.tmp rfl) ResL.nil)) rfl rfl rfl rfl
 refine T.condF rfl (decide_eq_false c5) ?_
 refine T.skip ?_
 show T X _ _ _
 refine T.seq ?_
 refine T.seq ?_
 obtain ⟨t6, ht6, h0⟩ := bnd_some h0
 refine T.cutC (fun S' => S' = ⟨[(36, .val (.bool t6)), (6, .val (.int .i64 (x4.toNat : Int))), (5, .val (.int .i64 0)), (4, .val (.int .i64 0)), (1, .val (.int .i64 a1)), (0, .val (.string (bs a0)))], [], 154⟩) (fun _ h => h) ?_ ?_
 · refine T.region ?_
   refine TL.op1 (OpR.pure rfl) rfl ?_
   refine TL.op1 (OpR.pure rfl) rfl ?_
   refine TL.op1 (OpR.pure rfl) rfl ?_
   rcases ite_some ht6 with ⟨c7, ht6⟩ | ⟨c7, ht6⟩
   rotate_left
   · refine TL.off rfl rfl rfl rfl (decide_eq_false c7) rfl rfl ?_
     refine TL.off rfl rfl rfl rfl (decide_eq_false c7) rfl rfl ?_
     refine TL.op1 (OpR.pickF rfl (decide_eq_false c7) rfl) rfl ?_
     refine TL.op1 (OpR.pure rfl) rfl ?_
     refine TL.off rfl rfl rfl rfl rfl rfl rfl ?_
     refine TL.off rfl rfl rfl rfl rfl rfl rfl ?_
     refine TL.off rfl rfl rfl rfl rfl rfl rfl ?_
     refine TL.off rfl rfl rfl rfl rfl rfl rfl ?_
     refine TL.op1 (OpR.pickF rfl rfl rfl) rfl ?_
     refine TL.nil ?_
     obtain rfl := Option.some.inj ht6
     exact ⟨_, Gst.only [0, 1, 4, 5, 6, 36] rfl, rfl⟩
   refine TL.on rfl rfl rfl rfl (decide_eq_true c7) ?_
   refine TL.op1 (OpR.pure rfl) rfl ?_
   refine TL.on rfl rfl rfl rfl (decide_eq_true c7) ?_
   refine TL.op1 (OpR.pure rfl) rfl ?_
   refine TL.op1 (OpR.pickT rfl (decide_eq_true c7) rfl) rfl ?_
   refine TL.op1 (OpR.pure rfl) rfl ?_
   rcases ite_some ht6 with ⟨c8, ht6⟩ | ⟨c8, ht6⟩
   rotate_left
   · refine TL.off rfl rfl rfl rfl (decide_eq_false c8) rfl rfl ?_
     refine TL.off rfl rfl rfl rfl (decide_eq_false c8) rfl rfl ?_
     refine TL.off rfl rfl rfl rfl (decide_eq_false c8) rfl rfl ?_
     refine TL.off rfl rfl rfl rfl (decide_eq_false c8) rfl rfl ?_
     refine TL.op1 (OpR.pickF rfl (decide_eq_false c8) rfl) rfl ?_
     refine TL.nil ?_
     obtain rfl := Option.some.inj ht6
     exact ⟨_, Gst.only [0, 1, 4, 5, 6, 36] rfl, rfl⟩
   refine TL.on rfl rfl rfl rfl (decide_eq_true c8) ?_
   refine TL.op1 (OpR.pure rfl) rfl ?_
   refine TL.on rfl rfl rfl rfl (decide_eq_true c8) ?_
   refine TL.op1 (OpR.pure rfl) rfl ?_
   refine TL.on rfl rfl rfl rfl (decide_eq_true c8) ?_
   refine TL.op1 (OpR.pure rfl) rfl ?_
   refine TL.on rfl rfl rfl rfl (decide_eq_true c8) ?_
   obtain ⟨x9, hx9, ht6⟩ := bnd_some ht6
   refine TL.op1 (OpR.call0 fn210 (ref01_more_c hx9) rfl) rfl ?_
   refine TL.op1 (OpR.pickT rfl (decide_eq_true c8) rfl) rfl ?_
   refine TL.nil ?_
   obtain rfl := Option.some.inj ht6
   exact ⟨_, Gst.only [0, 1, 4, 5, 6, 36] rfl, rfl⟩
 rintro _ rfl
 show T X _ _ _
 obtain ⟨t10, ht10, h0⟩ := bnd_some h0
 refine T.cutC (fun S' => ∃ u11, t10 = Ex.brk u11 ∧ S' = ⟨[(6, .val (.int .i64 (x4.toNat : Int))), (5, .val (.int .i64 0)), (4, .val (.int .i64 0)), (1, .val (.int .i64 a1)), (0, .val (.string (bs a0)))], [], 154⟩) (fun _ h => h) ?_ ?_
 · rcases ite_some ht10 with ⟨c12, ht10⟩ | ⟨c12, ht10⟩
   rotate_left
   · refine T.condF rfl (eq_false_of_ne_true c12) ?_
     refine T.skip ?_
     obtain rfl := Option.some.inj ht10
     exact ⟨_, Gst.only [0, 1, 4, 5, 6] rfl, _, rfl, rfl⟩
   refine T.condT rfl (c12) ?_
   refine T.seq ?_
   refine T.region ?_
   refine TL.op1 (OpR.pure rfl) rfl ?_
   refine TL.op1 (OpR.pure rfl) rfl ?_
   refine TL.op1 (OpR.pure rfl) rfl ?_
   refine TL.op1 (OpR.pure rfl) rfl ?_
   refine TL.op1 (OpR.pure rfl) rfl ?_
   refine TL.op1 (OpR.pure rfl) rfl ?_
   obtain ⟨x13, hx13, ht10⟩ := bnd_some ht10
   refine TL.op1 (OpR.indexS hx13 rfl rfl rfl rfl) rfl ?_
   refine TL.op1 (OpR.cast (OpR.pure rfl) (intE (w64_u8 _))) rfl ?_
   refine TL.op1 (OpR.pure rfl) rfl ?_
   obtain ⟨x14, hx14, ht10⟩ := bnd_some ht10
   refine TL.op1 (OpR.cast (OpR.pure rfl) (intE (Option.some.inj hx14))) rfl ?_
   refine TL.op1 (OpR.pure rfl) rfl ?_
   refine TL.nil ?_
   show T X _ _ _
   refine T.seq ?_
   refine T.region ?_
   refine TL.op1 (OpR.pure rfl) rfl ?_
   refine TL.op1 (OpR.pure rfl) rfl ?_
   refine TL.nil ?_
   show T X _ _ _
   rcases ite_some ht10 with ⟨c15, ht10⟩ | ⟨c15, ht10⟩
   rotate_left
   · refine T.condF rfl (decide_eq_false c15) ?_
     refine T.skip ?_
     obtain rfl := Option.some.inj ht10
     exact ⟨_, Gst.only [0, 1, 4, 5, 6] rfl, _, rfl, rfl⟩
   refine T.condT rfl (decide_eq_true c15) ?_
   refine T.seq ?_
   refine T.region ?_
   refine TL.op1 (OpR.pure rfl) rfl ?_
   refine TL.op1 (OpR.pure rfl) rfl ?_
   refine TL.op1 (OpR.pure rfl) rfl ?_
   refine TL.nil ?_
   show T X _ _ _
   refine T.ret ?_
   obtain rfl := Option.some.inj ht10
   obtain rfl := Option.some.inj h0
   exact PostG.retP (ks := []) (Gst.only [4, 5] rfl) undef (ResL.cons (ResV.tmp rfl) (ResL.cons (ResV.tmp rfl) ResL.nil)) rfl rfl rfl rfl
 rintro _ ⟨u11, rfl, rfl⟩
 show T X _ _ _
 refine T.seq ?_
 refine T.seq ?_
 obtain ⟨t16, ht16, h0⟩ := bnd_some h0
 refine T.cutC (fun S' => S' = ⟨[(67, .val (.bool t16)), (6, .val (.int .i64 (x4.toNat : Int))), (5, .val (.int .i64 0)), (4, .val (.int .i64 0)), (1, .val (.int .i64 a1)), (0, .val (.string (bs a0)))], [], 154⟩) (fun _ h => h) ?_ ?_
 · refine T.region ?_
   refine TL.op1 (OpR.pure rfl) rfl ?_
   refine TL.op1 (OpR.pure rfl) rfl ?_
   refine TL.op1 (OpR.pure rfl) rfl ?_
   rcases ite_some ht16 with ⟨c17, ht16⟩ | ⟨c17, ht16⟩
   rotate_left
   · refine TL.off rfl rfl rfl rfl (decide_eq_false c17) rfl rfl ?_
     refine TL.off rfl rfl rfl rfl (decide_eq_false c17) rfl rfl ?_
     refine TL.op1 (OpR.pickF rfl (decide_eq_false c17) rfl) rfl ?_
     refine TL.op1 (OpR.pure rfl) rfl ?_
     refine TL.off rfl rfl rfl rfl rfl rfl rfl ?_
     refine TL.off rfl rfl rfl rfl rfl rfl rfl ?_
     refine TL.off rfl rfl rfl rfl rfl rfl rfl ?_
     refine TL.off rfl rfl rfl rfl rfl rfl rfl ?_
     refine TL.op1 (OpR.pickF rfl rfl rfl) rfl ?_
     refine TL.op1 (OpR.pure rfl) rfl ?_
     refine TL.off rfl rfl rfl rfl rfl rfl rfl ?_
     refine TL.off rfl rfl rfl rfl rfl rfl rfl ?_
     refine TL.off rfl rfl rfl rfl rfl rfl rfl ?_
     refine TL.off rfl rfl rfl rfl rfl rfl rfl ?_
     refine TL.op1 (OpR.pickF rfl rfl rfl) rfl ?_
     refine TL.nil ?_
     obtain rfl := Option.some.inj ht16
     exact ⟨_, Gst.only [0, 1, 4, 5, 6, 67] rfl, rfl⟩
   refine TL.on rfl rfl rfl rfl (decide_eq_true c17) ?_
   refine TL.op1 (OpR.pure rfl) rfl ?_
   refine TL.on rfl rfl rfl rfl (decide_eq_true c17) ?_
   refine TL.op1 (OpR.pure rfl) rfl ?_
   refine TL.op1 (OpR.pickT rfl (decide_eq_true c17) rfl) rfl ?_
   refine TL.op1 (OpR.pure rfl) rfl ?_
   rcases ite_some ht16 with ⟨c18, ht16⟩ | ⟨c18, ht16⟩
   rotate_left
   · refine TL.off rfl rfl rfl rfl (decide_eq_false c18) rfl rfl ?_
     refine TL.off rfl rfl rfl rfl (decide_eq_false c18) rfl rfl ?_
     refine TL.off rfl rfl rfl rfl (decide_eq_false c18) rfl rfl ?_
     refine TL.off rfl rfl rfl rfl (decide_eq_false c18) rfl rfl ?_
     refine TL.op1 (OpR.pickF rfl (decide_eq_false c18) rfl) rfl ?_
     refine TL.op1 (OpR.pure rfl) rfl ?_
     refine TL.off rfl rfl rfl rfl rfl rfl rfl ?_
     refine TL.off rfl rfl rfl rfl rfl rfl rfl ?_
     refine TL.off rfl rfl rfl rfl rfl rfl rfl ?_
     refine TL.off rfl rfl rfl rfl rfl rfl rfl ?_
     refine TL.op1 (OpR.pickF rfl rfl rfl) rfl ?_
     refine TL.nil ?_
     obtain rfl := Option.some.inj ht16
     exact ⟨_, Gst.only [0, 1, 4, 5, 6, 67] rfl, rfl⟩
   refine TL.on rfl rfl rfl rfl (decide_eq_true c18) ?_
   refine TL.op1 (OpR.pure rfl) rfl ?_
   refine TL.on rfl rfl rfl rfl (decide_eq_true c18) ?_
   refine TL.op1 (OpR.pure rfl) rfl ?_
   refine TL.on rfl rfl rfl rfl (decide_eq_true c18) ?_
   refine TL.op1 (OpR.pure rfl) rfl ?_
   refine TL.on rfl rfl rfl rfl (decide_eq_true c18) ?_
   obtain ⟨x19, hx19, ht16⟩ := bnd_some ht16
   refine TL.op1 (OpR.call0 fn210 (ref01_more_c hx19) rfl) rfl ?_
   refine TL.op1 (OpR.pickT rfl (decide_eq_true c18) rfl) rfl ?_
   refine TL.op1 (OpR.pure rfl) rfl ?_
   rcases ite_some ht16 with ⟨c20, ht16⟩ | ⟨c20, ht16⟩
   rotate_left
   · refine TL.off rfl rfl rfl rfl (eq_false_of_ne_true c20) rfl rfl ?_
     refine TL.off rfl rfl rfl rfl (eq_false_of_ne_true c20) rfl rfl ?_
     refine TL.off rfl rfl rfl rfl (eq_false_of_ne_true c20) rfl rfl ?_
     refine TL.off rfl rfl rfl rfl (eq_false_of_ne_true c20) rfl rfl ?_
     refine TL.op1 (OpR.pickF rfl (eq_false_of_ne_true c20) rfl) rfl ?_
     refine TL.nil ?_
     obtain rfl := Option.some.inj ht16
     exact ⟨_, Gst.only [0, 1, 4, 5, 6, 67] rfl, rfl⟩
   refine TL.on rfl rfl rfl rfl (c20) ?_
   refine TL.op1 (OpR.pure rfl) rfl ?_
   refine TL.on rfl rfl rfl rfl (c20) ?_
   refine TL.op1 (OpR.pure rfl) rfl ?_
   refine TL.on rfl rfl rfl rfl (c20) ?_
   refine TL.op1 (OpR.pure rfl) rfl ?_
   refine TL.on rfl rfl rfl rfl (c20) ?_
   obtain ⟨x21, hx21, ht16⟩ := bnd_some ht16
   refine TL.op1 (OpR.call0 fn210 (ref01_more_c hx21) rfl) rfl ?_
   refine TL.op1 (OpR.pickT rfl (c20) rfl) rfl ?_
   refine TL.nil ?_
   obtain rfl := Option.some.inj ht16
   exact ⟨_, Gst.only [0, 1, 4, 5, 6, 67] rfl, rfl⟩
 rintro _ rfl
 show T X _ _ _
 obtain ⟨t22, ht22, h0⟩ := bnd_some h0
 refine T.cutC (fun S' => ∃ u23, t22 = Ex.brk u23 ∧ S' = ⟨[(6, .val (.int .i64 (x4.toNat : Int))), (5, .val (.int .i64 0)), (4, .val (.int .i64 0)), (1, .val (.int .i64 a1)), (0, .val (.string (bs a0)))], [], 154⟩) (fun _ h => h) ?_ ?_
 · rcases ite_some ht22 with ⟨c24, ht22⟩ | ⟨c24, ht22⟩
   rotate_left
   · refine T.condF rfl (eq_false_of_ne_true c24) ?_
     refine T.skip ?_
     obtain rfl := Option.some.inj ht22
     exact ⟨_, Gst.only [0, 1, 4, 5, 6] rfl, _, rfl, rfl⟩
   refine T.condT rfl (c24) ?_
   refine T.seq ?_
   obtain ⟨x26, hx26, ht22⟩ := bnd_some ht22
   obtain ⟨x27, hx27, ht22⟩ := bnd_some ht22
   obtain ⟨x28, hx28, ht22⟩ := bnd_some ht22
   refine T.drawQ drawsX [.val (.int .i64 (x4.toNat : Int)), .val (.int .i64 (w64 ((x4.toNat : Int) - 224))), .val (.int .i64 (w64 ((w64 ((x4.toNat : Int) - 224)) * 4096))), .val (.string (bs a0)), .val (.int .i64 a1), .val (.int .i64 (w64 (a1 + 1))), .val (.int .u8 (x26.toNat : Int)), .val (.int .i64 (x26.toNat : Int)), .val (.int .i64 (w64 ((x26.toNat : Int) - 128))), .val (.int .i64 (w64 ((w64 ((x26.toNat : Int) - 128)) * 64))), .val (.int .i64 x27), .val (.string (bs a0)), .val (.int .i64 a1), .val (.int .i64 (w64 (a1 + 2))), .val (.int .u8 (x28.toNat : Int)), .val (.int .i64 (x28.toNat : Int)), .val (.int .i64 (w64 (x27 + (x28.toNat : Int)))), .val (.int .i64 (w64 ((w64 (x27 + (x28.toNat : Int))) - 128))), .val (.int .i64 (w64 ((w64 (x27 + (x28.toNat : Int))) - 128)))] [0, 1, 4, 5, 6, 8, 67, 68, 69, 70, 71, 72, 73, 74, 75, 76, 77, 78, 79, 80, 81, 82, 83, 84, 85] (by decide +kernel) rfl ?_ rfl ?_
   · refine OpsQ.yes (Want.plain rfl) rfl (OpR.pure rfl) ?_
     refine OpsQ.yes (Want.plain rfl) rfl (OpR.pure rfl) ?_
     refine OpsQ.yes (Want.plain rfl) rfl (OpR.pure rfl) ?_
     refine OpsQ.yes (Want.plain rfl) rfl (OpR.pure rfl) ?_
     refine OpsQ.yes (Want.plain rfl) rfl (OpR.pure rfl) ?_
     refine OpsQ.yes (Want.plain rfl) rfl (OpR.pure rfl) ?_
     refine OpsQ.yes (Want.plain rfl) rfl (OpR.indexS hx26 rfl rfl rfl rfl) ?_
     refine OpsQ.yes (Want.plain rfl) rfl (OpR.cast (OpR.pure rfl) (intE (w64_u8 _))) ?_
     refine OpsQ.yes (Want.plain rfl) rfl (OpR.pure rfl) ?_
     refine OpsQ.yes (Want.plain rfl) rfl (OpR.pure rfl) ?_
     refine OpsQ.yes (Want.plain rfl) rfl (OpR.cast (OpR.pure rfl) (intE (Option.some.inj hx27))) ?_
     refine OpsQ.yes (Want.plain rfl) rfl (OpR.pure rfl) ?_
     refine OpsQ.yes (Want.plain rfl) rfl (OpR.pure rfl) ?_
     refine OpsQ.yes (Want.plain rfl) rfl (OpR.pure rfl) ?_
     refine OpsQ.yes (Want.plain rfl) rfl (OpR.indexS hx28 rfl rfl rfl rfl) ?_
     refine OpsQ.yes (Want.plain rfl) rfl (OpR.cast (OpR.pure rfl) (intE (w64_u8 _))) ?_
     refine OpsQ.yes (Want.plain rfl) rfl (OpR.pure rfl) ?_
     refine OpsQ.yes (Want.plain rfl) rfl (OpR.pure rfl) ?_
     refine OpsQ.yes (Want.plain rfl) rfl (OpR.pure rfl) ?_
     exact OpsQ.nil
   show T X _ _ _
   refine T.seq ?_
   obtain ⟨t29, ht29, ht22⟩ := bnd_some ht22
   refine T.cutC (fun S' => S' = ⟨[(95, .val (.bool t29)), (8, .val (.int .i64 (w64 ((w64 (x27 + (x28.toNat : Int))) - 128)))), (6, .val (.int .i64 (x4.toNat : Int))), (5, .val (.int .i64 0)), (4, .val (.int .i64 0)), (1, .val (.int .i64 a1)), (0, .val (.string (bs a0)))], [], 154⟩) (fun _ h => h) ?_ ?_
   rotate_left
   · rintro _ rfl
     show T X _ _ _
     rcases ite_some ht22 with ⟨c32, ht22⟩ | ⟨c32, ht22⟩
     rotate_left
     · refine T.condF rfl (eq_false_of_ne_true c32) ?_
       refine T.skip ?_
       obtain rfl := Option.some.inj ht22
       exact ⟨_, Gst.only [0, 1, 4, 5, 6] rfl, _, rfl, rfl⟩
     refine T.condT rfl (c32) ?_
     refine T.seq ?_
     refine T.region ?_
     refine TL.op1 (OpR.pure rfl) rfl ?_
     refine TL.op1 (OpR.pure rfl) rfl ?_
     refine TL.op1 (OpR.pure rfl) rfl ?_
     refine TL.nil ?_
     show T X _ _ _
     refine T.ret ?_
     obtain rfl := Option.some.inj ht22
     obtain rfl := Option.some.inj h0
     exact PostG.retP (ks := []) (Gst.only [4, 5] rfl) undef (ResL.cons (ResV.tmp rfl) (ResL.cons (ResV.tmp rfl) ResL.nil)) rfl rfl rfl rfl
   refine T.region ?_
   refine TL.op1 (OpR.pure rfl) rfl ?_
   refine TL.op1 (OpR.pure rfl) rfl ?_
   refine TL.op1 (OpR.pure rfl) rfl ?_
   rcases ite_some ht29 with ⟨c30, ht29⟩ | ⟨c30, ht29⟩
   rotate_left
   · refine TL.off rfl rfl rfl rfl (decide_eq_false c30) rfl rfl ?_
     refine TL.off rfl rfl rfl rfl (decide_eq_false c30) rfl rfl ?_
     refine TL.off rfl rfl rfl rfl (decide_eq_false c30) rfl rfl ?_
     refine TL.offU rfl rfl rfl rfl rfl rfl ?_
     refine TL.offU rfl rfl rfl rfl rfl rfl ?_
     refine TL.off rfl rfl rfl rfl (decide_eq_false c30) rfl rfl ?_
     refine TL.op1 (OpR.pickF rfl (decide_eq_false c30) rfl) rfl ?_
     refine TL.nil ?_
     obtain rfl := Option.some.inj ht29
     exact ⟨_, Gst.only [0, 1, 4, 5, 6, 8, 95] rfl, rfl⟩
   refine TL.on rfl rfl rfl rfl (decide_eq_true c30) ?_
   refine TL.op1 (OpR.pure rfl) rfl ?_
   refine TL.on rfl rfl rfl rfl (decide_eq_true c30) ?_
   refine TL.op1 (OpR.pure rfl) rfl ?_
   refine TL.on rfl rfl rfl rfl (decide_eq_true c30) ?_
   refine TL.op1 (OpR.pure rfl) rfl ?_
   rcases ite_some ht29 with ⟨c31, ht29⟩ | ⟨c31, ht29⟩
   · refine TL.off rfl rfl rfl rfl (decide_eq_true c31) rfl rfl ?_
     refine TL.off rfl rfl rfl rfl (decide_eq_true c31) rfl rfl ?_
     refine TL.on rfl rfl rfl rfl (decide_eq_true c30) ?_
     refine TL.op1 (OpR.pickT rfl (decide_eq_true c31) rfl) rfl ?_
     refine TL.op1 (OpR.pickT rfl (decide_eq_true c30) rfl) rfl ?_
     refine TL.nil ?_
     obtain rfl := Option.some.inj ht29
     exact ⟨_, Gst.only [0, 1, 4, 5, 6, 8, 95] rfl, rfl⟩
   refine TL.on rfl rfl rfl rfl (decide_eq_false c31) ?_
   refine TL.op1 (OpR.pure rfl) rfl ?_
   refine TL.on rfl rfl rfl rfl (decide_eq_false c31) ?_
   refine TL.op1 (OpR.pure rfl) rfl ?_
   refine TL.on rfl rfl rfl rfl (decide_eq_true c30) ?_
   refine TL.op1 (OpR.pickF rfl (decide_eq_false c31) rfl) rfl ?_
   refine TL.op1 (OpR.pickT rfl (decide_eq_true c30) rfl) rfl ?_
   refine TL.nil ?_
   obtain rfl := Option.some.inj ht29
   exact ⟨_, Gst.only [0, 1, 4, 5, 6, 8, 95] rfl, rfl⟩
 rintro _ ⟨u23, rfl, rfl⟩
 show T X _ _ _
 refine T.seq ?_
 refine T.seq ?_
 obtain ⟨t33, ht33, h0⟩ := bnd_some h0
 refine T.cutC (fun S' => S' = ⟨[(120, .val (.bool t33)), (6, .val (.int .i64 (x4.toNat : Int))), (5, .val (.int .i64 0)), (4, .val (.int .i64 0)), (1, .val (.int .i64 a1)), (0, .val (.string (bs a0)))], [], 154⟩) (fun _ h => h) ?_ ?_
 · refine T.region ?_
   refine TL.op1 (OpR.pure rfl) rfl ?_
   refine TL.op1 (OpR.pure rfl) rfl ?_
   refine TL.op1 (OpR.pure rfl) rfl ?_
   rcases ite_some ht33 with ⟨c34, ht33⟩ | ⟨c34, ht33⟩
   rotate_left
   · refine TL.off rfl rfl rfl rfl (decide_eq_false c34) rfl rfl ?_
     refine TL.off rfl rfl rfl rfl (decide_eq_false c34) rfl rfl ?_
     refine TL.op1 (OpR.pickF rfl (decide_eq_false c34) rfl) rfl ?_
     refine TL.op1 (OpR.pure rfl) rfl ?_
     refine TL.off rfl rfl rfl rfl rfl rfl rfl ?_
     refine TL.off rfl rfl rfl rfl rfl rfl rfl ?_
     refine TL.off rfl rfl rfl rfl rfl rfl rfl ?_
     refine TL.off rfl rfl rfl rfl rfl rfl rfl ?_
     refine TL.op1 (OpR.pickF rfl rfl rfl) rfl ?_
     refine TL.op1 (OpR.pure rfl) rfl ?_
     refine TL.off rfl rfl rfl rfl rfl rfl rfl ?_
     refine TL.off rfl rfl rfl rfl rfl rfl rfl ?_
     refine TL.off rfl rfl rfl rfl rfl rfl rfl ?_
     refine TL.off rfl rfl rfl rfl rfl rfl rfl ?_
     refine TL.op1 (OpR.pickF rfl rfl rfl) rfl ?_
     refine TL.op1 (OpR.pure rfl) rfl ?_
     refine TL.off rfl rfl rfl rfl rfl rfl rfl ?_
     refine TL.off rfl rfl rfl rfl rfl rfl rfl ?_
     refine TL.off rfl rfl rfl rfl rfl rfl rfl ?_
     refine TL.off rfl rfl rfl rfl rfl rfl rfl ?_
     refine TL.op1 (OpR.pickF rfl rfl rfl) rfl ?_
     refine TL.nil ?_
     obtain rfl := Option.some.inj ht33
     exact ⟨_, Gst.only [0, 1, 4, 5, 6, 120] rfl, rfl⟩
   refine TL.on rfl rfl rfl rfl (decide_eq_true c34) ?_
   refine TL.op1 (OpR.pure rfl) rfl ?_
   refine TL.on rfl rfl rfl rfl (decide_eq_true c34) ?_
   refine TL.op1 (OpR.pure rfl) rfl ?_
   refine TL.op1 (OpR.pickT rfl (decide_eq_true c34) rfl) rfl ?_
   refine TL.op1 (OpR.pure rfl) rfl ?_
   rcases ite_some ht33 with ⟨c35, ht33⟩ | ⟨c35, ht33⟩
   rotate_left
   · refine TL.off rfl rfl rfl rfl (decide_eq_false c35) rfl rfl ?_
     refine TL.off rfl rfl rfl rfl (decide_eq_false c35) rfl rfl ?_
     refine TL.off rfl rfl rfl rfl (decide_eq_false c35) rfl rfl ?_
     refine TL.off rfl rfl rfl rfl (decide_eq_false c35) rfl rfl ?_
     refine TL.op1 (OpR.pickF rfl (decide_eq_false c35) rfl) rfl ?_
     refine TL.op1 (OpR.pure rfl) rfl ?_
     refine TL.off rfl rfl rfl rfl rfl rfl rfl ?_
     refine TL.off rfl rfl rfl rfl rfl rfl rfl ?_
     refine TL.off rfl rfl rfl rfl rfl rfl rfl ?_
     refine TL.off rfl rfl rfl rfl rfl rfl rfl ?_
     refine TL.op1 (OpR.pickF rfl rfl rfl) rfl ?_
     refine TL.op1 (OpR.pure rfl) rfl ?_
     refine TL.off rfl rfl rfl rfl rfl rfl rfl ?_
     refine TL.off rfl rfl rfl rfl rfl rfl rfl ?_
     refine TL.off rfl rfl rfl rfl rfl rfl rfl ?_
     refine TL.off rfl rfl rfl rfl rfl rfl rfl ?_
     refine TL.op1 (OpR.pickF rfl rfl rfl) rfl ?_
     refine TL.nil ?_
     obtain rfl := Option.some.inj ht33
     exact ⟨_, Gst.only [0, 1, 4, 5, 6, 120] rfl, rfl⟩
   refine TL.on rfl rfl rfl rfl (decide_eq_true c35) ?_
   refine TL.op1 (OpR.pure rfl) rfl ?_
   refine TL.on rfl rfl rfl rfl (decide_eq_true c35) ?_
   refine TL.op1 (OpR.pure rfl) rfl ?_
   refine TL.on rfl rfl rfl rfl (decide_eq_true c35) ?_
   refine TL.op1 (OpR.pure rfl) rfl ?_
   refine TL.on rfl rfl rfl rfl (decide_eq_true c35) ?_
   obtain ⟨x36, hx36, ht33⟩ := bnd_some ht33
   refine TL.op1 (OpR.call0 fn210 (ref01_more_c hx36) rfl) rfl ?_
   refine TL.op1 (OpR.pickT rfl (decide_eq_true c35) rfl) rfl ?_
   refine TL.op1 (OpR.pure rfl) rfl ?_
   rcases ite_some ht33 with ⟨c37, ht33⟩ | ⟨c37, ht33⟩
   rotate_left
   · refine TL.off rfl rfl rfl rfl (eq_false_of_ne_true c37) rfl rfl ?_
     refine TL.off rfl rfl rfl rfl (eq_false_of_ne_true c37) rfl rfl ?_
     refine TL.off rfl rfl rfl rfl (eq_false_of_ne_true c37) rfl rfl ?_
     refine TL.off rfl rfl rfl rfl (eq_false_of_ne_true c37) rfl rfl ?_
     refine TL.op1 (OpR.pickF rfl (eq_false_of_ne_true c37) rfl) rfl ?_
     refine TL.op1 (OpR.pure rfl) rfl ?_
     refine TL.off rfl rfl rfl rfl rfl rfl rfl ?_
     refine TL.off rfl rfl rfl rfl rfl rfl rfl ?_
     refine TL.off rfl rfl rfl rfl rfl rfl rfl ?_
     refine TL.off rfl rfl rfl rfl rfl rfl rfl ?_
     refine TL.op1 (OpR.pickF rfl rfl rfl) rfl ?_
     refine TL.nil ?_
     obtain rfl := Option.some.inj ht33
     exact ⟨_, Gst.only [0, 1, 4, 5, 6, 120] rfl, rfl⟩
   refine TL.on rfl rfl rfl rfl (c37) ?_
   refine TL.op1 (OpR.pure rfl) rfl ?_
   refine TL.on rfl rfl rfl rfl (c37) ?_
   refine TL.op1 (OpR.pure rfl) rfl ?_
   refine TL.on rfl rfl rfl rfl (c37) ?_
   refine TL.op1 (OpR.pure rfl) rfl ?_
   refine TL.on rfl rfl rfl rfl (c37) ?_
   obtain ⟨x38, hx38, ht33⟩ := bnd_some ht33
   refine TL.op1 (OpR.call0 fn210 (ref01_more_c hx38) rfl) rfl ?_
   refine TL.op1 (OpR.pickT rfl (c37) rfl) rfl ?_
   refine TL.op1 (OpR.pure rfl) rfl ?_
   rcases ite_some ht33 with ⟨c39, ht33⟩ | ⟨c39, ht33⟩
   rotate_left
   · refine TL.off rfl rfl rfl rfl (eq_false_of_ne_true c39) rfl rfl ?_
     refine TL.off rfl rfl rfl rfl (eq_false_of_ne_true c39) rfl rfl ?_
     refine TL.off rfl rfl rfl rfl (eq_false_of_ne_true c39) rfl rfl ?_
     refine TL.off rfl rfl rfl rfl (eq_false_of_ne_true c39) rfl rfl ?_
     refine TL.op1 (OpR.pickF rfl (eq_false_of_ne_true c39) rfl) rfl ?_
     refine TL.nil ?_
     obtain rfl := Option.some.inj ht33
     exact ⟨_, Gst.only [0, 1, 4, 5, 6, 120] rfl, rfl⟩
   refine TL.on rfl rfl rfl rfl (c39) ?_
   refine TL.op1 (OpR.pure rfl) rfl ?_
   refine TL.on rfl rfl rfl rfl (c39) ?_
   refine TL.op1 (OpR.pure rfl) rfl ?_
   refine TL.on rfl rfl rfl rfl (c39) ?_
   refine TL.op1 (OpR.pure rfl) rfl ?_
   refine TL.on rfl rfl rfl rfl (c39) ?_
   obtain ⟨x40, hx40, ht33⟩ := bnd_some ht33
   refine TL.op1 (OpR.call0 fn210 (ref01_more_c hx40) rfl) rfl ?_
   refine TL.op1 (OpR.pickT rfl (c39) rfl) rfl ?_
   refine TL.nil ?_
   obtain rfl := Option.some.inj ht33
   exact ⟨_, Gst.only [0, 1, 4, 5, 6, 120] rfl, rfl⟩
 rintro _ rfl
 show T X _ _ _
 obtain ⟨t41, ht41, h0⟩ := bnd_some h0
 refine T.cutC (fun S' => ∃ u42, t41 = Ex.brk u42 ∧ S' = ⟨[(5, .val (.int .i64 0)), (4, .val (.int .i64 0))], [], 154⟩) (fun _ h => h) ?_ ?_
 rotate_left
 · rintro _ ⟨u42, rfl, rfl⟩
   show T X _ _ _
   refine T.seq ?_
   refine T.region ?_
   refine TL.op1 (OpR.pure rfl) rfl ?_
   refine TL.op1 (OpR.pure rfl) rfl ?_
   refine TL.nil ?_
   show T X _ _ _
   refine T.ret ?_
   obtain rfl := Option.some.inj h0
   exact PostG.retP (ks := []) (Gst.only [4, 5] rfl) undef (ResL.cons (ResV.tmp rfl) (ResL.cons (ResV.tmp rfl) ResL.nil)) rfl rfl rfl rfl
 rcases ite_some ht41 with ⟨c43, ht41⟩ | ⟨c43, ht41⟩
 rotate_left
 · refine T.condF rfl (eq_false_of_ne_true c43) ?_
   refine T.skip ?_
   obtain rfl := Option.some.inj ht41
   exact ⟨_, Gst.only [4, 5] rfl, _, rfl, rfl⟩
 refine T.condT rfl (c43) ?_
 refine T.seq ?_
 obtain ⟨x45, hx45, ht41⟩ := bnd_some ht41
 obtain ⟨x46, hx46, ht41⟩ := bnd_some ht41
 obtain ⟨x47, hx47, ht41⟩ := bnd_some ht41
 obtain ⟨x48, hx48, ht41⟩ := bnd_some ht41
 obtain ⟨x49, hx49, ht41⟩ := bnd_some ht41
 refine T.drawQ drawsX [.val (.int .i64 (x4.toNat : Int)), .val (.int .i64 (w64 ((x4.toNat : Int) - 240))), .val (.int .i64 (w64 ((w64 ((x4.toNat : Int) - 240)) * 262144))), .val (.string (bs a0)), .val (.int .i64 a1), .val (.int .i64 (w64 (a1 + 1))), .val (.int .u8 (x45.toNat : Int)), .val (.int .i64 (x45.toNat : Int)), .val (.int .i64 (w64 ((x45.toNat : Int) - 128))), .val (.int .i64 (w64 ((w64 ((x45.toNat : Int) - 128)) * 4096))), .val (.int .i64 x46), .val (.string (bs a0)), .val (.int .i64 a1), .val (.int .i64 (w64 (a1 + 2))), .val (.int .u8 (x47.toNat : Int)), .val (.int .i64 (x47.toNat : Int)), .val (.int .i64 (w64 ((x47.toNat : Int) - 128))), .val (.int .i64 (w64 ((w64 ((x47.toNat : Int) - 128)) * 64))), .val (.int .i64 (w64 (x46 + (w64 ((w64 ((x47.toNat : Int) - 128)) * 64))))), .val (.string (bs a0)), .val (.int .i64 a1), .val (.int .i64 (w64 (a1 + 3))), .val (.int .u8 (x48.toNat : Int)), .val (.int .i64 (x48.toNat : Int)), .val (.int .i64 x49), .val (.int .i64 (w64 (x49 - 128))), .val (.int .i64 (w64 (x49 - 128)))] [0, 1, 4, 5, 6, 9, 120, 121, 122, 123, 124, 125, 126, 127, 128, 129, 130, 131, 132, 133, 134, 135, 136, 137, 138, 139, 140, 141, 142, 143, 144, 145, 146] (by decide +kernel) rfl ?_ rfl ?_
 · refine OpsQ.yes (Want.plain rfl) rfl (OpR.pure rfl) ?_
   refine OpsQ.yes (Want.plain rfl) rfl (OpR.pure rfl) ?_
   refine OpsQ.yes (Want.plain rfl) rfl (OpR.pure rfl) ?_
   refine OpsQ.yes (Want.plain rfl) rfl (OpR.pure rfl) ?_
   refine OpsQ.yes (Want.plain rfl) rfl (OpR.pure rfl) ?_
   refine OpsQ.yes (Want.plain rfl) rfl (OpR.pure rfl) ?_
   refine OpsQ.yes (Want.plain rfl) rfl (OpR.indexS hx45 rfl rfl rfl rfl) ?_
   refine OpsQ.yes (Want.plain rfl) rfl (OpR.cast (OpR.pure rfl) (intE (w64_u8 _))) ?_
   refine OpsQ.yes (Want.plain rfl) rfl (OpR.pure rfl) ?_
   refine OpsQ.yes (Want.plain rfl) rfl (OpR.pure rfl) ?_
   refine OpsQ.yes (Want.plain rfl) rfl (OpR.cast (OpR.pure rfl) (intE (Option.some.inj hx46))) ?_
   refine OpsQ.yes (Want.plain rfl) rfl (OpR.pure rfl) ?_
   refine OpsQ.yes (Want.plain rfl) rfl (OpR.pure rfl) ?_
   refine OpsQ.yes (Want.plain rfl) rfl (OpR.pure rfl) ?_
   refine OpsQ.yes (Want.plain rfl) rfl (OpR.indexS hx47 rfl rfl rfl rfl) ?_
   refine OpsQ.yes (Want.plain rfl) rfl (OpR.cast (OpR.pure rfl) (intE (w64_u8 _))) ?_
   refine OpsQ.yes (Want.plain rfl) rfl (OpR.pure rfl) ?_
   refine OpsQ.yes (Want.plain rfl) rfl (OpR.pure rfl) ?_
   refine OpsQ.yes (Want.plain rfl) rfl (OpR.pure rfl) ?_
   refine OpsQ.yes (Want.plain rfl) rfl (OpR.pure rfl) ?_
   refine OpsQ.yes (Want.plain rfl) rfl (OpR.pure rfl) ?_
   refine OpsQ.yes (Want.plain rfl) rfl (OpR.pure rfl) ?_
   refine OpsQ.yes (Want.plain rfl) rfl (OpR.indexS hx48 rfl rfl rfl rfl) ?_
   refine OpsQ.yes (Want.plain rfl) rfl (OpR.cast (OpR.pure rfl) (intE (w64_u8 _))) ?_
   refine OpsQ.yes (Want.plain rfl) rfl (OpR.cast (OpR.pure rfl) (intE (Option.some.inj hx49))) ?_
   refine OpsQ.yes (Want.plain rfl) rfl (OpR.pure rfl) ?_
   refine OpsQ.yes (Want.plain rfl) rfl (OpR.pure rfl) ?_
   exact OpsQ.nil
 show T X _ _ _
 refine T.seq ?_
 obtain ⟨t50, ht50, ht41⟩ := bnd_some ht41
 refine T.cutC (fun S' => S' = ⟨[(152, .val (.bool t50)), (9, .val (.int .i64 (w64 (x49 - 128)))), (5, .val (.int .i64 0)), (4, .val (.int .i64 0))], [], 154⟩) (fun _ h => h) ?_ ?_
 rotate_left
 · rintro _ rfl
   show T X _ _ _
   rcases ite_some ht41 with ⟨c52, ht41⟩ | ⟨c52, ht41⟩
   rotate_left
   · refine T.condF rfl (eq_false_of_ne_true c52) ?_
     refine T.skip ?_
     obtain rfl := Option.some.inj ht41
     exact ⟨_, Gst.only [4, 5] rfl, _, rfl, rfl⟩
   refine T.condT rfl (c52) ?_
   refine T.seq ?_
   refine T.region ?_
   refine TL.op1 (OpR.pure rfl) rfl ?_
   refine TL.op1 (OpR.pure rfl) rfl ?_
   refine TL.op1 (OpR.pure rfl) rfl ?_
   refine TL.nil ?_
   show T X _ _ _
   refine T.ret ?_
   obtain rfl := Option.some.inj ht41
   obtain rfl := Option.some.inj h0
   exact PostG.retP (ks := []) (Gst.only [4, 5] rfl) undef (ResL.cons (ResV.tmp rfl) (ResL.cons (ResV.tmp rfl) ResL.nil)) rfl rfl rfl rfl
 refine T.region ?_
 refine TL.op1 (OpR.pure rfl) rfl ?_
 refine TL.op1 (OpR.pure rfl) rfl ?_
 refine TL.op1 (OpR.pure rfl) rfl ?_
 rcases ite_some ht50 with ⟨c51, ht50⟩ | ⟨c51, ht50⟩
 rotate_left
 · refine TL.off rfl rfl rfl rfl (decide_eq_false c51) rfl rfl ?_
   refine TL.off rfl rfl rfl rfl (decide_eq_false c51) rfl rfl ?_
   refine TL.op1 (OpR.pickF rfl (decide_eq_false c51) rfl) rfl ?_
   refine TL.nil ?_
   obtain rfl := Option.some.inj ht50
   exact ⟨_, Gst.only [4, 5, 9, 152] rfl, rfl⟩
 refine TL.on rfl rfl rfl rfl (decide_eq_true c51) ?_
 refine TL.op1 (OpR.pure rfl) rfl ?_
 refine TL.on rfl rfl rfl rfl (decide_eq_true c51) ?_
 refine TL.op1 (OpR.pure rfl) rfl ?_
 refine TL.op1 (OpR.pickT rfl (decide_eq_true c51) rfl) rfl ?_
 refine TL.nil ?_
 obtain rfl := Option.some.inj ht50
 exact ⟨_, Gst.only [4, 5, 9, 152] rfl, rfl⟩
noncomputable def ref01_Bounds.l1 (a0 : List UInt8) (s5 : Int × (List Int)) : Option (Lp (Int × (List Int)) (List Int)) :=
  if s5.1 < (a0.length : Int) then
    bnd (ref01_At a0 s5.1) fun x14 =>
    bnd (app 8 s5.2 [w64 (s5.1 + x14.2)]) fun x15 =>
    some (Lp.next (w64 (s5.1 + x14.2), x15))
  else
    some (Lp.done s5.2)
noncomputable def ref01_Bounds (a0 : List UInt8) : Option (List Int) :=
  bnd (loop (ref01_Bounds.l1 a0) (0, [0]) : Option (List Int)) fun t2 =>
  some t2
set_option maxHeartbeats 4000000 in
theorem ref01_Bounds_c {a0 : List UInt8} {res : (List Int)} (h0 : ref01_Bounds a0 = some res) : CallF X 148 [.val (.string (bs a0))] [] (fun x => .sl 1 (List.map (eI .i64) res)) (fun x => []) := by
 unfold ref01_Bounds at h0
 refine CallF.mkG (X := X) Try.func148 rfl rfl Try.ntmps148 rfl rfl ?_
 refine T.seq ?_
 refine T.region ?_
 refine TL.op1 (OpR.pure rfl) rfl ?_
 refine TL.nil ?_
 show T X _ _ _
 refine T.seq ?_
 refine T.region ?_
 refine TL.op (OpR.litRow rfl rfl rfl rfl rfl rfl rfl rfl (fun _ => rfl)) rfl (fun v1 => ?_)
 refine TL.op1 (OpR.pure rfl) rfl ?_
 refine TL.nil ?_
 show T X _ _ _
 refine T.seq ?_
 refine T.seq ?_
 refine T.region ?_
 refine TL.op1 (OpR.pure rfl) rfl ?_
 refine TL.nil ?_
 show T X _ _ _
 obtain ⟨t2, ht2, h0⟩ := bnd_some h0
 refine T.cutC (fun S' => ∃ y3 : Value, S' = ⟨[(3, .val y3), (2, .val (.slice none 0 0))], [.row y3 (List.map (eI .i64) t2) 1 3], 26⟩) (fun _ h => h) ?_ ?_
 rotate_left
 · rintro _ ⟨y3, rfl⟩
   show T X _ _ _
   refine T.seq ?_
   refine T.region ?_
   refine TL.op1 (OpR.pure rfl) rfl ?_
   refine TL.op1 (OpR.pure rfl) rfl ?_
   refine TL.nil ?_
   show T X _ _ _
   refine T.ret ?_
   obtain rfl := Option.some.inj h0
   exact PostG.retP (ks := []) (Gst.trans (Gst.only [2] rfl) (Gst.trans (Gst.freezeRow 0 rfl rfl (ReS.cons (Re.base .all) ReS.nil) (ReO.same ReO.nil)) (Gst.pick [] rfl rfl))) undef (ResL.cons (ResV.tmp rfl) ResL.nil) rfl rfl rfl rfl
 refine T.block ?_
 obtain ⟨n6, n11⟩ := loop_some ht2
 refine T.loop (fun n S' => ∃ S'', Gst S' S'' ∧ ∃ y4 : Value, ∃ s5 : Int × (List Int), S'' = ⟨[(4, .val (.int .i64 s5.1)), (3, .val y4), (2, .val (.slice none 0 0)), (0, .val (.string (bs a0)))], [.row y4 (List.map (eI .i64) s5.2) 1 3], 26⟩ ∧ iter (ref01_Bounds.l1 a0) n s5 = some t2) n6 ?_ ?_
 · exact ⟨_, Gst.only [0, 2, 3, 4] rfl, v1, (0, [0]), rfl, n11⟩
 rintro n6 _ ⟨_, g, y4, s5, rfl, i10⟩
 refine T.ghost g ?_
 obtain ⟨m7, q8, rfl, q9, i10⟩ := iter_succ i10
 unfold ref01_Bounds.l1 at q9
 refine T.seq ?_
 refine T.seq ?_
 refine T.region ?_
 refine TL.op1 (OpR.pure rfl) rfl ?_
 refine TL.op1 (OpR.pure rfl) rfl ?_
 refine TL.op1 (OpR.cast (OpR.pure rfl) (intE (lenS _))) rfl ?_
 refine TL.op1 (OpR.pure rfl) rfl ?_
 refine TL.nil ?_
 show T X _ _ _
 rcases ite_some q9 with ⟨c13, q9⟩ | ⟨c13, q9⟩
 rotate_left
 · refine T.condF rfl (decide_eq_false c13) ?_
   refine T.exit ?_
   obtain rfl := Option.some.inj q9
   obtain rfl : _ = _ := i10
   exact ⟨_, Gst.only [2, 3] rfl, y4, rfl⟩
 refine T.condT rfl (decide_eq_true c13) ?_
 refine T.skip ?_
 show T X _ _ _
 refine T.block ?_
 refine T.seq ?_
 refine T.region ?_
 refine TL.op1 (OpR.pure rfl) rfl ?_
 refine TL.op1 (OpR.pure rfl) rfl ?_
 obtain ⟨x14, hx14, q9⟩ := bnd_some q9
 refine TL.op1 (OpR.call0 fn186 (ref01_At_c hx14) rfl) rfl ?_
 refine TL.op1 (OpR.pure rfl) rfl ?_
 refine TL.op1 (OpR.pure rfl) rfl ?_
 refine TL.op1 (OpR.pure rfl) rfl ?_
 refine TL.op1 (OpR.pure rfl) rfl ?_
 refine TL.op1 (OpR.pure rfl) rfl ?_
 refine TL.nil ?_
 show T X _ _ _
 refine T.seq ?_
 refine T.region ?_
 refine TL.op1 (OpR.pure rfl) rfl ?_
 refine TL.op1 (OpR.pure rfl) rfl ?_
 refine TL.op1 (OpR.pure rfl) rfl ?_
 refine TL.op1 (OpR.pure rfl) rfl ?_
 refine TL.nil ?_
 show T X _ _ _
 refine T.region ?_
 refine TL.op1 (OpR.pure rfl) rfl ?_
 refine TL.op1 (OpR.pure rfl) rfl ?_
 refine TL.op1 (OpR.lit rfl rfl rfl rfl rfl rfl rfl) rfl ?_
 obtain ⟨x15, hx15, q9⟩ := bnd_some q9
 refine TL.op (OpR.appendM (m := [w64 (s5.1 + x14.2)]) (eI .i64) 0 hx15 rfl rfl rfl rfl rfl rfl rfl rfl rfl (fun _ => rfl)) rfl (fun v16 => ?_)
 refine TL.op1 (OpR.pure rfl) rfl ?_
 refine TL.nil ?_
 obtain rfl := Option.some.inj q9
 exact ⟨m7, Nat.lt_succ_self _, _, Gst.only [0, 2, 3, 4] rfl, v16, (w64 (s5.1 + x14.2), x15), rfl, i10⟩
noncomputable def ref30_Bound.l1 (a1 : Int) (x1 : (List Int)) (s3 : Int × Int) : Option (Lp (Int × Int) Int) :=
  if s3.2 < (x1.length : Int) then
    bnd (idx x1 s3.2) fun x12 =>
    bnd (if x12 ≤ a1 then
      some x12
    else
      some s3.1 : Option Int) fun t13 =>
    some (Lp.next (t13, w64 (s3.2 + 1)))
  else
    some (Lp.done s3.1)
noncomputable def ref30_Bound (a0 : List UInt8) (a1 : Int) : Option Int :=
  bnd (ref01_Bounds a0) fun x1 =>
  bnd (loop (ref30_Bound.l1 a1 x1) (0, 0) : Option Int) fun t2 =>
  some t2
set_option maxHeartbeats 4000000 in
theorem ref30_Bound_c {a0 : List UInt8} {a1 : Int} {res : Int} (h0 : ref30_Bound a0 a1 = some res) : CallF X 89 [.val (.string (bs a0)), .val (.int .i64 a1)] [] (fun x => .val (.int .i64 res)) (fun x => []) := by
 unfold ref30_Bound at h0
 refine CallF.mkG (X := X) Try.func89 rfl rfl Try.ntmps89 rfl rfl ?_
 refine T.seq ?_
 refine T.region ?_
 refine TL.op1 (OpR.pure rfl) rfl ?_
 refine TL.nil ?_
 show T X _ _ _
 refine T.seq ?_
 refine T.region ?_
 refine TL.op1 (OpR.pure rfl) rfl ?_
 refine TL.nil ?_
 show T X _ _ _
 refine T.seq ?_
 refine T.seq ?_
 refine T.region ?_
 refine TL.op1 (OpR.pure rfl) rfl ?_
 obtain ⟨x1, hx1, h0⟩ := bnd_some h0
 refine TL.op1 (OpR.call0 fn148 (ref01_Bounds_c hx1) rfl) rfl ?_
 refine TL.op1 (OpR.cast (OpR.pure rfl) (intE (lenM _ _))) rfl ?_
 refine TL.op1 (OpR.pure rfl) rfl ?_
 refine TL.nil ?_
 show T X _ _ _
 obtain ⟨t2, ht2, h0⟩ := bnd_some h0
 refine T.cutC (fun S' => S' = ⟨[(5, .val (.int .i64 t2)), (4, .val (.int .i64 0))], [], 21⟩) (fun _ h => h) ?_ ?_
 rotate_left
 · rintro _ rfl
   show T X _ _ _
   refine T.seq ?_
   refine T.region ?_
   refine TL.op1 (OpR.pure rfl) rfl ?_
   refine TL.op1 (OpR.pure rfl) rfl ?_
   refine TL.nil ?_
   show T X _ _ _
   refine T.ret ?_
   obtain rfl := Option.some.inj h0
   exact PostG.retP (ks := []) (Gst.only [4] rfl) undef (ResL.cons (ResV.tmp rfl) ResL.nil) rfl rfl rfl rfl
 refine T.block ?_
 obtain ⟨n4, n9⟩ := loop_some ht2
 refine T.loop (fun n S' => ∃ S'', Gst S' S'' ∧ ∃ s3 : Int × Int, S'' = ⟨[(11, .val (.int .i64 s3.2)), (10, .val (.int .i64 (x1.length : Int))), (9, .sl 1 (List.map (eI .i64) x1)), (5, .val (.int .i64 s3.1)), (4, .val (.int .i64 0)), (1, .val (.int .i64 a1))], [], 21⟩ ∧ iter (ref30_Bound.l1 a1 x1) n s3 = some t2) n4 ?_ ?_
 · exact ⟨_, Gst.only [1, 4, 5, 9, 10, 11] rfl, (0, 0), rfl, n9⟩
 rintro n4 _ ⟨_, g, s3, rfl, i8⟩
 refine T.ghost g ?_
 obtain ⟨m5, q6, rfl, q7, i8⟩ := iter_succ i8
 unfold ref30_Bound.l1 at q7
 refine T.seq ?_
 refine T.region ?_
 refine TL.op1 (OpR.pure rfl) rfl ?_
 refine TL.nil ?_
 show T X _ _ _
 refine T.seq ?_
 rcases ite_some q7 with ⟨c11, q7⟩ | ⟨c11, q7⟩
 rotate_left
 · refine T.condF rfl (decide_eq_false c11) ?_
   refine T.exit ?_
   obtain rfl := Option.some.inj q7
   obtain rfl : _ = _ := i8
   exact ⟨_, Gst.only [4, 5] rfl, rfl⟩
 refine T.condT rfl (decide_eq_true c11) ?_
 refine T.skip ?_
 show T X _ _ _
 refine T.seq ?_
 refine T.block ?_
 refine T.seq ?_
 refine T.region ?_
 obtain ⟨x12, hx12, q7⟩ := bnd_some q7
 refine TL.op1 (OpR.indexM (eI .i64) hx12 rfl rfl rfl rfl rfl) rfl ?_
 refine TL.op1 (OpR.pure rfl) rfl ?_
 refine TL.op1 (OpR.pure rfl) rfl ?_
 refine TL.nil ?_
 show T X _ _ _
 refine T.seq ?_
 refine T.region ?_
 refine TL.op1 (OpR.pure rfl) rfl ?_
 refine TL.op1 (OpR.pure rfl) rfl ?_
 refine TL.op1 (OpR.pure rfl) rfl ?_
 refine TL.nil ?_
 show T X _ _ _
 obtain ⟨t13, ht13, q7⟩ := bnd_some q7
 refine T.cutC (fun S' => S' = ⟨[(11, .val (.int .i64 s3.2)), (10, .val (.int .i64 (x1.length : Int))), (9, .sl 1 (List.map (eI .i64) x1)), (5, .val (.int .i64 t13)), (4, .val (.int .i64 0)), (1, .val (.int .i64 a1))], [], 21⟩) (fun _ h => h) ?_ ?_
 rotate_left
 · rintro _ rfl
   show T X _ _ _
   refine T.region ?_
   refine TL.op1 (OpR.pure rfl) rfl ?_
   refine TL.op1 (OpR.pure rfl) rfl ?_
   refine TL.nil ?_
   obtain rfl := Option.some.inj q7
   exact ⟨m5, Nat.lt_succ_self _, _, Gst.only [1, 4, 5, 9, 10, 11] rfl, (t13, w64 (s3.2 + 1)), rfl, i8⟩
 rcases ite_some ht13 with ⟨c14, ht13⟩ | ⟨c14, ht13⟩
 rotate_left
 · refine T.condF rfl (decide_eq_false c14) ?_
   refine T.skip ?_
   obtain rfl := Option.some.inj ht13
   exact ⟨_, Gst.only [1, 4, 5, 9, 10, 11] rfl, rfl⟩
 refine T.condT rfl (decide_eq_true c14) ?_
 refine T.region ?_
 refine TL.op1 (OpR.pure rfl) rfl ?_
 refine TL.op1 (OpR.pure rfl) rfl ?_
 refine TL.nil ?_
 obtain rfl := Option.some.inj ht13
 exact ⟨_, Gst.only [1, 4, 5, 9, 10, 11] rfl, rfl⟩
noncomputable def ref01_Put (a0 : Int) : Option (List UInt8) :=
  bnd (if a0 < 0 then
    some true
  else
    if a0 > 1114111 then
      some true
    else
      if a0 ≥ 55296 then
        some (decide (a0 ≤ 57343))
      else
        some false : Option Bool) fun t1 =>
  if t1 = true then
    some []
  else
    if a0 < 128 then
      some [ub a0]
    else
      if a0 < 2048 then
        some [ub (w64 (192 + (w64 (quo a0 63)))), ub (w64 (128 + (rem a0 63)))]
      else
        if a0 < 65536 then
          some [ub (w64 (224 + (w64 (quo a0 4095)))), ub (w64 (128 + (rem (w64 (quo a0 63)) 63))), ub (w64 (128 + (rem a0 63)))]
        else
          some [ub (w64 (240 + (w64 (quo a0 262143)))), ub (w64 (128 + (rem (w64 (quo a0 4095)) 63))), ub (w64 (128 + (rem (w64 (quo a0 63)) 63))), ub (w64 (128 + (rem a0 63)))]
set_option maxHeartbeats 4000000 in
theorem ref01_Put_c {a0 : Int} {res : (List UInt8)} (h0 : ref01_Put a0 = some res) : CallF X 144 [.val (.int .i64 a0)] [] (fun x => .val (.string (bs res))) (fun x => []) := by
 unfold ref01_Put at h0
 refine CallF.mkG (X := X) Try.func144 rfl rfl Try.ntmps144 rfl rfl ?_
 refine T.seq ?_
 refine T.region ?_
 refine TL.op1 (OpR.pure rfl) rfl ?_
 refine TL.nil ?_
 show T X _ _ _
 refine T.seq ?_
 refine T.seq ?_
 obtain ⟨t1, ht1, h0⟩ := bnd_some h0
 refine T.cutC (fun S' => S' = ⟨[(16, .val (.bool t1)), (2, .val (.string (bs []))), (0, .val (.int .i64 a0))], [], 72⟩) (fun _ h => h) ?_ ?_
 · refine T.region ?_
   refine TL.op1 (OpR.pure rfl) rfl ?_
   refine TL.op1 (OpR.pure rfl) rfl ?_
   refine TL.op1 (OpR.pure rfl) rfl ?_
   rcases ite_some ht1 with ⟨c2, ht1⟩ | ⟨c2, ht1⟩
   · refine TL.off rfl rfl rfl rfl (decide_eq_true c2) rfl rfl ?_
     refine TL.off rfl rfl rfl rfl (decide_eq_true c2) rfl rfl ?_
     refine TL.op1 (OpR.pickT rfl (decide_eq_true c2) rfl) rfl ?_
     refine TL.op1 (OpR.pure rfl) rfl ?_
     refine TL.off rfl rfl rfl rfl rfl rfl rfl ?_
     refine TL.off rfl rfl rfl rfl rfl rfl rfl ?_
     refine TL.off rfl rfl rfl rfl rfl rfl rfl ?_
     refine TL.offU rfl rfl rfl rfl rfl rfl ?_
     refine TL.offU rfl rfl rfl rfl rfl rfl ?_
     refine TL.off rfl rfl rfl rfl rfl rfl rfl ?_
     refine TL.op1 (OpR.pickT rfl rfl rfl) rfl ?_
     refine TL.nil ?_
     obtain rfl := Option.some.inj ht1
     exact ⟨_, Gst.only [0, 2, 16] rfl, rfl⟩
   refine TL.on rfl rfl rfl rfl (decide_eq_false c2) ?_
   refine TL.op1 (OpR.pure rfl) rfl ?_
   refine TL.on rfl rfl rfl rfl (decide_eq_false c2) ?_
   refine TL.op1 (OpR.pure rfl) rfl ?_
   refine TL.op1 (OpR.pickF rfl (decide_eq_false c2) rfl) rfl ?_
   refine TL.op1 (OpR.pure rfl) rfl ?_
   rcases ite_some ht1 with ⟨c3, ht1⟩ | ⟨c3, ht1⟩
   · refine TL.off rfl rfl rfl rfl (decide_eq_true c3) rfl rfl ?_
     refine TL.off rfl rfl rfl rfl (decide_eq_true c3) rfl rfl ?_
     refine TL.off rfl rfl rfl rfl (decide_eq_true c3) rfl rfl ?_
     refine TL.offU rfl rfl rfl rfl rfl rfl ?_
     refine TL.offU rfl rfl rfl rfl rfl rfl ?_
     refine TL.off rfl rfl rfl rfl (decide_eq_true c3) rfl rfl ?_
     refine TL.op1 (OpR.pickT rfl (decide_eq_true c3) rfl) rfl ?_
     refine TL.nil ?_
     obtain rfl := Option.some.inj ht1
     exact ⟨_, Gst.only [0, 2, 16] rfl, rfl⟩
   refine TL.on rfl rfl rfl rfl (decide_eq_false c3) ?_
   refine TL.op1 (OpR.pure rfl) rfl ?_
   refine TL.on rfl rfl rfl rfl (decide_eq_false c3) ?_
   refine TL.op1 (OpR.pure rfl) rfl ?_
   refine TL.on rfl rfl rfl rfl (decide_eq_false c3) ?_
   refine TL.op1 (OpR.pure rfl) rfl ?_
   rcases ite_some ht1 with ⟨c4, ht1⟩ | ⟨c4, ht1⟩
   rotate_left
   · refine TL.off rfl rfl rfl rfl (decide_eq_false c4) rfl rfl ?_
     refine TL.off rfl rfl rfl rfl (decide_eq_false c4) rfl rfl ?_
     refine TL.on rfl rfl rfl rfl (decide_eq_false c3) ?_
     refine TL.op1 (OpR.pickF rfl (decide_eq_false c4) rfl) rfl ?_
     refine TL.op1 (OpR.pickF rfl (decide_eq_false c3) rfl) rfl ?_
     refine TL.nil ?_
     obtain rfl := Option.some.inj ht1
     exact ⟨_, Gst.only [0, 2, 16] rfl, rfl⟩
   refine TL.on rfl rfl rfl rfl (decide_eq_true c4) ?_
   refine TL.op1 (OpR.pure rfl) rfl ?_
   refine TL.on rfl rfl rfl rfl (decide_eq_true c4) ?_
   refine TL.op1 (OpR.pure rfl) rfl ?_
   refine TL.on rfl rfl rfl rfl (decide_eq_false c3) ?_
   refine TL.op1 (OpR.pickT rfl (decide_eq_true c4) rfl) rfl ?_
   refine TL.op1 (OpR.pickF rfl (decide_eq_false c3) rfl) rfl ?_
   refine TL.nil ?_
   obtain rfl := Option.some.inj ht1
   exact ⟨_, Gst.only [0, 2, 16] rfl, rfl⟩
 rintro _ rfl
 show T X _ _ _
 rcases ite_some h0 with ⟨c5, h0⟩ | ⟨c5, h0⟩
 · refine T.condT rfl (c5) ?_
   refine T.seq ?_
   refine T.region ?_
   refine TL.op1 (OpR.pure rfl) rfl ?_
   refine TL.nil ?_
   show T X _ _ _
   refine T.ret ?_
   obtain rfl := Option.some.inj h0
   exact PostG.retP (ks := []) (Gst.only [2] rfl) undef (ResL.cons (ResV.tmp rfl) ResL.nil) rfl rfl rfl rfl
 refine T.condF rfl (eq_false_of_ne_true c5) ?_
 refine T.skip ?_
 show T X _ _ _
 refine T.seq ?_
 refine T.seq ?_
 refine T.region ?_
 refine TL.op1 (OpR.pure rfl) rfl ?_
 refine TL.op1 (OpR.pure rfl) rfl ?_
 refine TL.nil ?_
 show T X _ _ _
 rcases ite_some h0 with ⟨c6, h0⟩ | ⟨c6, h0⟩
 · refine T.condT rfl (decide_eq_true c6) ?_
   refine T.seq ?_
   refine T.region ?_
   refine TL.op1 (OpR.pure rfl) rfl ?_
   refine TL.op1 (OpR.cast (OpR.pure rfl) (intE (ub_wrap _))) rfl ?_
   refine TL.op1 (OpR.lit rfl rfl rfl rfl rfl rfl rfl) rfl ?_
   refine TL.op1 (OpR.toStr (bs := [ub a0]) rfl rfl rfl rfl rfl rfl rfl) rfl ?_
   refine TL.op1 (OpR.pure rfl) rfl ?_
   refine TL.nil ?_
   show T X _ _ _
   refine T.ret ?_
   obtain rfl := Option.some.inj h0
   exact PostG.retP (ks := []) (Gst.only [2] rfl) undef (ResL.cons (ResV.tmp rfl) ResL.nil) rfl rfl rfl rfl
 refine T.condF rfl (decide_eq_false c6) ?_
 refine T.skip ?_
 show T X _ _ _
 refine T.seq ?_
 refine T.seq ?_
 refine T.region ?_
 refine TL.op1 (OpR.pure rfl) rfl ?_
 refine TL.op1 (OpR.pure rfl) rfl ?_
 refine TL.nil ?_
 show T X _ _ _
 rcases ite_some h0 with ⟨c7, h0⟩ | ⟨c7, h0⟩
 · refine T.condT rfl (decide_eq_true c7) ?_
   refine T.seq ?_
   refine T.region ?_
   refine TL.op1 (OpR.pure rfl) rfl ?_
   refine TL.op1 (OpR.pure rfl) rfl ?_
   refine TL.op1 (OpR.pure rfl) rfl ?_
   refine TL.op1 (OpR.cast (OpR.pure rfl) (intE (ub_wrap _))) rfl ?_
   refine TL.op1 (OpR.pure rfl) rfl ?_
   refine TL.op1 (OpR.pure rfl) rfl ?_
   refine TL.op1 (OpR.pure rfl) rfl ?_
   refine TL.op1 (OpR.cast (OpR.pure rfl) (intE (ub_wrap _))) rfl ?_
   refine TL.op1 (OpR.lit rfl rfl rfl rfl rfl rfl rfl) rfl ?_
   refine TL.op1 (OpR.toStr (bs := [ub (w64 (192 + (w64 (quo a0 63)))), ub (w64 (128 + (rem a0 63)))]) rfl rfl rfl rfl rfl rfl rfl) rfl ?_
   refine TL.op1 (OpR.pure rfl) rfl ?_
   refine TL.nil ?_
   show T X _ _ _
   refine T.ret ?_
   obtain rfl := Option.some.inj h0
   exact PostG.retP (ks := []) (Gst.only [2] rfl) undef (ResL.cons (ResV.tmp rfl) ResL.nil) rfl rfl rfl rfl
 refine T.condF rfl (decide_eq_false c7) ?_
 refine T.skip ?_
 show T X _ _ _
 refine T.seq ?_
 refine T.seq ?_
 refine T.region ?_
 refine TL.op1 (OpR.pure rfl) rfl ?_
 refine TL.op1 (OpR.pure rfl) rfl ?_
 refine TL.nil ?_
 show T X _ _ _
 rcases ite_some h0 with ⟨c8, h0⟩ | ⟨c8, h0⟩
 · refine T.condT rfl (decide_eq_true c8) ?_
   refine T.seq ?_
   refine T.region ?_
   refine TL.op1 (OpR.pure rfl) rfl ?_
   refine TL.op1 (OpR.pure rfl) rfl ?_
   refine TL.op1 (OpR.pure rfl) rfl ?_
   refine TL.op1 (OpR.cast (OpR.pure rfl) (intE (ub_wrap _))) rfl ?_
   refine TL.op1 (OpR.pure rfl) rfl ?_
   refine TL.op1 (OpR.pure rfl) rfl ?_
   refine TL.op1 (OpR.pure rfl) rfl ?_
   refine TL.op1 (OpR.pure rfl) rfl ?_
   refine TL.op1 (OpR.cast (OpR.pure rfl) (intE (ub_wrap _))) rfl ?_
   refine TL.op1 (OpR.pure rfl) rfl ?_
   refine TL.op1 (OpR.pure rfl) rfl ?_
   refine TL.op1 (OpR.pure rfl) rfl ?_
   refine TL.op1 (OpR.cast (OpR.pure rfl) (intE (ub_wrap _))) rfl ?_
   refine TL.op1 (OpR.lit rfl rfl rfl rfl rfl rfl rfl) rfl ?_
   refine TL.op1 (OpR.toStr (bs := [ub (w64 (224 + (w64 (quo a0 4095)))), ub (w64 (128 + (rem (w64 (quo a0 63)) 63))), ub (w64 (128 + (rem a0 63)))]) rfl rfl rfl rfl rfl rfl rfl) rfl ?_
   refine TL.op1 (OpR.pure rfl) rfl ?_
   refine TL.nil ?_
   show T X _ _ _
   refine T.ret ?_
   obtain rfl := Option.some.inj h0
   exact PostG.retP (ks := []) (Gst.only [2] rfl) undef (ResL.cons (ResV.tmp rfl) ResL.nil) rfl rfl rfl rfl
 refine T.condF rfl (decide_eq_false c8) ?_
 refine T.skip ?_
 show T X _ _ _
 refine T.seq ?_
 refine T.region ?_
 refine TL.op1 (OpR.pure rfl) rfl ?_
 refine TL.op1 (OpR.pure rfl) rfl ?_
 refine TL.op1 (OpR.pure rfl) rfl ?_
 refine TL.op1 (OpR.cast (OpR.pure rfl) (intE (ub_wrap _))) rfl ?_
 refine TL.op1 (OpR.pure rfl) rfl ?_
 refine TL.op1 (OpR.pure rfl) rfl ?_
 refine TL.op1 (OpR.pure rfl) rfl ?_
 refine TL.op1 (OpR.pure rfl) rfl ?_
 refine TL.op1 (OpR.cast (OpR.pure rfl) (intE (ub_wrap _))) rfl ?_
 refine TL.op1 (OpR.pure rfl) rfl ?_
 refine TL.op1 (OpR.pure rfl) rfl ?_
 refine TL.op1 (OpR.pure rfl) rfl ?_
 refine TL.op1 (OpR.pure rfl) rfl ?_
 refine TL.op1 (OpR.cast (OpR.pure rfl) (intE (ub_wrap _))) rfl ?_
 refine TL.op1 (OpR.pure rfl) rfl ?_
 refine TL.op1 (OpR.pure rfl) rfl ?_
 refine TL.op1 (OpR.pure rfl) rfl ?_
 refine TL.op1 (OpR.cast (OpR.pure rfl) (intE (ub_wrap _))) rfl ?_
 refine TL.op1 (OpR.lit rfl rfl rfl rfl rfl rfl rfl) rfl ?_
 refine TL.op1 (OpR.toStr (bs := [ub (w64 (240 + (w64 (quo a0 262143)))), ub (w64 (128 + (rem (w64 (quo a0 4095)) 63))), ub (w64 (128 + (rem (w64 (quo a0 63)) 63))), ub (w64 (128 + (rem a0 63)))]) rfl rfl rfl rfl rfl rfl rfl) rfl ?_
 refine TL.op1 (OpR.pure rfl) rfl ?_
 refine TL.nil ?_
 show T X _ _ _
 refine T.ret ?_
 obtain rfl := Option.some.inj h0
 exact PostG.retP (ks := []) (Gst.only [2] rfl) undef (ResL.cons (ResV.tmp rfl) ResL.nil) rfl rfl rfl rfl
noncomputable def ref22_Types (a0 : Int) : Option Bool :=
  bnd (if a0 ≥ 32 then
    if a0 = 127 then
      some false
    else
      bnd (ref01_Put a0) fun x4 =>
      some (!(x4 == []))
  else
    some false : Option Bool) fun t1 =>
  some t1
set_option maxHeartbeats 4000000 in
theorem ref22_Types_c {a0 : Int} {res : Bool} (h0 : ref22_Types a0 = some res) : CallF X 143 [.val (.int .i64 a0)] [] (fun x => .val (.bool res)) (fun x => []) := by
 unfold ref22_Types at h0
 refine CallF.mkG (X := X) Try.func143 rfl rfl Try.ntmps143 rfl rfl ?_
 refine T.seq ?_
 refine T.region ?_
 refine TL.op1 (OpR.pure rfl) rfl ?_
 refine TL.nil ?_
 show T X _ _ _
 refine T.seq ?_
 obtain ⟨t1, ht1, h0⟩ := bnd_some h0
 refine T.cutC (fun S' => S' = ⟨[(2, .val (.bool t1))], [], 14⟩) (fun _ h => h) ?_ ?_
 rotate_left
 · rintro _ rfl
   show T X _ _ _
   refine T.ret ?_
   obtain rfl := Option.some.inj h0
   exact PostG.retP (ks := []) (Gst.only [2] rfl) undef (ResL.cons (ResV.tmp rfl) ResL.nil) rfl rfl rfl rfl
 refine T.region ?_
 refine TL.op1 (OpR.pure rfl) rfl ?_
 refine TL.op1 (OpR.pure rfl) rfl ?_
 refine TL.op1 (OpR.pure rfl) rfl ?_
 rcases ite_some ht1 with ⟨c2, ht1⟩ | ⟨c2, ht1⟩
 rotate_left
 · refine TL.off rfl rfl rfl rfl (decide_eq_false c2) rfl rfl ?_
   refine TL.off rfl rfl rfl rfl (decide_eq_false c2) rfl rfl ?_
   refine TL.op1 (OpR.pickF rfl (decide_eq_false c2) rfl) rfl ?_
   refine TL.op1 (OpR.pure rfl) rfl ?_
   refine TL.off rfl rfl rfl rfl rfl rfl rfl ?_
   refine TL.off rfl rfl rfl rfl rfl rfl rfl ?_
   refine TL.off rfl rfl rfl rfl rfl rfl rfl ?_
   refine TL.op1 (OpR.pickF rfl rfl rfl) rfl ?_
   refine TL.op1 (OpR.pure rfl) rfl ?_
   refine TL.nil ?_
   obtain rfl := Option.some.inj ht1
   exact ⟨_, Gst.only [2] rfl, rfl⟩
 refine TL.on rfl rfl rfl rfl (decide_eq_true c2) ?_
 refine TL.op1 (OpR.pure rfl) rfl ?_
 refine TL.on rfl rfl rfl rfl (decide_eq_true c2) ?_
 refine TL.op1 (OpR.pure rfl) rfl ?_
 refine TL.op1 (OpR.pickT rfl (decide_eq_true c2) rfl) rfl ?_
 refine TL.op1 (OpR.pure rfl) rfl ?_
 rcases ite_some ht1 with ⟨c3, ht1⟩ | ⟨c3, ht1⟩
 · refine TL.off rfl rfl rfl rfl (not_t (beq_iff_eq.2 c3)) rfl rfl ?_
   refine TL.off rfl rfl rfl rfl (not_t (beq_iff_eq.2 c3)) rfl rfl ?_
   refine TL.off rfl rfl rfl rfl (not_t (beq_iff_eq.2 c3)) rfl rfl ?_
   refine TL.op1 (OpR.pickF rfl (not_t (beq_iff_eq.2 c3)) rfl) rfl ?_
   refine TL.op1 (OpR.pure rfl) rfl ?_
   refine TL.nil ?_
   obtain rfl := Option.some.inj ht1
   exact ⟨_, Gst.only [2] rfl, rfl⟩
 refine TL.on rfl rfl rfl rfl (not_f (beq_eq_false_iff_ne.2 c3)) ?_
 refine TL.op1 (OpR.pure rfl) rfl ?_
 refine TL.on rfl rfl rfl rfl (not_f (beq_eq_false_iff_ne.2 c3)) ?_
 obtain ⟨x4, hx4, ht1⟩ := bnd_some ht1
 refine TL.op1 (OpR.call0 fn144 (ref01_Put_c hx4) rfl) rfl ?_
 refine TL.on rfl rfl rfl rfl (not_f (beq_eq_false_iff_ne.2 c3)) ?_
 refine TL.op1 (OpR.cast (OpR.pure rfl) (boolE (strNe _ _))) rfl ?_
 refine TL.op1 (OpR.pickT rfl (not_f (beq_eq_false_iff_ne.2 c3)) rfl) rfl ?_
 refine TL.op1 (OpR.pure rfl) rfl ?_
 refine TL.nil ?_
 obtain rfl := Option.some.inj ht1
 exact ⟨_, Gst.only [2] rfl, rfl⟩
noncomputable def ref01_Prev.l1 (a1 : Int) (x1 : (List Int)) (s3 : Int × Int) : Option (Lp (Int × Int) Int) :=
  if s3.2 < (x1.length : Int) then
    bnd (idx x1 s3.2) fun x12 =>
    bnd (if x12 < a1 then
      some x12
    else
      some s3.1 : Option Int) fun t13 =>
    some (Lp.next (t13, w64 (s3.2 + 1)))
  else
    some (Lp.done s3.1)
noncomputable def ref01_Prev (a0 : List UInt8) (a1 : Int) : Option Int :=
  bnd (ref01_Bounds a0) fun x1 =>
  bnd (loop (ref01_Prev.l1 a1 x1) (0, 0) : Option Int) fun t2 =>
  some t2
set_option maxHeartbeats 4000000 in
theorem ref01_Prev_c {a0 : List UInt8} {a1 : Int} {res : Int} (h0 : ref01_Prev a0 a1 = some res) : CallF X 145 [.val (.string (bs a0)), .val (.int .i64 a1)] [] (fun x => .val (.int .i64 res)) (fun x => []) := by
 unfold ref01_Prev at h0
 refine CallF.mkG (X := X) Try.func145 rfl rfl Try.ntmps145 rfl rfl ?_
 refine T.seq ?_
 refine T.region ?_
 refine TL.op1 (OpR.pure rfl) rfl ?_
 refine TL.nil ?_
 show T X _ _ _
 refine T.seq ?_
 refine T.region ?_
 refine TL.op1 (OpR.pure rfl) rfl ?_
 refine TL.nil ?_
 show T X _ _ _
 refine T.seq ?_
 refine T.seq ?_
 refine T.region ?_
 refine TL.op1 (OpR.pure rfl) rfl ?_
 obtain ⟨x1, hx1, h0⟩ := bnd_some h0
 refine TL.op1 (OpR.call0 fn148 (ref01_Bounds_c hx1) rfl) rfl ?_
 refine TL.op1 (OpR.cast (OpR.pure rfl) (intE (lenM _ _))) rfl ?_
 refine TL.op1 (OpR.pure rfl) rfl ?_
 refine TL.nil ?_
 show T X _ _ _
 obtain ⟨t2, ht2, h0⟩ := bnd_some h0
 refine T.cutC (fun S' => S' = ⟨[(5, .val (.int .i64 t2)), (4, .val (.int .i64 0))], [], 21⟩) (fun _ h => h) ?_ ?_
 rotate_left
 · rintro _ rfl
   show T X _ _ _
   refine T.seq ?_
   refine T.region ?_
   refine TL.op1 (OpR.pure rfl) rfl ?_
   refine TL.op1 (OpR.pure rfl) rfl ?_
   refine TL.nil ?_
   show T X _ _ _
   refine T.ret ?_
   obtain rfl := Option.some.inj h0
   exact PostG.retP (ks := []) (Gst.only [4] rfl) undef (ResL.cons (ResV.tmp rfl) ResL.nil) rfl rfl rfl rfl
 refine T.block ?_
 obtain ⟨n4, n9⟩ := loop_some ht2
 refine T.loop (fun n S' => ∃ S'', Gst S' S'' ∧ ∃ s3 : Int × Int, S'' = ⟨[(11, .val (.int .i64 s3.2)), (10, .val (.int .i64 (x1.length : Int))), (9, .sl 1 (List.map (eI .i64) x1)), (5, .val (.int .i64 s3.1)), (4, .val (.int .i64 0)), (1, .val (.int .i64 a1))], [], 21⟩ ∧ iter (ref01_Prev.l1 a1 x1) n s3 = some t2) n4 ?_ ?_
 · exact ⟨_, Gst.only [1, 4, 5, 9, 10, 11] rfl, (0, 0), rfl, n9⟩
 rintro n4 _ ⟨_, g, s3, rfl, i8⟩
 refine T.ghost g ?_
 obtain ⟨m5, q6, rfl, q7, i8⟩ := iter_succ i8
 unfold ref01_Prev.l1 at q7
 refine T.seq ?_
 refine T.region ?_
 refine TL.op1 (OpR.pure rfl) rfl ?_
 refine TL.nil ?_
 show T X _ _ _
 refine T.seq ?_
 rcases ite_some q7 with ⟨c11, q7⟩ | ⟨c11, q7⟩
 rotate_left
 · refine T.condF rfl (decide_eq_false c11) ?_
   refine T.exit ?_
   obtain rfl := Option.some.inj q7
   obtain rfl : _ = _ := i8
   exact ⟨_, Gst.only [4, 5] rfl, rfl⟩
 refine T.condT rfl (decide_eq_true c11) ?_
 refine T.skip ?_
 show T X _ _ _
 refine T.seq ?_
 refine T.block ?_
 refine T.seq ?_
 refine T.region ?_
 obtain ⟨x12, hx12, q7⟩ := bnd_some q7
 refine TL.op1 (OpR.indexM (eI .i64) hx12 rfl rfl rfl rfl rfl) rfl ?_
 refine TL.op1 (OpR.pure rfl) rfl ?_
 refine TL.op1 (OpR.pure rfl) rfl ?_
 refine TL.nil ?_
 show T X _ _ _
 refine T.seq ?_
 refine T.region ?_
 refine TL.op1 (OpR.pure rfl) rfl ?_
 refine TL.op1 (OpR.pure rfl) rfl ?_
 refine TL.op1 (OpR.pure rfl) rfl ?_
 refine TL.nil ?_
 show T X _ _ _
 obtain ⟨t13, ht13, q7⟩ := bnd_some q7
 refine T.cutC (fun S' => S' = ⟨[(11, .val (.int .i64 s3.2)), (10, .val (.int .i64 (x1.length : Int))), (9, .sl 1 (List.map (eI .i64) x1)), (5, .val (.int .i64 t13)), (4, .val (.int .i64 0)), (1, .val (.int .i64 a1))], [], 21⟩) (fun _ h => h) ?_ ?_
 rotate_left
 · rintro _ rfl
   show T X _ _ _
   refine T.region ?_
   refine TL.op1 (OpR.pure rfl) rfl ?_
   refine TL.op1 (OpR.pure rfl) rfl ?_
   refine TL.nil ?_
   obtain rfl := Option.some.inj q7
   exact ⟨m5, Nat.lt_succ_self _, _, Gst.only [1, 4, 5, 9, 10, 11] rfl, (t13, w64 (s3.2 + 1)), rfl, i8⟩
 rcases ite_some ht13 with ⟨c14, ht13⟩ | ⟨c14, ht13⟩
 rotate_left
 · refine T.condF rfl (decide_eq_false c14) ?_
   refine T.skip ?_
   obtain rfl := Option.some.inj ht13
   exact ⟨_, Gst.only [1, 4, 5, 9, 10, 11] rfl, rfl⟩
 refine T.condT rfl (decide_eq_true c14) ?_
 refine T.region ?_
 refine TL.op1 (OpR.pure rfl) rfl ?_
 refine TL.op1 (OpR.pure rfl) rfl ?_
 refine TL.nil ?_
 obtain rfl := Option.some.inj ht13
 exact ⟨_, Gst.only [1, 4, 5, 9, 10, 11] rfl, rfl⟩
noncomputable def ref01_Class (a0 : Int) : Option Int :=
  bnd (if a0 = 32 then
    some true
  else
    if a0 ≥ 9 then
      some (decide (a0 ≤ 13))
    else
      some false : Option Bool) fun t1 =>
  if t1 = true then
    some 0
  else
    bnd (if a0 > 127 then
      some true
    else
      if a0 = 95 then
        some true
      else
        if a0 ≥ 48 then
          if a0 ≤ 57 then
            some true
          else
            if a0 ≥ 65 then
              if a0 ≤ 90 then
                some true
              else
                if a0 ≥ 97 then
                  some (decide (a0 ≤ 122))
                else
                  some false
            else
              if a0 ≥ 97 then
                some (decide (a0 ≤ 122))
              else
                some false
        else
          if a0 ≥ 65 then
            if a0 ≤ 90 then
              some true
            else
              if a0 ≥ 97 then
                some (decide (a0 ≤ 122))
              else
                some false
          else
            if a0 ≥ 97 then
              some (decide (a0 ≤ 122))
            else
              some false : Option Bool) fun t5 =>
    if t5 = true then
      some 1
    else
      some 2
set_option maxHeartbeats 4000000 in
theorem ref01_Class_c {a0 : Int} {res : Int} (h0 : ref01_Class a0 = some res) : CallF X 209 [.val (.int .i64 a0)] [] (fun x => .val (.int .i64 res)) (fun x => []) := by
 unfold ref01_Class at h0
 refine CallF.mkG (X := X) Try.func209 rfl rfl Try.ntmps209 rfl rfl ?_
 refine T.seq ?_
 refine T.region ?_
 refine TL.op1 (OpR.pure rfl) rfl ?_
 refine TL.nil ?_
 show T X _ _ _
 refine T.seq ?_
 refine T.seq ?_
 obtain ⟨t1, ht1, h0⟩ := bnd_some h0
 refine T.cutC (fun S' => S' = ⟨[(12, .val (.bool t1)), (2, .val (.int .i64 0)), (0, .val (.int .i64 a0))], [], 43⟩) (fun _ h => h) ?_ ?_
 · refine T.region ?_
   refine TL.op1 (OpR.pure rfl) rfl ?_
   refine TL.op1 (OpR.pure rfl) rfl ?_
   refine TL.op1 (OpR.pure rfl) rfl ?_
   rcases ite_some ht1 with ⟨c2, ht1⟩ | ⟨c2, ht1⟩
   · refine TL.off rfl rfl rfl rfl (beq_iff_eq.2 c2) rfl rfl ?_
     refine TL.off rfl rfl rfl rfl (beq_iff_eq.2 c2) rfl rfl ?_
     refine TL.off rfl rfl rfl rfl (beq_iff_eq.2 c2) rfl rfl ?_
     refine TL.offU rfl rfl rfl rfl rfl rfl ?_
     refine TL.offU rfl rfl rfl rfl rfl rfl ?_
     refine TL.off rfl rfl rfl rfl (beq_iff_eq.2 c2) rfl rfl ?_
     refine TL.op1 (OpR.pickT rfl (beq_iff_eq.2 c2) rfl) rfl ?_
     refine TL.nil ?_
     obtain rfl := Option.some.inj ht1
     exact ⟨_, Gst.only [0, 2, 12] rfl, rfl⟩
   refine TL.on rfl rfl rfl rfl (beq_eq_false_iff_ne.2 c2) ?_
   refine TL.op1 (OpR.pure rfl) rfl ?_
   refine TL.on rfl rfl rfl rfl (beq_eq_false_iff_ne.2 c2) ?_
   refine TL.op1 (OpR.pure rfl) rfl ?_
   refine TL.on rfl rfl rfl rfl (beq_eq_false_iff_ne.2 c2) ?_
   refine TL.op1 (OpR.pure rfl) rfl ?_
   rcases ite_some ht1 with ⟨c3, ht1⟩ | ⟨c3, ht1⟩
   rotate_left
   · refine TL.off rfl rfl rfl rfl (decide_eq_false c3) rfl rfl ?_
     refine TL.off rfl rfl rfl rfl (decide_eq_false c3) rfl rfl ?_
     refine TL.on rfl rfl rfl rfl (beq_eq_false_iff_ne.2 c2) ?_
     refine TL.op1 (OpR.pickF rfl (decide_eq_false c3) rfl) rfl ?_
     refine TL.op1 (OpR.pickF rfl (beq_eq_false_iff_ne.2 c2) rfl) rfl ?_
     refine TL.nil ?_
     obtain rfl := Option.some.inj ht1
     exact ⟨_, Gst.only [0, 2, 12] rfl, rfl⟩
   refine TL.on rfl rfl rfl rfl (decide_eq_true c3) ?_
   refine TL.op1 (OpR.pure rfl) rfl ?_
   refine TL.on rfl rfl rfl rfl (decide_eq_true c3) ?_
   refine TL.op1 (OpR.pure rfl) rfl ?_
   refine TL.on rfl rfl rfl rfl (beq_eq_false_iff_ne.2 c2) ?_
   refine TL.op1 (OpR.pickT rfl (decide_eq_true c3) rfl) rfl ?_
   refine TL.op1 (OpR.pickF rfl (beq_eq_false_iff_ne.2 c2) rfl) rfl ?_
   refine TL.nil ?_
   obtain rfl := Option.some.inj ht1
   exact ⟨_, Gst.only [0, 2, 12] rfl, rfl⟩
 rintro _ rfl
 show T X _ _ _
 rcases ite_some h0 with ⟨c4, h0⟩ | ⟨c4, h0⟩
 · refine T.condT rfl (c4) ?_
   refine T.seq ?_
   refine T.region ?_
   refine TL.op1 (OpR.pure rfl) rfl ?_
   refine TL.nil ?_
   show T X _ _ _
   refine T.ret ?_
   obtain rfl := Option.some.inj h0
   exact PostG.retP (ks := []) (Gst.only [2] rfl) undef (ResL.cons (ResV.tmp rfl) ResL.nil) rfl rfl rfl rfl
 refine T.condF rfl (eq_false_of_ne_true c4) ?_
 refine T.skip ?_
 show T X _ _ _
 refine T.seq ?_
 refine T.seq ?_
 obtain ⟨t5, ht5, h0⟩ := bnd_some h0
 refine T.cutC (fun S' => S' = ⟨[(42, .val (.bool t5)), (2, .val (.int .i64 0))], [], 43⟩) (fun _ h => h) ?_ ?_
 rotate_left
 · rintro _ rfl
   show T X _ _ _
   rcases ite_some h0 with ⟨c18, h0⟩ | ⟨c18, h0⟩
   · refine T.condT rfl (c18) ?_
     refine T.seq ?_
     refine T.region ?_
     refine TL.op1 (OpR.pure rfl) rfl ?_
     refine TL.nil ?_
     show T X _ _ _
     refine T.ret ?_
     obtain rfl := Option.some.inj h0
     exact PostG.retP (ks := []) (Gst.only [2] rfl) undef (ResL.cons (ResV.tmp rfl) ResL.nil) rfl rfl rfl rfl
   refine T.condF rfl (eq_false_of_ne_true c18) ?_
   refine T.skip ?_
   show T X _ _ _
   refine T.seq ?_
   refine T.region ?_
   refine TL.op1 (OpR.pure rfl) rfl ?_
   refine TL.nil ?_
   show T X _ _ _
   refine T.ret ?_
   obtain rfl := Option.some.inj h0
   exact PostG.retP (ks := []) (Gst.only [2] rfl) undef (ResL.cons (ResV.tmp rfl) ResL.nil) rfl rfl rfl rfl
 refine T.region ?_
 refine TL.op1 (OpR.pure rfl) rfl ?_
 refine TL.op1 (OpR.pure rfl) rfl ?_
 refine TL.op1 (OpR.pure rfl) rfl ?_
 rcases ite_some ht5 with ⟨c6, ht5⟩ | ⟨c6, ht5⟩
 · refine TL.off rfl rfl rfl rfl (decide_eq_true c6) rfl rfl ?_
   refine TL.off rfl rfl rfl rfl (decide_eq_true c6) rfl rfl ?_
   refine TL.op1 (OpR.pickT rfl (decide_eq_true c6) rfl) rfl ?_
   refine TL.op1 (OpR.pure rfl) rfl ?_
   refine TL.off rfl rfl rfl rfl rfl rfl rfl ?_
   refine TL.off rfl rfl rfl rfl rfl rfl rfl ?_
   refine TL.off rfl rfl rfl rfl rfl rfl rfl ?_
   refine TL.offU rfl rfl rfl rfl rfl rfl ?_
   refine TL.offU rfl rfl rfl rfl rfl rfl ?_
   refine TL.off rfl rfl rfl rfl rfl rfl rfl ?_
   refine TL.op1 (OpR.pickT rfl rfl rfl) rfl ?_
   refine TL.op1 (OpR.pure rfl) rfl ?_
   refine TL.off rfl rfl rfl rfl rfl rfl rfl ?_
   refine TL.off rfl rfl rfl rfl rfl rfl rfl ?_
   refine TL.off rfl rfl rfl rfl rfl rfl rfl ?_
   refine TL.offU rfl rfl rfl rfl rfl rfl ?_
   refine TL.offU rfl rfl rfl rfl rfl rfl ?_
   refine TL.off rfl rfl rfl rfl rfl rfl rfl ?_
   refine TL.op1 (OpR.pickT rfl rfl rfl) rfl ?_
   refine TL.op1 (OpR.pure rfl) rfl ?_
   refine TL.off rfl rfl rfl rfl rfl rfl rfl ?_
   refine TL.off rfl rfl rfl rfl rfl rfl rfl ?_
   refine TL.off rfl rfl rfl rfl rfl rfl rfl ?_
   refine TL.offU rfl rfl rfl rfl rfl rfl ?_
   refine TL.offU rfl rfl rfl rfl rfl rfl ?_
   refine TL.off rfl rfl rfl rfl rfl rfl rfl ?_
   refine TL.op1 (OpR.pickT rfl rfl rfl) rfl ?_
   refine TL.nil ?_
   obtain rfl := Option.some.inj ht5
   exact ⟨_, Gst.only [2, 42] rfl, rfl⟩
 refine TL.on rfl rfl rfl rfl (decide_eq_false c6) ?_
 refine TL.op1 (OpR.pure rfl) rfl ?_
 refine TL.on rfl rfl rfl rfl (decide_eq_false c6) ?_
 refine TL.op1 (OpR.pure rfl) rfl ?_
 refine TL.op1 (OpR.pickF rfl (decide_eq_false c6) rfl) rfl ?_
 refine TL.op1 (OpR.pure rfl) rfl ?_
 rcases ite_some ht5 with ⟨c7, ht5⟩ | ⟨c7, ht5⟩
 · refine TL.off rfl rfl rfl rfl (beq_iff_eq.2 c7) rfl rfl ?_
   refine TL.off rfl rfl rfl rfl (beq_iff_eq.2 c7) rfl rfl ?_
   refine TL.off rfl rfl rfl rfl (beq_iff_eq.2 c7) rfl rfl ?_
   refine TL.offU rfl rfl rfl rfl rfl rfl ?_
   refine TL.offU rfl rfl rfl rfl rfl rfl ?_
   refine TL.off rfl rfl rfl rfl (beq_iff_eq.2 c7) rfl rfl ?_
   refine TL.op1 (OpR.pickT rfl (beq_iff_eq.2 c7) rfl) rfl ?_
   refine TL.op1 (OpR.pure rfl) rfl ?_
   refine TL.off rfl rfl rfl rfl rfl rfl rfl ?_
   refine TL.off rfl rfl rfl rfl rfl rfl rfl ?_
   refine TL.off rfl rfl rfl rfl rfl rfl rfl ?_
   refine TL.offU rfl rfl rfl rfl rfl rfl ?_
   refine TL.offU rfl rfl rfl rfl rfl rfl ?_
   refine TL.off rfl rfl rfl rfl rfl rfl rfl ?_
   refine TL.op1 (OpR.pickT rfl rfl rfl) rfl ?_
   refine TL.op1 (OpR.pure rfl) rfl ?_
   refine TL.off rfl rfl rfl rfl rfl rfl rfl ?_
   refine TL.off rfl rfl rfl rfl rfl rfl rfl ?_
   refine TL.off rfl rfl rfl rfl rfl rfl rfl ?_
   refine TL.offU rfl rfl rfl rfl rfl rfl ?_
   refine TL.offU rfl rfl rfl rfl rfl rfl ?_
   refine TL.off rfl rfl rfl rfl rfl rfl rfl ?_
   refine TL.op1 (OpR.pickT rfl rfl rfl) rfl ?_
   refine TL.nil ?_
   obtain rfl := Option.some.inj ht5
   exact ⟨_, Gst.only [2, 42] rfl, rfl⟩
 refine TL.on rfl rfl rfl rfl (beq_eq_false_iff_ne.2 c7) ?_
 refine TL.op1 (OpR.pure rfl) rfl ?_
 refine TL.on rfl rfl rfl rfl (beq_eq_false_iff_ne.2 c7) ?_
 refine TL.op1 (OpR.pure rfl) rfl ?_
 refine TL.on rfl rfl rfl rfl (beq_eq_false_iff_ne.2 c7) ?_
 refine TL.op1 (OpR.pure rfl) rfl ?_
 rcases ite_some ht5 with ⟨c8, ht5⟩ | ⟨c8, ht5⟩
 rotate_left
 · refine TL.off rfl rfl rfl rfl (decide_eq_false c8) rfl rfl ?_
   refine TL.off rfl rfl rfl rfl (decide_eq_false c8) rfl rfl ?_
   refine TL.on rfl rfl rfl rfl (beq_eq_false_iff_ne.2 c7) ?_
   refine TL.op1 (OpR.pickF rfl (decide_eq_false c8) rfl) rfl ?_
   refine TL.op1 (OpR.pickF rfl (beq_eq_false_iff_ne.2 c7) rfl) rfl ?_
   refine TL.op1 (OpR.pure rfl) rfl ?_
   refine TL.on rfl rfl rfl rfl rfl ?_
   refine TL.op1 (OpR.pure rfl) rfl ?_
   refine TL.on rfl rfl rfl rfl rfl ?_
   refine TL.op1 (OpR.pure rfl) rfl ?_
   refine TL.on rfl rfl rfl rfl rfl ?_
   refine TL.op1 (OpR.pure rfl) rfl ?_
   rcases ite_some ht5 with ⟨c14, ht5⟩ | ⟨c14, ht5⟩
   rotate_left
   · refine TL.off rfl rfl rfl rfl (decide_eq_false c14) rfl rfl ?_
     refine TL.off rfl rfl rfl rfl (decide_eq_false c14) rfl rfl ?_
     refine TL.on rfl rfl rfl rfl rfl ?_
     refine TL.op1 (OpR.pickF rfl (decide_eq_false c14) rfl) rfl ?_
     refine TL.op1 (OpR.pickF rfl rfl rfl) rfl ?_
     refine TL.op1 (OpR.pure rfl) rfl ?_
     refine TL.on rfl rfl rfl rfl rfl ?_
     refine TL.op1 (OpR.pure rfl) rfl ?_
     refine TL.on rfl rfl rfl rfl rfl ?_
     refine TL.op1 (OpR.pure rfl) rfl ?_
     refine TL.on rfl rfl rfl rfl rfl ?_
     refine TL.op1 (OpR.pure rfl) rfl ?_
     rcases ite_some ht5 with ⟨c17, ht5⟩ | ⟨c17, ht5⟩
     rotate_left
     · refine TL.off rfl rfl rfl rfl (decide_eq_false c17) rfl rfl ?_
       refine TL.off rfl rfl rfl rfl (decide_eq_false c17) rfl rfl ?_
       refine TL.on rfl rfl rfl rfl rfl ?_
       refine TL.op1 (OpR.pickF rfl (decide_eq_false c17) rfl) rfl ?_
       refine TL.op1 (OpR.pickF rfl rfl rfl) rfl ?_
       refine TL.nil ?_
       obtain rfl := Option.some.inj ht5
       exact ⟨_, Gst.only [2, 42] rfl, rfl⟩
     refine TL.on rfl rfl rfl rfl (decide_eq_true c17) ?_
     refine TL.op1 (OpR.pure rfl) rfl ?_
     refine TL.on rfl rfl rfl rfl (decide_eq_true c17) ?_
     refine TL.op1 (OpR.pure rfl) rfl ?_
     refine TL.on rfl rfl rfl rfl rfl ?_
     refine TL.op1 (OpR.pickT rfl (decide_eq_true c17) rfl) rfl ?_
     refine TL.op1 (OpR.pickF rfl rfl rfl) rfl ?_
     refine TL.nil ?_
     obtain rfl := Option.some.inj ht5
     exact ⟨_, Gst.only [2, 42] rfl, rfl⟩
   refine TL.on rfl rfl rfl rfl (decide_eq_true c14) ?_
   refine TL.op1 (OpR.pure rfl) rfl ?_
   refine TL.on rfl rfl rfl rfl (decide_eq_true c14) ?_
   refine TL.op1 (OpR.pure rfl) rfl ?_
   refine TL.on rfl rfl rfl rfl rfl ?_
   refine TL.op1 (OpR.pickT rfl (decide_eq_true c14) rfl) rfl ?_
   refine TL.op1 (OpR.pickF rfl rfl rfl) rfl ?_
   refine TL.op1 (OpR.pure rfl) rfl ?_
   rcases ite_some ht5 with ⟨c15, ht5⟩ | ⟨c15, ht5⟩
   · refine TL.off rfl rfl rfl rfl (decide_eq_true c15) rfl rfl ?_
     refine TL.off rfl rfl rfl rfl (decide_eq_true c15) rfl rfl ?_
     refine TL.off rfl rfl rfl rfl (decide_eq_true c15) rfl rfl ?_
     refine TL.offU rfl rfl rfl rfl rfl rfl ?_
     refine TL.offU rfl rfl rfl rfl rfl rfl ?_
     refine TL.off rfl rfl rfl rfl (decide_eq_true c15) rfl rfl ?_
     refine TL.op1 (OpR.pickT rfl (decide_eq_true c15) rfl) rfl ?_
     refine TL.nil ?_
     obtain rfl := Option.some.inj ht5
     exact ⟨_, Gst.only [2, 42] rfl, rfl⟩
   refine TL.on rfl rfl rfl rfl (decide_eq_false c15) ?_
   refine TL.op1 (OpR.pure rfl) rfl ?_
   refine TL.on rfl rfl rfl rfl (decide_eq_false c15) ?_
   refine TL.op1 (OpR.pure rfl) rfl ?_
   refine TL.on rfl rfl rfl rfl (decide_eq_false c15) ?_
   refine TL.op1 (OpR.pure rfl) rfl ?_
   rcases ite_some ht5 with ⟨c16, ht5⟩ | ⟨c16, ht5⟩
   rotate_left
   · refine TL.off rfl rfl rfl rfl (decide_eq_false c16) rfl rfl ?_
     refine TL.off rfl rfl rfl rfl (decide_eq_false c16) rfl rfl ?_
     refine TL.on rfl rfl rfl rfl (decide_eq_false c15) ?_
     refine TL.op1 (OpR.pickF rfl (decide_eq_false c16) rfl) rfl ?_
     refine TL.op1 (OpR.pickF rfl (decide_eq_false c15) rfl) rfl ?_
     refine TL.nil ?_
     obtain rfl := Option.some.inj ht5
     exact ⟨_, Gst.only [2, 42] rfl, rfl⟩
   refine TL.on rfl rfl rfl rfl (decide_eq_true c16) ?_
   refine TL.op1 (OpR.pure rfl) rfl ?_
   refine TL.on rfl rfl rfl rfl (decide_eq_true c16) ?_
   refine TL.op1 (OpR.pure rfl) rfl ?_
   refine TL.on rfl rfl rfl rfl (decide_eq_false c15) ?_
   refine TL.op1 (OpR.pickT rfl (decide_eq_true c16) rfl) rfl ?_
   refine TL.op1 (OpR.pickF rfl (decide_eq_false c15) rfl) rfl ?_
   refine TL.nil ?_
   obtain rfl := Option.some.inj ht5
   exact ⟨_, Gst.only [2, 42] rfl, rfl⟩
 refine TL.on rfl rfl rfl rfl (decide_eq_true c8) ?_
 refine TL.op1 (OpR.pure rfl) rfl ?_
 refine TL.on rfl rfl rfl rfl (decide_eq_true c8) ?_
 refine TL.op1 (OpR.pure rfl) rfl ?_
 refine TL.on rfl rfl rfl rfl (beq_eq_false_iff_ne.2 c7) ?_
 refine TL.op1 (OpR.pickT rfl (decide_eq_true c8) rfl) rfl ?_
 refine TL.op1 (OpR.pickF rfl (beq_eq_false_iff_ne.2 c7) rfl) rfl ?_
 refine TL.op1 (OpR.pure rfl) rfl ?_
 rcases ite_some ht5 with ⟨c9, ht5⟩ | ⟨c9, ht5⟩
 · refine TL.off rfl rfl rfl rfl (decide_eq_true c9) rfl rfl ?_
   refine TL.off rfl rfl rfl rfl (decide_eq_true c9) rfl rfl ?_
   refine TL.off rfl rfl rfl rfl (decide_eq_true c9) rfl rfl ?_
   refine TL.offU rfl rfl rfl rfl rfl rfl ?_
   refine TL.offU rfl rfl rfl rfl rfl rfl ?_
   refine TL.off rfl rfl rfl rfl (decide_eq_true c9) rfl rfl ?_
   refine TL.op1 (OpR.pickT rfl (decide_eq_true c9) rfl) rfl ?_
   refine TL.op1 (OpR.pure rfl) rfl ?_
   refine TL.off rfl rfl rfl rfl rfl rfl rfl ?_
   refine TL.off rfl rfl rfl rfl rfl rfl rfl ?_
   refine TL.off rfl rfl rfl rfl rfl rfl rfl ?_
   refine TL.offU rfl rfl rfl rfl rfl rfl ?_
   refine TL.offU rfl rfl rfl rfl rfl rfl ?_
   refine TL.off rfl rfl rfl rfl rfl rfl rfl ?_
   refine TL.op1 (OpR.pickT rfl rfl rfl) rfl ?_
   refine TL.nil ?_
   obtain rfl := Option.some.inj ht5
   exact ⟨_, Gst.only [2, 42] rfl, rfl⟩
 refine TL.on rfl rfl rfl rfl (decide_eq_false c9) ?_
 refine TL.op1 (OpR.pure rfl) rfl ?_
 refine TL.on rfl rfl rfl rfl (decide_eq_false c9) ?_
 refine TL.op1 (OpR.pure rfl) rfl ?_
 refine TL.on rfl rfl rfl rfl (decide_eq_false c9) ?_
 refine TL.op1 (OpR.pure rfl) rfl ?_
 rcases ite_some ht5 with ⟨c10, ht5⟩ | ⟨c10, ht5⟩
 rotate_left
 · refine TL.off rfl rfl rfl rfl (decide_eq_false c10) rfl rfl ?_
   refine TL.off rfl rfl rfl rfl (decide_eq_false c10) rfl rfl ?_
   refine TL.on rfl rfl rfl rfl (decide_eq_false c9) ?_
   refine TL.op1 (OpR.pickF rfl (decide_eq_false c10) rfl) rfl ?_
   refine TL.op1 (OpR.pickF rfl (decide_eq_false c9) rfl) rfl ?_
   refine TL.op1 (OpR.pure rfl) rfl ?_
   refine TL.on rfl rfl rfl rfl rfl ?_
   refine TL.op1 (OpR.pure rfl) rfl ?_
   refine TL.on rfl rfl rfl rfl rfl ?_
   refine TL.op1 (OpR.pure rfl) rfl ?_
   refine TL.on rfl rfl rfl rfl rfl ?_
   refine TL.op1 (OpR.pure rfl) rfl ?_
   rcases ite_some ht5 with ⟨c13, ht5⟩ | ⟨c13, ht5⟩
   rotate_left
   · refine TL.off rfl rfl rfl rfl (decide_eq_false c13) rfl rfl ?_
     refine TL.off rfl rfl rfl rfl (decide_eq_false c13) rfl rfl ?_
     refine TL.on rfl rfl rfl rfl rfl ?_
     refine TL.op1 (OpR.pickF rfl (decide_eq_false c13) rfl) rfl ?_
     refine TL.op1 (OpR.pickF rfl rfl rfl) rfl ?_
     refine TL.nil ?_
     obtain rfl := Option.some.inj ht5
     exact ⟨_, Gst.only [2, 42] rfl, rfl⟩
   refine TL.on rfl rfl rfl rfl (decide_eq_true c13) ?_
   refine TL.op1 (OpR.pure rfl) rfl ?_
   refine TL.on rfl rfl rfl rfl (decide_eq_true c13) ?_
   refine TL.op1 (OpR.pure rfl) rfl ?_
   refine TL.on rfl rfl rfl rfl rfl ?_
   refine TL.op1 (OpR.pickT rfl (decide_eq_true c13) rfl) rfl ?_
   refine TL.op1 (OpR.pickF rfl rfl rfl) rfl ?_
   refine TL.nil ?_
   obtain rfl := Option.some.inj ht5
   exact ⟨_, Gst.only [2, 42] rfl, rfl⟩
 refine TL.on rfl rfl rfl rfl (decide_eq_true c10) ?_
 refine TL.op1 (OpR.pure rfl) rfl ?_
 refine TL.on rfl rfl rfl rfl (decide_eq_true c10) ?_
 refine TL.op1 (OpR.pure rfl) rfl ?_
 refine TL.on rfl rfl rfl rfl (decide_eq_false c9) ?_
 refine TL.op1 (OpR.pickT rfl (decide_eq_true c10) rfl) rfl ?_
 refine TL.op1 (OpR.pickF rfl (decide_eq_false c9) rfl) rfl ?_
 refine TL.op1 (OpR.pure rfl) rfl ?_
 rcases ite_some ht5 with ⟨c11, ht5⟩ | ⟨c11, ht5⟩
 · refine TL.off rfl rfl rfl rfl (decide_eq_true c11) rfl rfl ?_
   refine TL.off rfl rfl rfl rfl (decide_eq_true c11) rfl rfl ?_
   refine TL.off rfl rfl rfl rfl (decide_eq_true c11) rfl rfl ?_
   refine TL.offU rfl rfl rfl rfl rfl rfl ?_
   refine TL.offU rfl rfl rfl rfl rfl rfl ?_
   refine TL.off rfl rfl rfl rfl (decide_eq_true c11) rfl rfl ?_
   refine TL.op1 (OpR.pickT rfl (decide_eq_true c11) rfl) rfl ?_
   refine TL.nil ?_
   obtain rfl := Option.some.inj ht5
   exact ⟨_, Gst.only [2, 42] rfl, rfl⟩
 refine TL.on rfl rfl rfl rfl (decide_eq_false c11) ?_
 refine TL.op1 (OpR.pure rfl) rfl ?_
 refine TL.on rfl rfl rfl rfl (decide_eq_false c11) ?_
 refine TL.op1 (OpR.pure rfl) rfl ?_
 refine TL.on rfl rfl rfl rfl (decide_eq_false c11) ?_
 refine TL.op1 (OpR.pure rfl) rfl ?_
 rcases ite_some ht5 with ⟨c12, ht5⟩ | ⟨c12, ht5⟩
 rotate_left
 · refine TL.off rfl rfl rfl rfl (decide_eq_false c12) rfl rfl ?_
   refine TL.off rfl rfl rfl rfl (decide_eq_false c12) rfl rfl ?_
   refine TL.on rfl rfl rfl rfl (decide_eq_false c11) ?_
   refine TL.op1 (OpR.pickF rfl (decide_eq_false c12) rfl) rfl ?_
   refine TL.op1 (OpR.pickF rfl (decide_eq_false c11) rfl) rfl ?_
   refine TL.nil ?_
   obtain rfl := Option.some.inj ht5
   exact ⟨_, Gst.only [2, 42] rfl, rfl⟩
 refine TL.on rfl rfl rfl rfl (decide_eq_true c12) ?_
 refine TL.op1 (OpR.pure rfl) rfl ?_
 refine TL.on rfl rfl rfl rfl (decide_eq_true c12) ?_
 refine TL.op1 (OpR.pure rfl) rfl ?_
 refine TL.on rfl rfl rfl rfl (decide_eq_false c11) ?_
 refine TL.op1 (OpR.pickT rfl (decide_eq_true c12) rfl) rfl ?_
 refine TL.op1 (OpR.pickF rfl (decide_eq_false c11) rfl) rfl ?_
 refine TL.nil ?_
 obtain rfl := Option.some.inj ht5
 exact ⟨_, Gst.only [2, 42] rfl, rfl⟩
noncomputable def ref30_class (a0 : List UInt8) (a1 : Int) : Option Int :=
  bnd (ref01_Prev a0 a1) fun x1 =>
  bnd (ref01_At a0 x1) fun x2 =>
  bnd (ref01_Class x2.1) fun x3 =>
  some x3
set_option maxHeartbeats 4000000 in
theorem ref30_class_c {a0 : List UInt8} {a1 : Int} {res : Int} (h0 : ref30_class a0 a1 = some res) : CallF X 185 [.val (.string (bs a0)), .val (.int .i64 a1)] [] (fun x => .val (.int .i64 res)) (fun x => []) := by
 unfold ref30_class at h0
 refine CallF.mkG (X := X) Try.func185 rfl rfl Try.ntmps185 rfl rfl ?_
 refine T.seq ?_
 refine T.region ?_
 refine TL.op1 (OpR.pure rfl) rfl ?_
 refine TL.nil ?_
 show T X _ _ _
 refine T.seq ?_
 refine T.region ?_
 refine TL.op1 (OpR.pure rfl) rfl ?_
 refine TL.op1 (OpR.pure rfl) rfl ?_
 refine TL.op1 (OpR.pure rfl) rfl ?_
 obtain ⟨x1, hx1, h0⟩ := bnd_some h0
 refine TL.op1 (OpR.call0 fn145 (ref01_Prev_c hx1) rfl) rfl ?_
 obtain ⟨x2, hx2, h0⟩ := bnd_some h0
 refine TL.op1 (OpR.call0 fn186 (ref01_At_c hx2) rfl) rfl ?_
 refine TL.op1 (OpR.pure rfl) rfl ?_
 refine TL.op1 (OpR.pure rfl) rfl ?_
 refine TL.op1 (OpR.pure rfl) rfl ?_
 refine TL.op1 (OpR.pure rfl) rfl ?_
 refine TL.op1 (OpR.pure rfl) rfl ?_
 refine TL.nil ?_
 show T X _ _ _
 refine T.seq ?_
 refine T.region ?_
 refine TL.op1 (OpR.pure rfl) rfl ?_
 obtain ⟨x3, hx3, h0⟩ := bnd_some h0
 refine TL.op1 (OpR.call0 fn209 (ref01_Class_c hx3) rfl) rfl ?_
 refine TL.op1 (OpR.pure rfl) rfl ?_
 refine TL.nil ?_
 show T X _ _ _
 refine T.ret ?_
 obtain rfl := Option.some.inj h0
 exact PostG.retP (ks := []) (Gst.only [4] rfl) undef (ResL.cons (ResV.tmp rfl) ResL.nil) rfl rfl rfl rfl
noncomputable def ref30_word.l1 (a0 : List UInt8) (s2 : Int) : Option (Lp Int Int) :=
  bnd (if s2 > 0 then
    bnd (ref30_class a0 s2) fun x12 =>
    some (x12 == 0)
  else
    some false : Option Bool) fun t10 =>
  if t10 = true then
    bnd (ref01_Prev a0 s2) fun x14 =>
    some (Lp.next x14)
  else
    some (Lp.done s2)
noncomputable def ref30_word.l2 (a0 : List UInt8) (x16 : Int) (s18 : Int) : Option (Lp Int Int) :=
  bnd (if s18 > 0 then
    bnd (ref30_class a0 s18) fun x28 =>
    some (x28 == x16)
  else
    some false : Option Bool) fun t26 =>
  if t26 = true then
    bnd (ref01_Prev a0 s18) fun x30 =>
    some (Lp.next x30)
  else
    some (Lp.done s18)
noncomputable def ref30_word (a0 : List UInt8) (a1 : Int) : Option Int :=
  bnd (loop (ref30_word.l1 a0) a1 : Option Int) fun t1 =>
  if t1 = 0 then
    some 0
  else
    bnd (ref30_class a0 t1) fun x16 =>
    bnd (loop (ref30_word.l2 a0 x16) t1 : Option Int) fun t17 =>
    some t17
set_option maxHeartbeats 4000000 in
theorem ref30_word_c {a0 : List UInt8} {a1 : Int} {res : Int} (h0 : ref30_word a0 a1 = some res) : CallF X 146 [.val (.string (bs a0)), .val (.int .i64 a1)] [] (fun x => .val (.int .i64 res)) (fun x => []) := by
 unfold ref30_word at h0
 refine CallF.mkG (X := X) Try.func146 rfl rfl Try.ntmps146 rfl rfl ?_
 refine T.seq ?_
 refine T.region ?_
 refine TL.op1 (OpR.pure rfl) rfl ?_
 refine TL.nil ?_
 show T X _ _ _
 refine T.seq ?_
 obtain ⟨t1, ht1, h0⟩ := bnd_some h0
 refine T.cutC (fun S' => S' = ⟨[(4, .val (.int .i64 0)), (1, .val (.int .i64 t1)), (0, .val (.string (bs a0)))], [], 35⟩) (fun _ h => h) ?_ ?_
 · refine T.block ?_
   obtain ⟨n3, n8⟩ := loop_some ht1
   refine T.loop (fun n S' => ∃ S'', Gst S' S'' ∧ ∃ s2 : Int, S'' = ⟨[(4, .val (.int .i64 0)), (1, .val (.int .i64 s2)), (0, .val (.string (bs a0)))], [], 35⟩ ∧ iter (ref30_word.l1 a0) n s2 = some t1) n3 ?_ ?_
   · exact ⟨_, Gst.only [0, 1, 4] rfl, a1, rfl, n8⟩
   rintro n3 _ ⟨_, g, s2, rfl, i7⟩
   refine T.ghost g ?_
   obtain ⟨m4, q5, rfl, q6, i7⟩ := iter_succ i7
   unfold ref30_word.l1 at q6
   refine T.seq ?_
   refine T.seq ?_
   obtain ⟨t10, ht10, q6⟩ := bnd_some q6
   refine T.cutC (fun S' => S' = ⟨[(13, .val (.bool t10)), (4, .val (.int .i64 0)), (1, .val (.int .i64 s2)), (0, .val (.string (bs a0)))], [], 35⟩) (fun _ h => h) ?_ ?_
   rotate_left
   · rintro _ rfl
     show T X _ _ _
     rcases ite_some q6 with ⟨c13, q6⟩ | ⟨c13, q6⟩
     rotate_left
     · refine T.condF rfl (eq_false_of_ne_true c13) ?_
       refine T.exit ?_
       obtain rfl := Option.some.inj q6
       obtain rfl : _ = _ := i7
       exact ⟨_, Gst.only [0, 1, 4] rfl, rfl⟩
     refine T.condT rfl (c13) ?_
     refine T.skip ?_
     show T X _ _ _
     refine T.block ?_
     refine T.region ?_
     refine TL.op1 (OpR.pure rfl) rfl ?_
     refine TL.op1 (OpR.pure rfl) rfl ?_
     obtain ⟨x14, hx14, q6⟩ := bnd_some q6
     refine TL.op1 (OpR.call0 fn145 (ref01_Prev_c hx14) rfl) rfl ?_
     refine TL.op1 (OpR.pure rfl) rfl ?_
     refine TL.nil ?_
     obtain rfl := Option.some.inj q6
     exact ⟨m4, Nat.lt_succ_self _, _, Gst.only [0, 1, 4] rfl, x14, rfl, i7⟩
   refine T.region ?_
   refine TL.op1 (OpR.pure rfl) rfl ?_
   refine TL.op1 (OpR.pure rfl) rfl ?_
   refine TL.op1 (OpR.pure rfl) rfl ?_
   rcases ite_some ht10 with ⟨c11, ht10⟩ | ⟨c11, ht10⟩
   rotate_left
   · refine TL.off rfl rfl rfl rfl (decide_eq_false c11) rfl rfl ?_
     refine TL.off rfl rfl rfl rfl (decide_eq_false c11) rfl rfl ?_
     refine TL.off rfl rfl rfl rfl (decide_eq_false c11) rfl rfl ?_
     refine TL.off rfl rfl rfl rfl (decide_eq_false c11) rfl rfl ?_
     refine TL.op1 (OpR.pickF rfl (decide_eq_false c11) rfl) rfl ?_
     refine TL.nil ?_
     obtain rfl := Option.some.inj ht10
     exact ⟨_, Gst.only [0, 1, 4, 13] rfl, rfl⟩
   refine TL.on rfl rfl rfl rfl (decide_eq_true c11) ?_
   refine TL.op1 (OpR.pure rfl) rfl ?_
   refine TL.on rfl rfl rfl rfl (decide_eq_true c11) ?_
   refine TL.op1 (OpR.pure rfl) rfl ?_
   refine TL.on rfl rfl rfl rfl (decide_eq_true c11) ?_
   obtain ⟨x12, hx12, ht10⟩ := bnd_some ht10
   refine TL.op1 (OpR.call0 fn185 (ref30_class_c hx12) rfl) rfl ?_
   refine TL.on rfl rfl rfl rfl (decide_eq_true c11) ?_
   refine TL.op1 (OpR.pure rfl) rfl ?_
   refine TL.op1 (OpR.pickT rfl (decide_eq_true c11) rfl) rfl ?_
   refine TL.nil ?_
   obtain rfl := Option.some.inj ht10
   exact ⟨_, Gst.only [0, 1, 4, 13] rfl, rfl⟩
 rintro _ rfl
 show T X _ _ _
 refine T.seq ?_
 refine T.seq ?_
 refine T.region ?_
 refine TL.op1 (OpR.pure rfl) rfl ?_
 refine TL.op1 (OpR.pure rfl) rfl ?_
 refine TL.nil ?_
 show T X _ _ _
 rcases ite_some h0 with ⟨c15, h0⟩ | ⟨c15, h0⟩
 · refine T.condT rfl (beq_iff_eq.2 c15) ?_
   refine T.seq ?_
   refine T.region ?_
   refine TL.op1 (OpR.pure rfl) rfl ?_
   refine TL.nil ?_
   show T X _ _ _
   refine T.ret ?_
   obtain rfl := Option.some.inj h0
   exact PostG.retP (ks := []) (Gst.only [4] rfl) undef (ResL.cons (ResV.tmp rfl) ResL.nil) rfl rfl rfl rfl
 refine T.condF rfl (beq_eq_false_iff_ne.2 c15) ?_
 refine T.skip ?_
 show T X _ _ _
 refine T.seq ?_
 refine T.region ?_
 refine TL.op1 (OpR.pure rfl) rfl ?_
 refine TL.op1 (OpR.pure rfl) rfl ?_
 obtain ⟨x16, hx16, h0⟩ := bnd_some h0
 refine TL.op1 (OpR.call0 fn185 (ref30_class_c hx16) rfl) rfl ?_
 refine TL.op1 (OpR.pure rfl) rfl ?_
 refine TL.nil ?_
 show T X _ _ _
 refine T.seq ?_
 obtain ⟨t17, ht17, h0⟩ := bnd_some h0
 refine T.cutC (fun S' => S' = ⟨[(4, .val (.int .i64 0)), (1, .val (.int .i64 t17))], [], 35⟩) (fun _ h => h) ?_ ?_
 rotate_left
 · rintro _ rfl
   show T X _ _ _
   refine T.seq ?_
   refine T.region ?_
   refine TL.op1 (OpR.pure rfl) rfl ?_
   refine TL.op1 (OpR.pure rfl) rfl ?_
   refine TL.nil ?_
   show T X _ _ _
   refine T.ret ?_
   obtain rfl := Option.some.inj h0
   exact PostG.retP (ks := []) (Gst.only [4] rfl) undef (ResL.cons (ResV.tmp rfl) ResL.nil) rfl rfl rfl rfl
 refine T.block ?_
 obtain ⟨n19, n24⟩ := loop_some ht17
 refine T.loop (fun n S' => ∃ S'', Gst S' S'' ∧ ∃ s18 : Int, S'' = ⟨[(5, .val (.int .i64 x16)), (4, .val (.int .i64 0)), (1, .val (.int .i64 s18)), (0, .val (.string (bs a0)))], [], 35⟩ ∧ iter (ref30_word.l2 a0 x16) n s18 = some t17) n19 ?_ ?_
 · exact ⟨_, Gst.only [0, 1, 4, 5] rfl, t1, rfl, n24⟩
 rintro n19 _ ⟨_, g, s18, rfl, i23⟩
 refine T.ghost g ?_
 obtain ⟨m20, q21, rfl, q22, i23⟩ := iter_succ i23
 unfold ref30_word.l2 at q22
 refine T.seq ?_
 refine T.seq ?_
 obtain ⟨t26, ht26, q22⟩ := bnd_some q22
 refine T.cutC (fun S' => S' = ⟨[(30, .val (.bool t26)), (5, .val (.int .i64 x16)), (4, .val (.int .i64 0)), (1, .val (.int .i64 s18)), (0, .val (.string (bs a0)))], [], 35⟩) (fun _ h => h) ?_ ?_
 rotate_left
 · rintro _ rfl
   show T X _ _ _
   rcases ite_some q22 with ⟨c29, q22⟩ | ⟨c29, q22⟩
   rotate_left
   · refine T.condF rfl (eq_false_of_ne_true c29) ?_
     refine T.exit ?_
     obtain rfl := Option.some.inj q22
     obtain rfl : _ = _ := i23
     exact ⟨_, Gst.only [1, 4] rfl, rfl⟩
   refine T.condT rfl (c29) ?_
   refine T.skip ?_
   show T X _ _ _
   refine T.block ?_
   refine T.region ?_
   refine TL.op1 (OpR.pure rfl) rfl ?_
   refine TL.op1 (OpR.pure rfl) rfl ?_
   obtain ⟨x30, hx30, q22⟩ := bnd_some q22
   refine TL.op1 (OpR.call0 fn145 (ref01_Prev_c hx30) rfl) rfl ?_
   refine TL.op1 (OpR.pure rfl) rfl ?_
   refine TL.nil ?_
   obtain rfl := Option.some.inj q22
   exact ⟨m20, Nat.lt_succ_self _, _, Gst.only [0, 1, 4, 5] rfl, x30, rfl, i23⟩
 refine T.region ?_
 refine TL.op1 (OpR.pure rfl) rfl ?_
 refine TL.op1 (OpR.pure rfl) rfl ?_
 refine TL.op1 (OpR.pure rfl) rfl ?_
 rcases ite_some ht26 with ⟨c27, ht26⟩ | ⟨c27, ht26⟩
 rotate_left
 · refine TL.off rfl rfl rfl rfl (decide_eq_false c27) rfl rfl ?_
   refine TL.off rfl rfl rfl rfl (decide_eq_false c27) rfl rfl ?_
   refine TL.off rfl rfl rfl rfl (decide_eq_false c27) rfl rfl ?_
   refine TL.off rfl rfl rfl rfl (decide_eq_false c27) rfl rfl ?_
   refine TL.off rfl rfl rfl rfl (decide_eq_false c27) rfl rfl ?_
   refine TL.op1 (OpR.pickF rfl (decide_eq_false c27) rfl) rfl ?_
   refine TL.nil ?_
   obtain rfl := Option.some.inj ht26
   exact ⟨_, Gst.only [0, 1, 4, 5, 30] rfl, rfl⟩
 refine TL.on rfl rfl rfl rfl (decide_eq_true c27) ?_
 refine TL.op1 (OpR.pure rfl) rfl ?_
 refine TL.on rfl rfl rfl rfl (decide_eq_true c27) ?_
 refine TL.op1 (OpR.pure rfl) rfl ?_
 refine TL.on rfl rfl rfl rfl (decide_eq_true c27) ?_
 obtain ⟨x28, hx28, ht26⟩ := bnd_some ht26
 refine TL.op1 (OpR.call0 fn185 (ref30_class_c hx28) rfl) rfl ?_
 refine TL.on rfl rfl rfl rfl (decide_eq_true c27) ?_
 refine TL.op1 (OpR.pure rfl) rfl ?_
 refine TL.on rfl rfl rfl rfl (decide_eq_true c27) ?_
 refine TL.op1 (OpR.pure rfl) rfl ?_
 refine TL.op1 (OpR.pickT rfl (decide_eq_true c27) rfl) rfl ?_
 refine TL.nil ?_
 obtain rfl := Option.some.inj ht26
 exact ⟨_, Gst.only [0, 1, 4, 5, 30] rfl, rfl⟩
noncomputable def ref01_Next.l1 (a1 : Int) (x1 : (List Int)) (s4 : Int) : Option (Lp Int (Ex Unit Int)) :=
  if s4 < (x1.length : Int) then
    bnd (idx x1 s4) fun x13 =>
    if x13 > a1 then
      some (Lp.done (Ex.ret x13))
    else
      some (Lp.next (w64 (s4 + 1)))
  else
    some (Lp.done (Ex.brk ()))
noncomputable def ref01_Next (a0 : List UInt8) (a1 : Int) : Option Int :=
  bnd (ref01_Bounds a0) fun x1 =>
  bnd (loop (ref01_Next.l1 a1 x1) 0 : Option (Ex Unit Int)) fun t2 => match t2 with
    | .brk u3 =>
      some (a0.length : Int)
    | .ret u3 => some u3
set_option maxHeartbeats 4000000 in
theorem ref01_Next_c {a0 : List UInt8} {a1 : Int} {res : Int} (h0 : ref01_Next a0 a1 = some res) : CallF X 147 [.val (.string (bs a0)), .val (.int .i64 a1)] [] (fun x => .val (.int .i64 res)) (fun x => []) := by
 unfold ref01_Next at h0
 refine CallF.mkG (X := X) Try.func147 rfl rfl Try.ntmps147 rfl rfl ?_
 refine T.seq ?_
 refine T.region ?_
 refine TL.op1 (OpR.pure rfl) rfl ?_
 refine TL.nil ?_
 show T X _ _ _
 refine T.seq ?_
 refine T.seq ?_
 refine T.region ?_
 refine TL.op1 (OpR.pure rfl) rfl ?_
 obtain ⟨x1, hx1, h0⟩ := bnd_some h0
 refine TL.op1 (OpR.call0 fn148 (ref01_Bounds_c hx1) rfl) rfl ?_
 refine TL.op1 (OpR.cast (OpR.pure rfl) (intE (lenM _ _))) rfl ?_
 refine TL.op1 (OpR.pure rfl) rfl ?_
 refine TL.nil ?_
 show T X _ _ _
 obtain ⟨t2, ht2, h0⟩ := bnd_some h0
 refine T.cutC (fun S' => ∃ u3, t2 = Ex.brk u3 ∧ S' = ⟨[(4, .val (.int .i64 0)), (0, .val (.string (bs a0)))], [], 21⟩) (fun _ h => h) ?_ ?_
 rotate_left
 · rintro _ ⟨u3, rfl, rfl⟩
   show T X _ _ _
   refine T.seq ?_
   refine T.region ?_
   refine TL.op1 (OpR.pure rfl) rfl ?_
   refine TL.op1 (OpR.cast (OpR.pure rfl) (intE (lenS _))) rfl ?_
   refine TL.op1 (OpR.pure rfl) rfl ?_
   refine TL.nil ?_
   show T X _ _ _
   refine T.ret ?_
   obtain rfl := Option.some.inj h0
   exact PostG.retP (ks := []) (Gst.only [4] rfl) undef (ResL.cons (ResV.tmp rfl) ResL.nil) rfl rfl rfl rfl
 refine T.block ?_
 obtain ⟨n5, n10⟩ := loop_some ht2
 refine T.loop (fun n S' => ∃ S'', Gst S' S'' ∧ ∃ s4 : Int, S'' = ⟨[(10, .val (.int .i64 s4)), (9, .val (.int .i64 (x1.length : Int))), (8, .sl 1 (List.map (eI .i64) x1)), (4, .val (.int .i64 0)), (1, .val (.int .i64 a1)), (0, .val (.string (bs a0)))], [], 21⟩ ∧ iter (ref01_Next.l1 a1 x1) n s4 = some t2) n5 ?_ ?_
 · exact ⟨_, Gst.only [0, 1, 4, 8, 9, 10] rfl, 0, rfl, n10⟩
 rintro n5 _ ⟨_, g, s4, rfl, i9⟩
 refine T.ghost g ?_
 obtain ⟨m6, q7, rfl, q8, i9⟩ := iter_succ i9
 unfold ref01_Next.l1 at q8
 refine T.seq ?_
 refine T.region ?_
 refine TL.op1 (OpR.pure rfl) rfl ?_
 refine TL.nil ?_
 show T X _ _ _
 refine T.seq ?_
 rcases ite_some q8 with ⟨c12, q8⟩ | ⟨c12, q8⟩
 rotate_left
 · refine T.condF rfl (decide_eq_false c12) ?_
   refine T.exit ?_
   obtain rfl := Option.some.inj q8
   obtain rfl : _ = _ := i9
   exact ⟨_, Gst.only [0, 4] rfl, _, rfl, rfl⟩
 refine T.condT rfl (decide_eq_true c12) ?_
 refine T.skip ?_
 show T X _ _ _
 refine T.seq ?_
 refine T.block ?_
 refine T.seq ?_
 refine T.region ?_
 obtain ⟨x13, hx13, q8⟩ := bnd_some q8
 refine TL.op1 (OpR.indexM (eI .i64) hx13 rfl rfl rfl rfl rfl) rfl ?_
 refine TL.op1 (OpR.pure rfl) rfl ?_
 refine TL.op1 (OpR.pure rfl) rfl ?_
 refine TL.nil ?_
 show T X _ _ _
 refine T.seq ?_
 refine T.region ?_
 refine TL.op1 (OpR.pure rfl) rfl ?_
 refine TL.op1 (OpR.pure rfl) rfl ?_
 refine TL.op1 (OpR.pure rfl) rfl ?_
 refine TL.nil ?_
 show T X _ _ _
 rcases ite_some q8 with ⟨c14, q8⟩ | ⟨c14, q8⟩
 rotate_left
 · refine T.condF rfl (decide_eq_false c14) ?_
   refine T.skip ?_
   show T X _ _ _
   refine T.region ?_
   refine TL.op1 (OpR.pure rfl) rfl ?_
   refine TL.op1 (OpR.pure rfl) rfl ?_
   refine TL.nil ?_
   obtain rfl := Option.some.inj q8
   exact ⟨m6, Nat.lt_succ_self _, _, Gst.only [0, 1, 4, 8, 9, 10] rfl, w64 (s4 + 1), rfl, i9⟩
 refine T.condT rfl (decide_eq_true c14) ?_
 refine T.seq ?_
 refine T.region ?_
 refine TL.op1 (OpR.pure rfl) rfl ?_
 refine TL.op1 (OpR.pure rfl) rfl ?_
 refine TL.nil ?_
 show T X _ _ _
 refine T.ret ?_
 obtain rfl := Option.some.inj q8
 obtain rfl : _ = _ := i9
 obtain rfl := Option.some.inj h0
 exact PostG.retP (ks := []) (Gst.only [4] rfl) undef (ResL.cons (ResV.tmp rfl) ResL.nil) rfl rfl rfl rfl
noncomputable def ref30_Raw (a0 : ref30_Text) (a1 : Int) : Option (ref30_Text × Bool) :=
  bnd (ref30_Bound a0.fS a0.fAt) fun x3 =>
  bnd (cut a0.fS 0 x3) fun x5 =>
  bnd (cut a0.fS x3 (a0.fS.length : Int)) fun x6 =>
  bnd (bnd (ref22_Types a1) fun x8 =>
  if x8 = true then
    some true
  else
    some (a1 == 10) : Option Bool) fun t7 =>
  if t7 = true then
    bnd (ref01_Put a1) fun x12 =>
    bnd (catS x5 x12) fun x13 =>
    bnd (catS x13 x6) fun x14 =>
    bnd (ref01_Put a1) fun x15 =>
    some ((⟨x14, w64 (x3 + (x15.length : Int))⟩ : ref30_Text), true)
  else
    bnd (if a1 = 8 then
      bnd (ref01_Prev a0.fS x3) fun x18 =>
      some x18
    else
      some x3 : Option Int) fun t16 =>
    bnd (if a1 = 21 then
      some 0
    else
      some t16 : Option Int) fun t19 =>
    bnd (if a1 = 23 then
      bnd (ref30_word a0.fS x3) fun x23 =>
      some x23
    else
      some t19 : Option Int) fun t21 =>
    bnd (if a1 = 8 then
      some true
    else
      if a1 = 21 then
        some true
      else
        some (a1 == 23) : Option Bool) fun t24 =>
    if t24 = true then
      bnd (cut a0.fS 0 t21) fun x28 =>
      bnd (catS x28 x6) fun x29 =>
      some ((⟨x29, t21⟩ : ref30_Text), true)
    else
      if a1 = 127 then
        bnd (ref01_Next a0.fS x3) fun x32 =>
        bnd (cut a0.fS x32 (a0.fS.length : Int)) fun x33 =>
        bnd (catS x5 x33) fun x34 =>
        some ((⟨x34, x3⟩ : ref30_Text), true)
      else
        if a1 = (-1) then
          bnd (ref01_Prev a0.fS x3) fun x37 =>
          some ((⟨a0.fS, x37⟩ : ref30_Text), true)
        else
          if a1 = (-2) then
            bnd (ref01_Next a0.fS x3) fun x40 =>
            some ((⟨a0.fS, x40⟩ : ref30_Text), true)
          else
            if a1 = (-5) then
              some ((⟨a0.fS, 0⟩ : ref30_Text), true)
            else
              if a1 = (-6) then
                some ((⟨a0.fS, (a0.fS.length : Int)⟩ : ref30_Text), true)
              else
                some ((⟨a0.fS, x3⟩ : ref30_Text), false)
set_option maxHeartbeats 4000000 in
theorem ref30_Raw_c {a0 : ref30_Text} {a1 : Int} {res : ref30_Text × Bool} (h0 : ref30_Raw a0 a1 = some res) : CallF X 88 [.agg [.val (.string (bs a0.fS)), .val (.int .i64 a0.fAt)], .val (.int .i64 a1)] [] (fun x => .tup [.agg [.val (.string (bs res.1.fS)), .val (.int .i64 res.1.fAt)], .val (.bool res.2)]) (fun x => []) := by
 unfold ref30_Raw at h0
 refine CallF.mkG (X := X) Try.func88 rfl rfl Try.ntmps88 rfl rfl ?_
 refine T.seq ?_
 refine T.region ?_
 refine TL.op (OpR.boxVar rfl rfl (fun _ => rfl)) rfl (fun p1 => ?_)
 refine TL.op (OpR.alloc rfl rfl (fun _ => rfl)) rfl (fun p2 => ?_)
 refine TL.op1 (OpR.pure rfl) rfl ?_
 refine TL.nil ?_
 show T X _ _ _
 refine T.seq ?_
 refine T.region ?_
 refine TL.op1 (OpR.pure rfl) rfl ?_
 refine TL.op1 (OpR.loadPtr 0 rfl rfl rfl rfl) rfl ?_
 refine TL.op1 (OpR.pure rfl) rfl ?_
 refine TL.op1 (OpR.loadPtr 0 rfl rfl rfl rfl) rfl ?_
 obtain ⟨x3, hx3, h0⟩ := bnd_some h0
 refine TL.op1 (OpR.call0 fn89 (ref30_Bound_c hx3) rfl) rfl ?_
 refine TL.op1 (OpR.pure rfl) rfl ?_
 refine TL.op0 (OpR.store 0 rfl rfl rfl rfl rfl rfl rfl rfl) ?_
 refine TL.nil ?_
 show T X _ _ _
 refine T.seq ?_
 obtain ⟨x5, hx5, h0⟩ := bnd_some h0
 obtain ⟨x6, hx6, h0⟩ := bnd_some h0
 refine T.drawQ drawsX [.val (.pointer (some ⟨(blk p1), 0, none⟩)), .val (.string (bs a0.fS)), .val (.pointer (some ⟨(blk p1), 1, none⟩)), .val (.int .i64 x3), .val (.string (bs x5)), .val (.pointer (some ⟨(blk p1), 0, none⟩)), .val (.string (bs a0.fS)), .val (.pointer (some ⟨(blk p1), 1, none⟩)), .val (.int .i64 x3), .val (.string (bs x6)), .val (.string (bs x5)), .val (.string (bs x6))] [0, 1, 2, 4, 5, 6, 7, 9, 10, 11, 12, 13, 14, 15, 16, 17, 18, 19, 20, 21, 22, 23, 24] (by decide +kernel) rfl ?_ rfl ?_
 · refine OpsQ.yes (Want.plain rfl) rfl (OpR.pure rfl) ?_
   refine OpsQ.yes (Want.plain rfl) rfl (OpR.loadPtr 0 rfl rfl rfl rfl) ?_
   refine OpsQ.yes (Want.plain rfl) rfl (OpR.pure rfl) ?_
   refine OpsQ.yes (Want.plain rfl) rfl (OpR.loadPtr 0 rfl rfl rfl rfl) ?_
   refine OpsQ.yes (Want.plain rfl) rfl (OpR.sliceS hx5 rfl rfl rfl BdM.none (BdM.some rfl)) ?_
   refine OpsQ.yes (Want.plain rfl) rfl (OpR.pure rfl) ?_
   refine OpsQ.yes (Want.plain rfl) rfl (OpR.loadPtr 0 rfl rfl rfl rfl) ?_
   refine OpsQ.yes (Want.plain rfl) rfl (OpR.pure rfl) ?_
   refine OpsQ.yes (Want.plain rfl) rfl (OpR.loadPtr 0 rfl rfl rfl rfl) ?_
   refine OpsQ.yes (Want.plain rfl) rfl (OpR.sliceS hx6 rfl rfl rfl (BdM.some rfl) BdM.none) ?_
   refine OpsQ.yes (Want.plain rfl) rfl (OpR.pure rfl) ?_
   refine OpsQ.yes (Want.plain rfl) rfl (OpR.pure rfl) ?_
   exact OpsQ.nil
 show T X _ _ _
 refine T.seq ?_
 refine T.seq ?_
 obtain ⟨t7, ht7, h0⟩ := bnd_some h0
 refine T.cutC (fun S' => S' = ⟨[(30, .val (.bool t7)), (7, .val (.string (bs x6))), (6, .val (.string (bs x5))), (5, .val (.bool false)), (4, .val (.pointer (some ⟨(blk p2), 0, none⟩))), (2, .val (.pointer (some ⟨(blk p1), 0, none⟩))), (1, .val (.int .i64 a1))], [.var (blk p1) [.val (.string (bs a0.fS)), .val (.int .i64 x3)] 90, .var (blk p2) [.val (.string (bs [])), .val (.int .i64 0)] 90], 129⟩) (fun _ h => h) ?_ ?_
 · refine T.region ?_
   refine TL.op1 (OpR.pure rfl) rfl ?_
   obtain ⟨x8, hx8, ht7⟩ := bnd_some ht7
   refine TL.op1 (OpR.call0 fn143 (ref22_Types_c hx8) rfl) rfl ?_
   refine TL.op1 (OpR.pure rfl) rfl ?_
   rcases ite_some ht7 with ⟨c9, ht7⟩ | ⟨c9, ht7⟩
   · refine TL.off rfl rfl rfl rfl (c9) rfl rfl ?_
     refine TL.off rfl rfl rfl rfl (c9) rfl rfl ?_
     refine TL.op1 (OpR.pickT rfl (c9) rfl) rfl ?_
     refine TL.nil ?_
     obtain rfl := Option.some.inj ht7
     exact ⟨_, Gst.only [1, 2, 4, 5, 6, 7, 30] rfl, rfl⟩
   refine TL.on rfl rfl rfl rfl (eq_false_of_ne_true c9) ?_
   refine TL.op1 (OpR.pure rfl) rfl ?_
   refine TL.on rfl rfl rfl rfl (eq_false_of_ne_true c9) ?_
   refine TL.op1 (OpR.pure rfl) rfl ?_
   refine TL.op1 (OpR.pickF rfl (eq_false_of_ne_true c9) rfl) rfl ?_
   refine TL.nil ?_
   obtain rfl := Option.some.inj ht7
   exact ⟨_, Gst.only [1, 2, 4, 5, 6, 7, 30] rfl, rfl⟩
 rintro _ rfl
 show T X _ _ _
 rcases ite_some h0 with ⟨c10, h0⟩ | ⟨c10, h0⟩
 · refine T.condT rfl (c10) ?_
   refine T.seq ?_
   obtain ⟨x12, hx12, h0⟩ := bnd_some h0
   obtain ⟨x13, hx13, h0⟩ := bnd_some h0
   obtain ⟨x14, hx14, h0⟩ := bnd_some h0
   obtain ⟨x15, hx15, h0⟩ := bnd_some h0
   refine T.drawS drawsX (fun env11 => [.val (.string (bs x5)), .val (.int .i64 a1), .val (.string (bs x12)), .val (.string (bs x13)), .val (.string (bs x6)), .val (.string (bs x14)), .val (.pointer (some ⟨(blk p1), 1, none⟩)), .val (.int .i64 x3), .val (.int .i64 a1), .val (.string (bs x15)), .val (.int .i64 (x15.length : Int)), .val (.int .i64 (w64 (x3 + (x15.length : Int)))), .agg [.val (.string (bs x14)), .val (.int .i64 (w64 (x3 + (x15.length : Int))))], .dead, .val (.bool true)]) (fun D env11 => [.var (blk p1) [.val (.string (bs a0.fS)), .val (.int .i64 x3)] 90, (bif D 13 then .var (blk p2) [.val (.string (bs x14)), .val (.int .i64 (w64 (x3 + (x15.length : Int))))] 90 else .var (blk p2) [.val (.string (bs [])), .val (.int .i64 0)] 90)]) [0, 0, 2, 7, 0, 31, 0, 64, 0, 262, 774, 1990, 4095, 8191, 16383] [1, 2, 4, 5, 6, 7, 30, 31, 32, 33, 34, 35, 36, 37, 38, 39, 40, 41, 42, 43] (fun env11 => [.var (blk p1) [.val (.string (bs a0.fS)), .val (.int .i64 x3)] 90, .var (blk p2) [.val (.string (bs x14)), .val (.int .i64 (w64 (x3 + (x15.length : Int))))] 90]) (by decide +kernel) (by decide +kernel) (fun _ => rfl) (fun _ => rfl) ?_ (fun _ => rfl) (fun _ => rfl) ?_
   rotate_left
   · intro env11
     show T X _ _ _
     refine T.ret ?_
     obtain rfl := Option.some.inj h0
     exact PostG.retP (ks := []) (Gst.trans (Gst.only [4, 5] rfl) (Gst.pick [1] rfl rfl)) undef (ResL.cons (ResV.var 0 rfl rfl rfl rfl) (ResL.cons (ResV.tmp rfl) ResL.nil)) rfl rfl rfl rfl
   refine oS (d := .val (.string (bs x5))) (fun _ => Want.plain rfl) (fun _ => rfl) (fun _ _ _ => rfl) (fun _ _ => OpR.pure rfl) (fun _ _ _ _ _ _ _ => rfl) ?_
   refine oS (d := .val (.int .i64 a1)) (fun _ => Want.plain rfl) (fun _ => rfl) (fun _ _ _ => rfl) (fun _ _ => OpR.pure rfl) (fun _ _ _ _ _ _ _ => rfl) ?_
   refine oS (d := .val (.string (bs x12))) (fun _ => Want.plain rfl) (fun _ => rfl) (fun _ _ _ => rfl) (fun _ _ => OpR.call0 fn144 (ref01_Put_c hx12) rfl) (fun _ _ _ _ _ _ _ => rfl) ?_
   refine oS (d := .val (.string (bs x13))) (fun _ => Want.plain rfl) (fun _ => rfl) (fun _ _ _ => rfl) (fun _ _ => OpR.concatM hx13 rfl rfl) (fun _ _ _ _ _ _ _ => rfl) ?_
   refine oS (d := .val (.string (bs x6))) (fun _ => Want.plain rfl) (fun _ => rfl) (fun _ _ _ => rfl) (fun _ _ => OpR.pure rfl) (fun _ _ _ _ _ _ _ => rfl) ?_
   refine oS (d := .val (.string (bs x14))) (fun _ => Want.plain rfl) (fun _ => rfl) (fun _ _ _ => rfl) (fun _ _ => OpR.concatM hx14 rfl rfl) (fun _ _ _ _ _ _ _ => rfl) ?_
   refine oS (d := .val (.pointer (some ⟨(blk p1), 1, none⟩))) (fun _ => Want.plain rfl) (fun _ => rfl) (fun _ _ _ => rfl) (fun _ _ => OpR.pure rfl) (fun _ _ _ _ _ _ _ => rfl) ?_
   refine oS (d := .val (.int .i64 x3)) (fun _ => Want.plain rfl) (fun _ => rfl) (fun _ _ _ => rfl) (fun _ _ => OpR.loadPtr 0 rfl rfl rfl rfl) (fun _ _ _ _ _ _ _ => rfl) ?_
   refine oS (d := .val (.int .i64 a1)) (fun _ => Want.plain rfl) (fun _ => rfl) (fun _ _ _ => rfl) (fun _ _ => OpR.pure rfl) (fun _ _ _ _ _ _ _ => rfl) ?_
   refine oS (d := .val (.string (bs x15))) (fun _ => Want.plain rfl) (fun _ => rfl) (fun _ _ _ => rfl) (fun _ _ => OpR.call0 fn144 (ref01_Put_c hx15) rfl) (fun _ _ _ _ _ _ _ => rfl) ?_
   refine oS (d := .val (.int .i64 (x15.length : Int))) (fun _ => Want.plain rfl) (fun _ => rfl) (fun _ _ _ => rfl) (fun _ _ => OpR.cast (OpR.pure rfl) (intE (lenS _))) (fun _ _ _ _ _ _ _ => rfl) ?_
   refine oS (d := .val (.int .i64 (w64 (x3 + (x15.length : Int))))) (fun _ => Want.plain rfl) (fun _ => rfl) (fun _ _ _ => rfl) (fun _ _ => OpR.pure rfl) (fun _ _ _ _ _ _ _ => rfl) ?_
   refine oS (d := .agg [.val (.string (bs x14)), .val (.int .i64 (w64 (x3 + (x15.length : Int))))]) (fun _ => Want.plain rfl) (fun _ => rfl) (fun _ _ _ => rfl) (fun _ _ => OpR.build rfl rfl rfl rfl rfl) (fun _ _ _ _ _ _ _ => rfl) ?_
   refine OpsS.cons' true ?_ (fun _ _ _ _ _ _ _ => rfl) ?_
   · intro D env11 hA
     exact OpS.yes (o0 := [.var (blk p1) [.val (.string (bs a0.fS)), .val (.int .i64 x3)] 90, .var (blk p2) [.val (.string (bs [])), .val (.int .i64 0)] 90]) (o1 := fun x => [.var (blk p1) [.val (.string (bs a0.fS)), .val (.int .i64 x3)] 90, .var (blk p2) [.val (.string (bs x14)), .val (.int .i64 (w64 (x3 + (x15.length : Int))))] 90]) (d := fun x => .dead) (Want.plain rfl) (by first | rfl | simp only [hA.me, cond_true, cond_false, List.cons_append, List.nil_append, List.append_nil]) (fun x => by first | rfl | simp only [ins_self, upd_self, hA.me, cond_true, cond_false, List.cons_append, List.nil_append, List.append_nil]) (fun x => rfl) (OpR.store 1 rfl rfl rfl rfl rfl rfl rfl rfl)
   refine oS (d := .val (.bool true)) (fun _ => Want.plain rfl) (fun _ => rfl) (fun _ _ _ => rfl) (fun _ _ => OpR.pure rfl) (fun _ _ _ _ _ _ _ => rfl) ?_
   exact trivial
 refine T.condF rfl (eq_false_of_ne_true c10) ?_
 refine T.skip ?_
 show T X _ _ _
 refine T.seq ?_
 refine T.region ?_
 refine TL.op1 (OpR.pure rfl) rfl ?_
 refine TL.op1 (OpR.loadPtr 0 rfl rfl rfl rfl) rfl ?_
 refine TL.op1 (OpR.pure rfl) rfl ?_
 refine TL.nil ?_
 show T X _ _ _
 refine T.seq ?_
 refine T.seq ?_
 refine T.region ?_
 refine TL.op1 (OpR.pure rfl) rfl ?_
 refine TL.op1 (OpR.pure rfl) rfl ?_
 refine TL.nil ?_
 show T X _ _ _
 obtain ⟨t16, ht16, h0⟩ := bnd_some h0
 refine T.cutC (fun S' => S' = ⟨[(8, .val (.int .i64 t16)), (7, .val (.string (bs x6))), (6, .val (.string (bs x5))), (5, .val (.bool false)), (4, .val (.pointer (some ⟨(blk p2), 0, none⟩))), (2, .val (.pointer (some ⟨(blk p1), 0, none⟩))), (1, .val (.int .i64 a1))], [.var (blk p1) [.val (.string (bs a0.fS)), .val (.int .i64 x3)] 90, .var (blk p2) [.val (.string (bs [])), .val (.int .i64 0)] 90], 129⟩) (fun _ h => h) ?_ ?_
 · rcases ite_some ht16 with ⟨c17, ht16⟩ | ⟨c17, ht16⟩
   rotate_left
   · refine T.condF rfl (beq_eq_false_iff_ne.2 c17) ?_
     refine T.skip ?_
     obtain rfl := Option.some.inj ht16
     exact ⟨_, Gst.only [1, 2, 4, 5, 6, 7, 8] rfl, rfl⟩
   refine T.condT rfl (beq_iff_eq.2 c17) ?_
   refine T.region ?_
   refine TL.op1 (OpR.pure rfl) rfl ?_
   refine TL.op1 (OpR.loadPtr 0 rfl rfl rfl rfl) rfl ?_
   refine TL.op1 (OpR.pure rfl) rfl ?_
   refine TL.op1 (OpR.loadPtr 0 rfl rfl rfl rfl) rfl ?_
   obtain ⟨x18, hx18, ht16⟩ := bnd_some ht16
   refine TL.op1 (OpR.call0 fn145 (ref01_Prev_c hx18) rfl) rfl ?_
   refine TL.op1 (OpR.pure rfl) rfl ?_
   refine TL.nil ?_
   obtain rfl := Option.some.inj ht16
   exact ⟨_, Gst.only [1, 2, 4, 5, 6, 7, 8] rfl, rfl⟩
 rintro _ rfl
 show T X _ _ _
 refine T.seq ?_
 refine T.seq ?_
 refine T.region ?_
 refine TL.op1 (OpR.pure rfl) rfl ?_
 refine TL.op1 (OpR.pure rfl) rfl ?_
 refine TL.nil ?_
 show T X _ _ _
 obtain ⟨t19, ht19, h0⟩ := bnd_some h0
 refine T.cutC (fun S' => S' = ⟨[(8, .val (.int .i64 t19)), (7, .val (.string (bs x6))), (6, .val (.string (bs x5))), (5, .val (.bool false)), (4, .val (.pointer (some ⟨(blk p2), 0, none⟩))), (2, .val (.pointer (some ⟨(blk p1), 0, none⟩))), (1, .val (.int .i64 a1))], [.var (blk p1) [.val (.string (bs a0.fS)), .val (.int .i64 x3)] 90, .var (blk p2) [.val (.string (bs [])), .val (.int .i64 0)] 90], 129⟩) (fun _ h => h) ?_ ?_
 · rcases ite_some ht19 with ⟨c20, ht19⟩ | ⟨c20, ht19⟩
   rotate_left
   · refine T.condF rfl (beq_eq_false_iff_ne.2 c20) ?_
     refine T.skip ?_
     obtain rfl := Option.some.inj ht19
     exact ⟨_, Gst.only [1, 2, 4, 5, 6, 7, 8] rfl, rfl⟩
   refine T.condT rfl (beq_iff_eq.2 c20) ?_
   refine T.region ?_
   refine TL.op1 (OpR.pure rfl) rfl ?_
   refine TL.nil ?_
   obtain rfl := Option.some.inj ht19
   exact ⟨_, Gst.only [1, 2, 4, 5, 6, 7, 8] rfl, rfl⟩
 rintro _ rfl
 show T X _ _ _
 refine T.seq ?_
 refine T.seq ?_
 refine T.region ?_
 refine TL.op1 (OpR.pure rfl) rfl ?_
 refine TL.op1 (OpR.pure rfl) rfl ?_
 refine TL.nil ?_
 show T X _ _ _
 obtain ⟨t21, ht21, h0⟩ := bnd_some h0
 refine T.cutC (fun S' => S' = ⟨[(8, .val (.int .i64 t21)), (7, .val (.string (bs x6))), (6, .val (.string (bs x5))), (5, .val (.bool false)), (4, .val (.pointer (some ⟨(blk p2), 0, none⟩))), (2, .val (.pointer (some ⟨(blk p1), 0, none⟩))), (1, .val (.int .i64 a1))], [.var (blk p1) [.val (.string (bs a0.fS)), .val (.int .i64 x3)] 90, .var (blk p2) [.val (.string (bs [])), .val (.int .i64 0)] 90], 129⟩) (fun _ h => h) ?_ ?_
 · rcases ite_some ht21 with ⟨c22, ht21⟩ | ⟨c22, ht21⟩
   rotate_left
   · refine T.condF rfl (beq_eq_false_iff_ne.2 c22) ?_
     refine T.skip ?_
     obtain rfl := Option.some.inj ht21
     exact ⟨_, Gst.only [1, 2, 4, 5, 6, 7, 8] rfl, rfl⟩
   refine T.condT rfl (beq_iff_eq.2 c22) ?_
   refine T.region ?_
   refine TL.op1 (OpR.pure rfl) rfl ?_
   refine TL.op1 (OpR.loadPtr 0 rfl rfl rfl rfl) rfl ?_
   refine TL.op1 (OpR.pure rfl) rfl ?_
   refine TL.op1 (OpR.loadPtr 0 rfl rfl rfl rfl) rfl ?_
   obtain ⟨x23, hx23, ht21⟩ := bnd_some ht21
   refine TL.op1 (OpR.call0 fn146 (ref30_word_c hx23) rfl) rfl ?_
   refine TL.op1 (OpR.pure rfl) rfl ?_
   refine TL.nil ?_
   obtain rfl := Option.some.inj ht21
   exact ⟨_, Gst.only [1, 2, 4, 5, 6, 7, 8] rfl, rfl⟩
 rintro _ rfl
 show T X _ _ _
 refine T.seq ?_
 refine T.seq ?_
 obtain ⟨t24, ht24, h0⟩ := bnd_some h0
 refine T.cutC (fun S' => S' = ⟨[(71, .val (.bool t24)), (8, .val (.int .i64 t21)), (7, .val (.string (bs x6))), (6, .val (.string (bs x5))), (5, .val (.bool false)), (4, .val (.pointer (some ⟨(blk p2), 0, none⟩))), (2, .val (.pointer (some ⟨(blk p1), 0, none⟩))), (1, .val (.int .i64 a1))], [.var (blk p1) [.val (.string (bs a0.fS)), .val (.int .i64 x3)] 90, .var (blk p2) [.val (.string (bs [])), .val (.int .i64 0)] 90], 129⟩) (fun _ h => h) ?_ ?_
 · refine T.region ?_
   refine TL.op1 (OpR.pure rfl) rfl ?_
   refine TL.op1 (OpR.pure rfl) rfl ?_
   refine TL.op1 (OpR.pure rfl) rfl ?_
   rcases ite_some ht24 with ⟨c25, ht24⟩ | ⟨c25, ht24⟩
   · refine TL.off rfl rfl rfl rfl (beq_iff_eq.2 c25) rfl rfl ?_
     refine TL.off rfl rfl rfl rfl (beq_iff_eq.2 c25) rfl rfl ?_
     refine TL.op1 (OpR.pickT rfl (beq_iff_eq.2 c25) rfl) rfl ?_
     refine TL.op1 (OpR.pure rfl) rfl ?_
     refine TL.off rfl rfl rfl rfl rfl rfl rfl ?_
     refine TL.off rfl rfl rfl rfl rfl rfl rfl ?_
     refine TL.op1 (OpR.pickT rfl rfl rfl) rfl ?_
     refine TL.nil ?_
     obtain rfl := Option.some.inj ht24
     exact ⟨_, Gst.only [1, 2, 4, 5, 6, 7, 8, 71] rfl, rfl⟩
   refine TL.on rfl rfl rfl rfl (beq_eq_false_iff_ne.2 c25) ?_
   refine TL.op1 (OpR.pure rfl) rfl ?_
   refine TL.on rfl rfl rfl rfl (beq_eq_false_iff_ne.2 c25) ?_
   refine TL.op1 (OpR.pure rfl) rfl ?_
   refine TL.op1 (OpR.pickF rfl (beq_eq_false_iff_ne.2 c25) rfl) rfl ?_
   refine TL.op1 (OpR.pure rfl) rfl ?_
   rcases ite_some ht24 with ⟨c26, ht24⟩ | ⟨c26, ht24⟩
   · refine TL.off rfl rfl rfl rfl (beq_iff_eq.2 c26) rfl rfl ?_
     refine TL.off rfl rfl rfl rfl (beq_iff_eq.2 c26) rfl rfl ?_
     refine TL.op1 (OpR.pickT rfl (beq_iff_eq.2 c26) rfl) rfl ?_
     refine TL.nil ?_
     obtain rfl := Option.some.inj ht24
     exact ⟨_, Gst.only [1, 2, 4, 5, 6, 7, 8, 71] rfl, rfl⟩
   refine TL.on rfl rfl rfl rfl (beq_eq_false_iff_ne.2 c26) ?_
   refine TL.op1 (OpR.pure rfl) rfl ?_
   refine TL.on rfl rfl rfl rfl (beq_eq_false_iff_ne.2 c26) ?_
   refine TL.op1 (OpR.pure rfl) rfl ?_
   refine TL.op1 (OpR.pickF rfl (beq_eq_false_iff_ne.2 c26) rfl) rfl ?_
   refine TL.nil ?_
   obtain rfl := Option.some.inj ht24
   exact ⟨_, Gst.only [1, 2, 4, 5, 6, 7, 8, 71] rfl, rfl⟩
 rintro _ rfl
 show T X _ _ _
 rcases ite_some h0 with ⟨c27, h0⟩ | ⟨c27, h0⟩
 · refine T.condT rfl (c27) ?_
   refine T.seq ?_
   refine T.region ?_
   refine TL.op1 (OpR.pure rfl) rfl ?_
   refine TL.op1 (OpR.loadPtr 0 rfl rfl rfl rfl) rfl ?_
   refine TL.op1 (OpR.pure rfl) rfl ?_
   obtain ⟨x28, hx28, h0⟩ := bnd_some h0
   refine TL.op1 (OpR.sliceS hx28 rfl rfl rfl BdM.none (BdM.some rfl)) rfl ?_
   refine TL.op1 (OpR.pure rfl) rfl ?_
   obtain ⟨x29, hx29, h0⟩ := bnd_some h0
   refine TL.op1 (OpR.concatM hx29 rfl rfl) rfl ?_
   refine TL.op1 (OpR.pure rfl) rfl ?_
   refine TL.op1 (OpR.build rfl rfl rfl rfl rfl) rfl ?_
   refine TL.op0 (OpR.store 1 rfl rfl rfl rfl rfl rfl rfl rfl) ?_
   refine TL.op1 (OpR.pure rfl) rfl ?_
   refine TL.nil ?_
   show T X _ _ _
   refine T.ret ?_
   obtain rfl := Option.some.inj h0
   exact PostG.retP (ks := []) (Gst.trans (Gst.only [4, 5] rfl) (Gst.pick [1] rfl rfl)) undef (ResL.cons (ResV.var 0 rfl rfl rfl rfl) (ResL.cons (ResV.tmp rfl) ResL.nil)) rfl rfl rfl rfl
 refine T.condF rfl (eq_false_of_ne_true c27) ?_
 refine T.skip ?_
 show T X _ _ _
 refine T.seq ?_
 refine T.seq ?_
 refine T.region ?_
 refine TL.op1 (OpR.pure rfl) rfl ?_
 refine TL.op1 (OpR.pure rfl) rfl ?_
 refine TL.nil ?_
 show T X _ _ _
 rcases ite_some h0 with ⟨c30, h0⟩ | ⟨c30, h0⟩
 · refine T.condT rfl (beq_iff_eq.2 c30) ?_
   refine T.seq ?_
   obtain ⟨x32, hx32, h0⟩ := bnd_some h0
   obtain ⟨x33, hx33, h0⟩ := bnd_some h0
   obtain ⟨x34, hx34, h0⟩ := bnd_some h0
   refine T.drawS drawsX (fun env31 => [.val (.string (bs x5)), .val (.pointer (some ⟨(blk p1), 0, none⟩)), .val (.string (bs a0.fS)), .val (.pointer (some ⟨(blk p1), 0, none⟩)), .val (.string (bs a0.fS)), .val (.pointer (some ⟨(blk p1), 1, none⟩)), .val (.int .i64 x3), .val (.int .i64 x32), .val (.string (bs x33)), .val (.string (bs x34)), .val (.pointer (some ⟨(blk p1), 1, none⟩)), .val (.int .i64 x3), .agg [.val (.string (bs x34)), .val (.int .i64 x3)], .dead, .val (.bool true)]) (fun D env31 => [.var (blk p1) [.val (.string (bs a0.fS)), .val (.int .i64 x3)] 90, (bif D 13 then .var (blk p2) [.val (.string (bs x34)), .val (.int .i64 x3)] 90 else .var (blk p2) [.val (.string (bs [])), .val (.int .i64 0)] 90)]) [0, 0, 2, 0, 8, 0, 32, 120, 254, 511, 0, 1024, 4095, 8191, 16383] [1, 2, 4, 5, 6, 7, 8, 71, 80, 81, 82, 83, 84, 85, 86, 87, 88, 89, 90, 91, 92, 93, 94] (fun env31 => [.var (blk p1) [.val (.string (bs a0.fS)), .val (.int .i64 x3)] 90, .var (blk p2) [.val (.string (bs x34)), .val (.int .i64 x3)] 90]) (by decide +kernel) (by decide +kernel) (fun _ => rfl) (fun _ => rfl) ?_ (fun _ => rfl) (fun _ => rfl) ?_
   rotate_left
   · intro env31
     show T X _ _ _
     refine T.ret ?_
     obtain rfl := Option.some.inj h0
     exact PostG.retP (ks := []) (Gst.trans (Gst.only [4, 5] rfl) (Gst.pick [1] rfl rfl)) undef (ResL.cons (ResV.var 0 rfl rfl rfl rfl) (ResL.cons (ResV.tmp rfl) ResL.nil)) rfl rfl rfl rfl
   refine oS (d := .val (.string (bs x5))) (fun _ => Want.plain rfl) (fun _ => rfl) (fun _ _ _ => rfl) (fun _ _ => OpR.pure rfl) (fun _ _ _ _ _ _ _ => rfl) ?_
   refine oS (d := .val (.pointer (some ⟨(blk p1), 0, none⟩))) (fun _ => Want.plain rfl) (fun _ => rfl) (fun _ _ _ => rfl) (fun _ _ => OpR.pure rfl) (fun _ _ _ _ _ _ _ => rfl) ?_
   refine oS (d := .val (.string (bs a0.fS))) (fun _ => Want.plain rfl) (fun _ => rfl) (fun _ _ _ => rfl) (fun _ _ => OpR.loadPtr 0 rfl rfl rfl rfl) (fun _ _ _ _ _ _ _ => rfl) ?_
   refine oS (d := .val (.pointer (some ⟨(blk p1), 0, none⟩))) (fun _ => Want.plain rfl) (fun _ => rfl) (fun _ _ _ => rfl) (fun _ _ => OpR.pure rfl) (fun _ _ _ _ _ _ _ => rfl) ?_
   refine oS (d := .val (.string (bs a0.fS))) (fun _ => Want.plain rfl) (fun _ => rfl) (fun _ _ _ => rfl) (fun _ _ => OpR.loadPtr 0 rfl rfl rfl rfl) (fun _ _ _ _ _ _ _ => rfl) ?_
   refine oS (d := .val (.pointer (some ⟨(blk p1), 1, none⟩))) (fun _ => Want.plain rfl) (fun _ => rfl) (fun _ _ _ => rfl) (fun _ _ => OpR.pure rfl) (fun _ _ _ _ _ _ _ => rfl) ?_
   refine oS (d := .val (.int .i64 x3)) (fun _ => Want.plain rfl) (fun _ => rfl) (fun _ _ _ => rfl) (fun _ _ => OpR.loadPtr 0 rfl rfl rfl rfl) (fun _ _ _ _ _ _ _ => rfl) ?_
   refine oS (d := .val (.int .i64 x32)) (fun _ => Want.plain rfl) (fun _ => rfl) (fun _ _ _ => rfl) (fun _ _ => OpR.call0 fn147 (ref01_Next_c hx32) rfl) (fun _ _ _ _ _ _ _ => rfl) ?_
   refine oS (d := .val (.string (bs x33))) (fun _ => Want.plain rfl) (fun _ => rfl) (fun _ _ _ => rfl) (fun _ _ => OpR.sliceS hx33 rfl rfl rfl (BdM.some rfl) BdM.none) (fun _ _ _ _ _ _ _ => rfl) ?_
   refine oS (d := .val (.string (bs x34))) (fun _ => Want.plain rfl) (fun _ => rfl) (fun _ _ _ => rfl) (fun _ _ => OpR.concatM hx34 rfl rfl) (fun _ _ _ _ _ _ _ => rfl) ?_
   refine oS (d := .val (.pointer (some ⟨(blk p1), 1, none⟩))) (fun _ => Want.plain rfl) (fun _ => rfl) (fun _ _ _ => rfl) (fun _ _ => OpR.pure rfl) (fun _ _ _ _ _ _ _ => rfl) ?_
   refine oS (d := .val (.int .i64 x3)) (fun _ => Want.plain rfl) (fun _ => rfl) (fun _ _ _ => rfl) (fun _ _ => OpR.loadPtr 0 rfl rfl rfl rfl) (fun _ _ _ _ _ _ _ => rfl) ?_
   refine oS (d := .agg [.val (.string (bs x34)), .val (.int .i64 x3)]) (fun _ => Want.plain rfl) (fun _ => rfl) (fun _ _ _ => rfl) (fun _ _ => OpR.build rfl rfl rfl rfl rfl) (fun _ _ _ _ _ _ _ => rfl) ?_
   refine OpsS.cons' true ?_ (fun _ _ _ _ _ _ _ => rfl) ?_
   · intro D env31 hA
     exact OpS.yes (o0 := [.var (blk p1) [.val (.string (bs a0.fS)), .val (.int .i64 x3)] 90, .var (blk p2) [.val (.string (bs [])), .val (.int .i64 0)] 90]) (o1 := fun x => [.var (blk p1) [.val (.string (bs a0.fS)), .val (.int .i64 x3)] 90, .var (blk p2) [.val (.string (bs x34)), .val (.int .i64 x3)] 90]) (d := fun x => .dead) (Want.plain rfl) (by first | rfl | simp only [hA.me, cond_true, cond_false, List.cons_append, List.nil_append, List.append_nil]) (fun x => by first | rfl | simp only [ins_self, upd_self, hA.me, cond_true, cond_false, List.cons_append, List.nil_append, List.append_nil]) (fun x => rfl) (OpR.store 1 rfl rfl rfl rfl rfl rfl rfl rfl)
   refine oS (d := .val (.bool true)) (fun _ => Want.plain rfl) (fun _ => rfl) (fun _ _ _ => rfl) (fun _ _ => OpR.pure rfl) (fun _ _ _ _ _ _ _ => rfl) ?_
   exact trivial
 refine T.condF rfl (beq_eq_false_iff_ne.2 c30) ?_
 refine T.skip ?_
 show T X _ _ _
 refine T.seq ?_
 refine T.seq ?_
 refine T.region ?_
 refine TL.op1 (OpR.pure rfl) rfl ?_
 refine TL.op1 (OpR.pure rfl) rfl ?_
 refine TL.nil ?_
 show T X _ _ _
 rcases ite_some h0 with ⟨c35, h0⟩ | ⟨c35, h0⟩
 · refine T.condT rfl (beq_iff_eq.2 c35) ?_
   refine T.seq ?_
   obtain ⟨x37, hx37, h0⟩ := bnd_some h0
   refine T.drawS drawsX (fun env36 => [.val (.pointer (some ⟨(blk p1), 0, none⟩)), .val (.string (bs a0.fS)), .val (.pointer (some ⟨(blk p1), 0, none⟩)), .val (.string (bs a0.fS)), .val (.pointer (some ⟨(blk p1), 1, none⟩)), .val (.int .i64 x3), .val (.int .i64 x37), .agg [.val (.string (bs a0.fS)), .val (.int .i64 x37)], .dead, .val (.bool true)]) (fun D env36 => [.var (blk p1) [.val (.string (bs a0.fS)), .val (.int .i64 x3)] 90, (bif D 8 then .var (blk p2) [.val (.string (bs a0.fS)), .val (.int .i64 x37)] 90 else .var (blk p2) [.val (.string (bs [])), .val (.int .i64 0)] 90)]) [0, 1, 0, 4, 0, 16, 60, 127, 255, 511] [1, 2, 4, 5, 6, 7, 8, 71, 80, 81, 95, 96, 97, 98, 99, 100, 101, 102, 103, 104] (fun env36 => [.var (blk p1) [.val (.string (bs a0.fS)), .val (.int .i64 x3)] 90, .var (blk p2) [.val (.string (bs a0.fS)), .val (.int .i64 x37)] 90]) (by decide +kernel) (by decide +kernel) (fun _ => rfl) (fun _ => rfl) ?_ (fun _ => rfl) (fun _ => rfl) ?_
   rotate_left
   · intro env36
     show T X _ _ _
     refine T.ret ?_
     obtain rfl := Option.some.inj h0
     exact PostG.retP (ks := []) (Gst.trans (Gst.only [4, 5] rfl) (Gst.pick [1] rfl rfl)) undef (ResL.cons (ResV.var 0 rfl rfl rfl rfl) (ResL.cons (ResV.tmp rfl) ResL.nil)) rfl rfl rfl rfl
   refine oS (d := .val (.pointer (some ⟨(blk p1), 0, none⟩))) (fun _ => Want.plain rfl) (fun _ => rfl) (fun _ _ _ => rfl) (fun _ _ => OpR.pure rfl) (fun _ _ _ _ _ _ _ => rfl) ?_
   refine oS (d := .val (.string (bs a0.fS))) (fun _ => Want.plain rfl) (fun _ => rfl) (fun _ _ _ => rfl) (fun _ _ => OpR.loadPtr 0 rfl rfl rfl rfl) (fun _ _ _ _ _ _ _ => rfl) ?_
   refine oS (d := .val (.pointer (some ⟨(blk p1), 0, none⟩))) (fun _ => Want.plain rfl) (fun _ => rfl) (fun _ _ _ => rfl) (fun _ _ => OpR.pure rfl) (fun _ _ _ _ _ _ _ => rfl) ?_
   refine oS (d := .val (.string (bs a0.fS))) (fun _ => Want.plain rfl) (fun _ => rfl) (fun _ _ _ => rfl) (fun _ _ => OpR.loadPtr 0 rfl rfl rfl rfl) (fun _ _ _ _ _ _ _ => rfl) ?_
   refine oS (d := .val (.pointer (some ⟨(blk p1), 1, none⟩))) (fun _ => Want.plain rfl) (fun _ => rfl) (fun _ _ _ => rfl) (fun _ _ => OpR.pure rfl) (fun _ _ _ _ _ _ _ => rfl) ?_
   refine oS (d := .val (.int .i64 x3)) (fun _ => Want.plain rfl) (fun _ => rfl) (fun _ _ _ => rfl) (fun _ _ => OpR.loadPtr 0 rfl rfl rfl rfl) (fun _ _ _ _ _ _ _ => rfl) ?_
   refine oS (d := .val (.int .i64 x37)) (fun _ => Want.plain rfl) (fun _ => rfl) (fun _ _ _ => rfl) (fun _ _ => OpR.call0 fn145 (ref01_Prev_c hx37) rfl) (fun _ _ _ _ _ _ _ => rfl) ?_
   refine oS (d := .agg [.val (.string (bs a0.fS)), .val (.int .i64 x37)]) (fun _ => Want.plain rfl) (fun _ => rfl) (fun _ _ _ => rfl) (fun _ _ => OpR.build rfl rfl rfl rfl rfl) (fun _ _ _ _ _ _ _ => rfl) ?_
   refine OpsS.cons' true ?_ (fun _ _ _ _ _ _ _ => rfl) ?_
   · intro D env36 hA
     exact OpS.yes (o0 := [.var (blk p1) [.val (.string (bs a0.fS)), .val (.int .i64 x3)] 90, .var (blk p2) [.val (.string (bs [])), .val (.int .i64 0)] 90]) (o1 := fun x => [.var (blk p1) [.val (.string (bs a0.fS)), .val (.int .i64 x3)] 90, .var (blk p2) [.val (.string (bs a0.fS)), .val (.int .i64 x37)] 90]) (d := fun x => .dead) (Want.plain rfl) (by first | rfl | simp only [hA.me, cond_true, cond_false, List.cons_append, List.nil_append, List.append_nil]) (fun x => by first | rfl | simp only [ins_self, upd_self, hA.me, cond_true, cond_false, List.cons_append, List.nil_append, List.append_nil]) (fun x => rfl) (OpR.store 1 rfl rfl rfl rfl rfl rfl rfl rfl)
   refine oS (d := .val (.bool true)) (fun _ => Want.plain rfl) (fun _ => rfl) (fun _ _ _ => rfl) (fun _ _ => OpR.pure rfl) (fun _ _ _ _ _ _ _ => rfl) ?_
   exact trivial
 refine T.condF rfl (beq_eq_false_iff_ne.2 c35) ?_
 refine T.skip ?_
 show T X _ _ _
 refine T.seq ?_
 refine T.seq ?_
 refine T.region ?_
 refine TL.op1 (OpR.pure rfl) rfl ?_
 refine TL.op1 (OpR.pure rfl) rfl ?_
 refine TL.nil ?_
 show T X _ _ _
 rcases ite_some h0 with ⟨c38, h0⟩ | ⟨c38, h0⟩
 rotate_left
 · refine T.condF rfl (beq_eq_false_iff_ne.2 c38) ?_
   refine T.skip ?_
   show T X _ _ _
   refine T.seq ?_
   refine T.seq ?_
   refine T.region ?_
   refine TL.op1 (OpR.pure rfl) rfl ?_
   refine TL.op1 (OpR.pure rfl) rfl ?_
   refine TL.nil ?_
   show T X _ _ _
   rcases ite_some h0 with ⟨c41, h0⟩ | ⟨c41, h0⟩
   · refine T.condT rfl (beq_iff_eq.2 c41) ?_
     refine T.seq ?_
     refine T.region ?_
     refine TL.op1 (OpR.pure rfl) rfl ?_
     refine TL.op1 (OpR.loadPtr 0 rfl rfl rfl rfl) rfl ?_
     refine TL.op1 (OpR.build rfl rfl rfl rfl rfl) rfl ?_
     refine TL.op0 (OpR.store 1 rfl rfl rfl rfl rfl rfl rfl rfl) ?_
     refine TL.op1 (OpR.pure rfl) rfl ?_
     refine TL.nil ?_
     show T X _ _ _
     refine T.ret ?_
     obtain rfl := Option.some.inj h0
     exact PostG.retP (ks := []) (Gst.trans (Gst.only [4, 5] rfl) (Gst.pick [1] rfl rfl)) undef (ResL.cons (ResV.var 0 rfl rfl rfl rfl) (ResL.cons (ResV.tmp rfl) ResL.nil)) rfl rfl rfl rfl
   refine T.condF rfl (beq_eq_false_iff_ne.2 c41) ?_
   refine T.skip ?_
   show T X _ _ _
   refine T.seq ?_
   refine T.seq ?_
   refine T.region ?_
   refine TL.op1 (OpR.pure rfl) rfl ?_
   refine TL.op1 (OpR.pure rfl) rfl ?_
   refine TL.nil ?_
   show T X _ _ _
   rcases ite_some h0 with ⟨c42, h0⟩ | ⟨c42, h0⟩
   rotate_left
   · refine T.condF rfl (beq_eq_false_iff_ne.2 c42) ?_
     refine T.skip ?_
     show T X _ _ _
     refine T.seq ?_
     refine T.region ?_
     refine TL.op1 (OpR.loadPtr 0 rfl rfl rfl rfl) rfl ?_
     refine TL.op0 (OpR.store 1 rfl rfl rfl rfl rfl rfl rfl rfl) ?_
     refine TL.op1 (OpR.pure rfl) rfl ?_
     refine TL.nil ?_
     show T X _ _ _
     refine T.ret ?_
     obtain rfl := Option.some.inj h0
     exact PostG.retP (ks := []) (Gst.trans (Gst.only [4, 5] rfl) (Gst.pick [1] rfl rfl)) undef (ResL.cons (ResV.var 0 rfl rfl rfl rfl) (ResL.cons (ResV.tmp rfl) ResL.nil)) rfl rfl rfl rfl
   refine T.condT rfl (beq_iff_eq.2 c42) ?_
   refine T.seq ?_
   refine T.region ?_
   refine TL.op1 (OpR.pure rfl) rfl ?_
   refine TL.op1 (OpR.loadPtr 0 rfl rfl rfl rfl) rfl ?_
   refine TL.op1 (OpR.pure rfl) rfl ?_
   refine TL.op1 (OpR.loadPtr 0 rfl rfl rfl rfl) rfl ?_
   refine TL.op1 (OpR.cast (OpR.pure rfl) (intE (lenS _))) rfl ?_
   refine TL.op1 (OpR.build rfl rfl rfl rfl rfl) rfl ?_
   refine TL.op0 (OpR.store 1 rfl rfl rfl rfl rfl rfl rfl rfl) ?_
   refine TL.op1 (OpR.pure rfl) rfl ?_
   refine TL.nil ?_
   show T X _ _ _
   refine T.ret ?_
   obtain rfl := Option.some.inj h0
   exact PostG.retP (ks := []) (Gst.trans (Gst.only [4, 5] rfl) (Gst.pick [1] rfl rfl)) undef (ResL.cons (ResV.var 0 rfl rfl rfl rfl) (ResL.cons (ResV.tmp rfl) ResL.nil)) rfl rfl rfl rfl
 refine T.condT rfl (beq_iff_eq.2 c38) ?_
 refine T.seq ?_
 obtain ⟨x40, hx40, h0⟩ := bnd_some h0
 refine T.drawS drawsX (fun env39 => [.val (.pointer (some ⟨(blk p1), 0, none⟩)), .val (.string (bs a0.fS)), .val (.pointer (some ⟨(blk p1), 0, none⟩)), .val (.string (bs a0.fS)), .val (.pointer (some ⟨(blk p1), 1, none⟩)), .val (.int .i64 x3), .val (.int .i64 x40), .agg [.val (.string (bs a0.fS)), .val (.int .i64 x40)], .dead, .val (.bool true)]) (fun D env39 => [.var (blk p1) [.val (.string (bs a0.fS)), .val (.int .i64 x3)] 90, (bif D 8 then .var (blk p2) [.val (.string (bs a0.fS)), .val (.int .i64 x40)] 90 else .var (blk p2) [.val (.string (bs [])), .val (.int .i64 0)] 90)]) [0, 1, 0, 4, 0, 16, 60, 127, 255, 511] [1, 2, 4, 5, 6, 7, 8, 71, 80, 81, 95, 96, 105, 106, 107, 108, 109, 110, 111, 112, 113, 114] (fun env39 => [.var (blk p1) [.val (.string (bs a0.fS)), .val (.int .i64 x3)] 90, .var (blk p2) [.val (.string (bs a0.fS)), .val (.int .i64 x40)] 90]) (by decide +kernel) (by decide +kernel) (fun _ => rfl) (fun _ => rfl) ?_ (fun _ => rfl) (fun _ => rfl) ?_
 rotate_left
 · intro env39
   show T X _ _ _
   refine T.ret ?_
   obtain rfl := Option.some.inj h0
   exact PostG.retP (ks := []) (Gst.trans (Gst.only [4, 5] rfl) (Gst.pick [1] rfl rfl)) undef (ResL.cons (ResV.var 0 rfl rfl rfl rfl) (ResL.cons (ResV.tmp rfl) ResL.nil)) rfl rfl rfl rfl
 refine oS (d := .val (.pointer (some ⟨(blk p1), 0, none⟩))) (fun _ => Want.plain rfl) (fun _ => rfl) (fun _ _ _ => rfl) (fun _ _ => OpR.pure rfl) (fun _ _ _ _ _ _ _ => rfl) ?_
 refine oS (d := .val (.string (bs a0.fS))) (fun _ => Want.plain rfl) (fun _ => rfl) (fun _ _ _ => rfl) (fun _ _ => OpR.loadPtr 0 rfl rfl rfl rfl) (fun _ _ _ _ _ _ _ => rfl) ?_
 refine oS (d := .val (.pointer (some ⟨(blk p1), 0, none⟩))) (fun _ => Want.plain rfl) (fun _ => rfl) (fun _ _ _ => rfl) (fun _ _ => OpR.pure rfl) (fun _ _ _ _ _ _ _ => rfl) ?_
 refine oS (d := .val (.string (bs a0.fS))) (fun _ => Want.plain rfl) (fun _ => rfl) (fun _ _ _ => rfl) (fun _ _ => OpR.loadPtr 0 rfl rfl rfl rfl) (fun _ _ _ _ _ _ _ => rfl) ?_
 refine oS (d := .val (.pointer (some ⟨(blk p1), 1, none⟩))) (fun _ => Want.plain rfl) (fun _ => rfl) (fun _ _ _ => rfl) (fun _ _ => OpR.pure rfl) (fun _ _ _ _ _ _ _ => rfl) ?_
 refine oS (d := .val (.int .i64 x3)) (fun _ => Want.plain rfl) (fun _ => rfl) (fun _ _ _ => rfl) (fun _ _ => OpR.loadPtr 0 rfl rfl rfl rfl) (fun _ _ _ _ _ _ _ => rfl) ?_
 refine oS (d := .val (.int .i64 x40)) (fun _ => Want.plain rfl) (fun _ => rfl) (fun _ _ _ => rfl) (fun _ _ => OpR.call0 fn147 (ref01_Next_c hx40) rfl) (fun _ _ _ _ _ _ _ => rfl) ?_
 refine oS (d := .agg [.val (.string (bs a0.fS)), .val (.int .i64 x40)]) (fun _ => Want.plain rfl) (fun _ => rfl) (fun _ _ _ => rfl) (fun _ _ => OpR.build rfl rfl rfl rfl rfl) (fun _ _ _ _ _ _ _ => rfl) ?_
 refine OpsS.cons' true ?_ (fun _ _ _ _ _ _ _ => rfl) ?_
 · intro D env39 hA
   exact OpS.yes (o0 := [.var (blk p1) [.val (.string (bs a0.fS)), .val (.int .i64 x3)] 90, .var (blk p2) [.val (.string (bs [])), .val (.int .i64 0)] 90]) (o1 := fun x => [.var (blk p1) [.val (.string (bs a0.fS)), .val (.int .i64 x3)] 90, .var (blk p2) [.val (.string (bs a0.fS)), .val (.int .i64 x40)] 90]) (d := fun x => .dead) (Want.plain rfl) (by first | rfl | simp only [hA.me, cond_true, cond_false, List.cons_append, List.nil_append, List.append_nil]) (fun x => by first | rfl | simp only [ins_self, upd_self, hA.me, cond_true, cond_false, List.cons_append, List.nil_append, List.append_nil]) (fun x => rfl) (OpR.store 1 rfl rfl rfl rfl rfl rfl rfl rfl)
 refine oS (d := .val (.bool true)) (fun _ => Want.plain rfl) (fun _ => rfl) (fun _ _ _ => rfl) (fun _ _ => OpR.pure rfl) (fun _ _ _ _ _ _ _ => rfl) ?_
 exact trivial
noncomputable def ref30_Key (a0 : ref30_Text) (a1 : Int) : Option (ref30_Text × Bool) :=
  bnd (ref30_Raw a0 a1) fun x2 =>
  bnd (ref30_Bound x2.1.fS x2.1.fAt) fun x4 =>
  some ((⟨x2.1.fS, x4⟩ : ref30_Text), x2.2)
set_option maxHeartbeats 4000000 in
theorem ref30_Key_c {a0 : ref30_Text} {a1 : Int} {res : ref30_Text × Bool} (h0 : ref30_Key a0 a1 = some res) : CallF X 44 [.agg [.val (.string (bs a0.fS)), .val (.int .i64 a0.fAt)], .val (.int .i64 a1)] [] (fun x => .tup [.agg [.val (.string (bs res.1.fS)), .val (.int .i64 res.1.fAt)], .val (.bool res.2)]) (fun x => []) := by
 unfold ref30_Key at h0
 refine CallF.mkG (X := X) Try.func44 rfl rfl Try.ntmps44 rfl rfl ?_
 refine T.seq ?_
 refine T.region ?_
 refine TL.op1 (OpR.boxImm rfl rfl) rfl ?_
 refine TL.op (OpR.alloc rfl rfl (fun _ => rfl)) rfl (fun p1 => ?_)
 refine TL.op1 (OpR.pure rfl) rfl ?_
 refine TL.nil ?_
 show T X _ _ _
 refine T.seq ?_
 refine T.region ?_
 refine TL.op1 (OpR.pure rfl) rfl ?_
 refine TL.op1 (OpR.pure rfl) rfl ?_
 obtain ⟨x2, hx2, h0⟩ := bnd_some h0
 refine TL.op1 (OpR.call0 fn88 (ref30_Raw_c hx2) rfl) rfl ?_
 refine TL.op1 (OpR.pure rfl) rfl ?_
 refine TL.op1 (OpR.pure rfl) rfl ?_
 refine TL.op1 (OpR.pure rfl) rfl ?_
 refine TL.op (OpR.alloc rfl rfl (fun _ => rfl)) rfl (fun p3 => ?_)
 refine TL.op0 (OpR.store 1 rfl rfl rfl rfl rfl rfl rfl rfl) ?_
 refine TL.op1 (OpR.pure rfl) rfl ?_
 refine TL.nil ?_
 show T X _ _ _
 refine T.seq ?_
 refine T.region ?_
 refine TL.op1 (OpR.pure rfl) rfl ?_
 refine TL.op1 (OpR.loadPtr 1 rfl rfl rfl rfl) rfl ?_
 refine TL.op1 (OpR.pure rfl) rfl ?_
 refine TL.op1 (OpR.loadPtr 1 rfl rfl rfl rfl) rfl ?_
 obtain ⟨x4, hx4, h0⟩ := bnd_some h0
 refine TL.op1 (OpR.call0 fn89 (ref30_Bound_c hx4) rfl) rfl ?_
 refine TL.op1 (OpR.pure rfl) rfl ?_
 refine TL.op0 (OpR.store 1 rfl rfl rfl rfl rfl rfl rfl rfl) ?_
 refine TL.nil ?_
 show T X _ _ _
 refine T.seq ?_
 refine T.region ?_
 refine TL.op1 (OpR.loadPtr 1 rfl rfl rfl rfl) rfl ?_
 refine TL.op1 (OpR.pure rfl) rfl ?_
 refine TL.op0 (OpR.store 0 rfl rfl rfl rfl rfl rfl rfl rfl) ?_
 refine TL.op1 (OpR.pure rfl) rfl ?_
 refine TL.nil ?_
 show T X _ _ _
 refine T.ret ?_
 obtain rfl := Option.some.inj h0
 exact PostG.retP (ks := []) (Gst.trans (Gst.only [4, 5] rfl) (Gst.pick [0] rfl rfl)) undef (ResL.cons (ResV.var 0 rfl rfl rfl rfl) (ResL.cons (ResV.tmp rfl) ResL.nil)) rfl rfl rfl rfl
noncomputable def slices_Equal_arena_Span_arena_Span.l1 (a0 : List arena_Span) (a1 : List arena_Span) (s4 : Int) : Option (Lp Int (Ex Unit Bool)) :=
  if s4 < (a0.length : Int) then
    bnd (idx a0 s4) fun x14 =>
    bnd (idx a1 s4) fun x15 =>
    if x14 = x15 then
      some (Lp.next (w64 (s4 + 1)))
    else
      some (Lp.done (Ex.ret false))
  else
    some (Lp.done (Ex.brk ()))
noncomputable def slices_Equal_arena_Span_arena_Span (a0 : List arena_Span) (a1 : List arena_Span) : Option Bool :=
  if (a0.length : Int) = (a1.length : Int) then
    bnd (loop (slices_Equal_arena_Span_arena_Span.l1 a0 a1) 0 : Option (Ex Unit Bool)) fun t2 => match t2 with
      | .brk u3 =>
        some true
      | .ret u3 => some u3
  else
    some false
set_option maxHeartbeats 4000000 in
theorem slices_Equal_arena_Span_arena_Span_c {a0 : List arena_Span} {a1 : List arena_Span} {res : Bool} (h0 : slices_Equal_arena_Span_arena_Span a0 a1 = some res) : CallF X 90 [.sl 2 (List.map e_arena_Span a0), .sl 2 (List.map e_arena_Span a1)] [] (fun x => .val (.bool res)) (fun x => []) := by
 unfold slices_Equal_arena_Span_arena_Span at h0
 refine CallF.mkG (X := X) Try.func90 rfl rfl Try.ntmps90 rfl rfl ?_
 refine T.seq ?_
 refine T.region ?_
 refine TL.op1 (OpR.pure rfl) rfl ?_
 refine TL.nil ?_
 show T X _ _ _
 refine T.seq ?_
 refine T.seq ?_
 refine T.region ?_
 refine TL.op1 (OpR.pure rfl) rfl ?_
 refine TL.op1 (OpR.cast (OpR.pure rfl) (intE (lenM _ _))) rfl ?_
 refine TL.op1 (OpR.pure rfl) rfl ?_
 refine TL.op1 (OpR.cast (OpR.pure rfl) (intE (lenM _ _))) rfl ?_
 refine TL.op1 (OpR.pure rfl) rfl ?_
 refine TL.nil ?_
 show T X _ _ _
 rcases ite_some h0 with ⟨c1, h0⟩ | ⟨c1, h0⟩
 rotate_left
 · refine T.condT rfl (not_f (beq_eq_false_iff_ne.2 c1)) ?_
   refine T.seq ?_
   refine T.region ?_
   refine TL.op1 (OpR.pure rfl) rfl ?_
   refine TL.nil ?_
   show T X _ _ _
   refine T.ret ?_
   obtain rfl := Option.some.inj h0
   exact PostG.retP (ks := []) (Gst.only [4] rfl) undef (ResL.cons (ResV.tmp rfl) ResL.nil) rfl rfl rfl rfl
 refine T.condF rfl (not_t (beq_iff_eq.2 c1)) ?_
 refine T.skip ?_
 show T X _ _ _
 refine T.seq ?_
 refine T.seq ?_
 refine T.region ?_
 refine TL.op1 (OpR.pure rfl) rfl ?_
 refine TL.op1 (OpR.cast (OpR.pure rfl) (intE (lenM _ _))) rfl ?_
 refine TL.op1 (OpR.pure rfl) rfl ?_
 refine TL.nil ?_
 show T X _ _ _
 obtain ⟨t2, ht2, h0⟩ := bnd_some h0
 refine T.cutC (fun S' => ∃ u3, t2 = Ex.brk u3 ∧ S' = ⟨[(4, .val (.bool false))], [], 26⟩) (fun _ h => h) ?_ ?_
 rotate_left
 · rintro _ ⟨u3, rfl, rfl⟩
   show T X _ _ _
   refine T.seq ?_
   refine T.region ?_
   refine TL.op1 (OpR.pure rfl) rfl ?_
   refine TL.nil ?_
   show T X _ _ _
   refine T.ret ?_
   obtain rfl := Option.some.inj h0
   exact PostG.retP (ks := []) (Gst.only [4] rfl) undef (ResL.cons (ResV.tmp rfl) ResL.nil) rfl rfl rfl rfl
 refine T.block ?_
 obtain ⟨n5, n10⟩ := loop_some ht2
 refine T.loop (fun n S' => ∃ S'', Gst S' S'' ∧ ∃ s4 : Int, S'' = ⟨[(13, .val (.int .i64 s4)), (12, .val (.int .i64 (a0.length : Int))), (4, .val (.bool false)), (1, .sl 2 (List.map e_arena_Span a1)), (0, .sl 2 (List.map e_arena_Span a0))], [], 26⟩ ∧ iter (slices_Equal_arena_Span_arena_Span.l1 a0 a1) n s4 = some t2) n5 ?_ ?_
 · exact ⟨_, Gst.only [0, 1, 4, 12, 13] rfl, 0, rfl, n10⟩
 rintro n5 _ ⟨_, g, s4, rfl, i9⟩
 refine T.ghost g ?_
 obtain ⟨m6, q7, rfl, q8, i9⟩ := iter_succ i9
 unfold slices_Equal_arena_Span_arena_Span.l1 at q8
 refine T.seq ?_
 refine T.region ?_
 refine TL.op1 (OpR.pure rfl) rfl ?_
 refine TL.nil ?_
 show T X _ _ _
 refine T.seq ?_
 rcases ite_some q8 with ⟨c12, q8⟩ | ⟨c12, q8⟩
 rotate_left
 · refine T.condF rfl (decide_eq_false c12) ?_
   refine T.exit ?_
   obtain rfl := Option.some.inj q8
   obtain rfl : _ = _ := i9
   exact ⟨_, Gst.only [4] rfl, _, rfl, rfl⟩
 refine T.condT rfl (decide_eq_true c12) ?_
 refine T.skip ?_
 show T X _ _ _
 refine T.seq ?_
 refine T.block ?_
 refine T.seq ?_
 refine T.region ?_
 refine TL.op1 (OpR.pure rfl) rfl ?_
 refine TL.op1 (OpR.pure rfl) rfl ?_
 refine TL.nil ?_
 show T X _ _ _
 refine T.seq ?_
 obtain ⟨x14, hx14, q8⟩ := bnd_some q8
 obtain ⟨x15, hx15, q8⟩ := bnd_some q8
 refine T.drawQ drawsX [.sl 2 (List.map e_arena_Span a0), .val (.int .i64 s4), .nod [.val (.int .i64 x14.fAt), .val (.int .i64 x14.fN)], .agg [.val (.int .i64 x14.fAt), .val (.int .i64 x14.fN)], .sl 2 (List.map e_arena_Span a1), .val (.int .i64 s4), .nod [.val (.int .i64 x15.fAt), .val (.int .i64 x15.fN)], .agg [.val (.int .i64 x15.fAt), .val (.int .i64 x15.fN)], .val (.bool (!(x14 == x15)))] [0, 1, 4, 5, 12, 13, 14, 15, 16, 17, 18, 19, 20, 21, 22, 23, 24] (by decide +kernel) rfl ?_ rfl ?_
 · refine OpsQ.yes (Want.plain rfl) rfl (OpR.pure rfl) ?_
   refine OpsQ.yes (Want.plain rfl) rfl (OpR.pure rfl) ?_
   refine OpsQ.yes (Want.plain rfl) rfl (OpR.indexM e_arena_Span hx14 rfl rfl rfl rfl rfl) ?_
   refine OpsQ.yes (Want.plain rfl) rfl (OpR.pure rfl) ?_
   refine OpsQ.yes (Want.plain rfl) rfl (OpR.pure rfl) ?_
   refine OpsQ.yes (Want.plain rfl) rfl (OpR.pure rfl) ?_
   refine OpsQ.yes (Want.plain rfl) rfl (OpR.indexM e_arena_Span hx15 rfl rfl rfl rfl rfl) ?_
   refine OpsQ.yes (Want.plain rfl) rfl (OpR.pure rfl) ?_
   refine OpsQ.yes (Want.plain rfl) rfl (OpR.cast (OpR.neStruct rfl rfl rfl rfl rfl (by kernel_rfl) (by kernel_rfl)) (boolE (congrArg (fun b => !b) (beq_arena_Span x14 x15)))) ?_
   exact OpsQ.nil
 show T X _ _ _
 rcases ite_some q8 with ⟨c16, q8⟩ | ⟨c16, q8⟩
 · refine T.condF rfl (not_t (beq_iff_eq.2 c16)) ?_
   refine T.skip ?_
   show T X _ _ _
   refine T.region ?_
   refine TL.op1 (OpR.pure rfl) rfl ?_
   refine TL.op1 (OpR.pure rfl) rfl ?_
   refine TL.nil ?_
   obtain rfl := Option.some.inj q8
   exact ⟨m6, Nat.lt_succ_self _, _, Gst.only [0, 1, 4, 12, 13] rfl, w64 (s4 + 1), rfl, i9⟩
 refine T.condT rfl (not_f (beq_eq_false_iff_ne.2 c16)) ?_
 refine T.seq ?_
 refine T.region ?_
 refine TL.op1 (OpR.pure rfl) rfl ?_
 refine TL.nil ?_
 show T X _ _ _
 refine T.ret ?_
 obtain rfl := Option.some.inj q8
 obtain rfl : _ = _ := i9
 obtain rfl := Option.some.inj h0
 exact PostG.retP (ks := []) (Gst.only [4] rfl) undef (ResL.cons (ResV.tmp rfl) ResL.nil) rfl rfl rfl rfl
noncomputable def piece_Same (a0 : piece_Text) (a1 : piece_Text) : Option Bool :=
  bnd (slices_Equal_arena_Span_arena_Span a0.fL a1.fL) fun x1 =>
  some x1
set_option maxHeartbeats 4000000 in
theorem piece_Same_c {a0 : piece_Text} {a1 : piece_Text} {res : Bool} (h0 : piece_Same a0 a1 = some res) : CallF X 45 [.agg [.sl 2 (List.map e_arena_Span a0.fL), .val (.int .i64 a0.fN)], .agg [.sl 2 (List.map e_arena_Span a1.fL), .val (.int .i64 a1.fN)]] [] (fun x => .val (.bool res)) (fun x => []) := by
 unfold piece_Same at h0
 refine CallF.mkG (X := X) Try.func45 rfl rfl Try.ntmps45 rfl rfl ?_
 refine T.seq ?_
 refine T.region ?_
 refine TL.op1 (OpR.boxImm rfl rfl) rfl ?_
 refine TL.op1 (OpR.boxImm rfl rfl) rfl ?_
 refine TL.op1 (OpR.pure rfl) rfl ?_
 refine TL.nil ?_
 show T X _ _ _
 refine T.seq ?_
 refine T.region ?_
 refine TL.op1 (OpR.pure rfl) rfl ?_
 refine TL.op1 (OpR.pure rfl) rfl ?_
 refine TL.op1 (OpR.pure rfl) rfl ?_
 refine TL.op1 (OpR.pure rfl) rfl ?_
 obtain ⟨x1, hx1, h0⟩ := bnd_some h0
 refine TL.op1 (OpR.call0 fn90 (slices_Equal_arena_Span_arena_Span_c hx1) rfl) rfl ?_
 refine TL.op1 (OpR.pure rfl) rfl ?_
 refine TL.nil ?_
 show T X _ _ _
 refine T.ret ?_
 obtain rfl := Option.some.inj h0
 exact PostG.retP (ks := []) (Gst.only [4] rfl) undef (ResL.cons (ResV.tmp rfl) ResL.nil) rfl rfl rfl rfl
noncomputable def slices_Clone_arena_Span_arena_Span (a0 : List arena_Span) : Option (List arena_Span) :=
  bnd (app 16 [] a0) fun x5 =>
  some x5
set_option maxHeartbeats 4000000 in
theorem slices_Clone_arena_Span_arena_Span_c {a0 : List arena_Span} {res : (List arena_Span)} (h0 : slices_Clone_arena_Span_arena_Span a0 = some res) : CallF X 92 [.sl 2 (List.map e_arena_Span a0)] [] (fun x => .val (vn x 0)) (fun x => [.row (vn x 0) (List.map e_arena_Span res) 2 88]) := by
 unfold slices_Clone_arena_Span_arena_Span at h0
 refine CallF.mkG (X := X) Try.func92 rfl rfl Try.ntmps92 rfl rfl ?_
 refine T.seq ?_
 refine T.region ?_
 refine TL.op1 (OpR.pure rfl) rfl ?_
 refine TL.nil ?_
 show T X _ _ _
 refine T.seq ?_
 refine T.seq ?_
 refine T.region ?_
 refine TL.op1 (OpR.pure rfl) rfl ?_
 refine TL.isNil rfl rfl rfl rfl (fun b1 e2 => ?_)
 refine TL.nil ?_
 show T X _ _ _
 rcases Bool.eq_false_or_eq_true b1 with c3 | c3
 · obtain rfl := map_nil_of (e2 c3)
   rw [app_nil] at h0
   refine T.condT rfl (c3) ?_
   refine T.seq ?_
   refine T.region ?_
   refine TL.op1 (OpR.pure rfl) rfl ?_
   refine TL.nil ?_
   show T X _ _ _
   refine T.ret ?_
   obtain rfl := Option.some.inj h0
   exact PostG.retP (ks := [0]) (Gst.trans (Gst.only [2] rfl) (Gst.nilRow (ow := []) 2 88 rfl)) (.tuple #[(.slice none 0 0)]) (ResL.cons (ResV.tmp rfl) ResL.nil) rfl rfl rfl rfl
 refine T.condF rfl (c3) ?_
 refine T.skip ?_
 show T X _ _ _
 refine T.seq ?_
 refine T.region ?_
 refine TL.op (OpR.litRow rfl rfl rfl rfl rfl rfl rfl rfl (fun _ => rfl)) rfl (fun v4 => ?_)
 refine TL.op1 (OpR.pure rfl) rfl ?_
 obtain ⟨x5, hx5, h0⟩ := bnd_some h0
 refine TL.op (OpR.appendM (m := a0) e_arena_Span 0 hx5 rfl rfl rfl rfl rfl rfl rfl rfl rfl (fun _ => rfl)) rfl (fun v6 => ?_)
 refine TL.op1 (OpR.pure rfl) rfl ?_
 refine TL.nil ?_
 show T X _ _ _
 refine T.ret ?_
 obtain rfl := Option.some.inj h0
 exact PostG.retP (ks := [0]) (Gst.only [2] rfl) (.tuple #[v6]) (ResL.cons (ResV.tmp rfl) ResL.nil) rfl rfl rfl rfl
noncomputable def piece_Text_Spans (a0 : piece_Text) : Option (List arena_Span) :=
  bnd (slices_Clone_arena_Span_arena_Span a0.fL) fun x1 =>
  some x1
set_option maxHeartbeats 4000000 in
theorem piece_Text_Spans_c {a0 : piece_Text} {res : (List arena_Span)} (h0 : piece_Text_Spans a0 = some res) : CallF X 47 [.agg [.sl 2 (List.map e_arena_Span a0.fL), .val (.int .i64 a0.fN)]] [] (fun x => .sl 2 (List.map e_arena_Span res)) (fun x => []) := by
 unfold piece_Text_Spans at h0
 refine CallF.mkG (X := X) Try.func47 rfl rfl Try.ntmps47 rfl rfl ?_
 refine T.seq ?_
 refine T.region ?_
 refine TL.op1 (OpR.boxImm rfl rfl) rfl ?_
 refine TL.op1 (OpR.pure rfl) rfl ?_
 refine TL.nil ?_
 show T X _ _ _
 refine T.seq ?_
 refine T.region ?_
 refine TL.op1 (OpR.pure rfl) rfl ?_
 refine TL.op1 (OpR.pure rfl) rfl ?_
 obtain ⟨x1, hx1, h0⟩ := bnd_some h0
 refine TL.op (OpR.call [] fn92 (slices_Clone_arena_Span_arena_Span_c hx1) rfl rfl rfl (fun _ => rfl)) rfl (fun w2 => ?_)
 refine TL.op1 (OpR.pure rfl) rfl ?_
 refine TL.nil ?_
 show T X _ _ _
 refine T.ret ?_
 obtain rfl := Option.some.inj h0
 exact PostG.retP (ks := []) (Gst.trans (Gst.only [2] rfl) (Gst.trans (Gst.freezeRow 0 rfl rfl (ReS.cons (Re.base .all) ReS.nil) (ReO.same ReO.nil)) (Gst.pick [] rfl rfl))) undef (ResL.cons (ResV.tmp rfl) ResL.nil) rfl rfl rfl rfl
noncomputable def line_Prompt_Key (a0 : line_Prompt) (a1 : Int) : Option (line_Prompt × Bool × Int) :=
  bnd (if a1 = 10 then
    some 0
  else
    some a1 : Option Int) fun t2 =>
  bnd (line_Plan a0.fS a0.fAt t2) fun x4 =>
  bnd (cut a0.fS 0 x4.1.fFrom) fun x7 =>
  bnd (catS x7 x4.1.fIn) fun x8 =>
  bnd (cut a0.fS x4.1.fTo (a0.fS.length : Int)) fun x9 =>
  bnd (catS x8 x9) fun x10 =>
  bnd (if (x10.length : Int) > 100 then
    some (decide ((x10.length : Int) > (a0.fS.length : Int)))
  else
    some false : Option Bool) fun t11 =>
  if t11 = true then
    some (a0, true, 7)
  else
    bnd (line_bound x10 x4.1.fAt) fun x14 =>
    some ((⟨x10, x14⟩ : line_Prompt), x4.2, 0)
set_option maxHeartbeats 4000000 in
theorem line_Prompt_Key_c {a0 : line_Prompt} {a1 : Int} {res : line_Prompt × Bool × Int} (h0 : line_Prompt_Key a0 a1 = some res) : CallF X 93 [.agg [.val (.string (bs a0.fS)), .val (.int .i64 a0.fAt)], .val (.int .i64 a1)] [] (fun x => .tup [.agg [.val (.string (bs res.1.fS)), .val (.int .i64 res.1.fAt)], .val (.bool res.2.1), .val (.int .i64 res.2.2)]) (fun x => []) := by
 unfold line_Prompt_Key at h0
 refine CallF.mkG (X := X) Try.func93 rfl rfl Try.ntmps93 rfl rfl ?_
 refine T.seq ?_
 refine T.region ?_
 refine TL.op1 (OpR.boxImm rfl rfl) rfl ?_
 refine TL.op (OpR.alloc rfl rfl (fun _ => rfl)) rfl (fun p1 => ?_)
 refine TL.op1 (OpR.pure rfl) rfl ?_
 refine TL.op1 (OpR.pure rfl) rfl ?_
 refine TL.nil ?_
 show T X _ _ _
 refine T.seq ?_
 refine T.seq ?_
 refine T.region ?_
 refine TL.op1 (OpR.pure rfl) rfl ?_
 refine TL.op1 (OpR.pure rfl) rfl ?_
 refine TL.nil ?_
 show T X _ _ _
 obtain ⟨t2, ht2, h0⟩ := bnd_some h0
 refine T.cutC (fun S' => S' = ⟨[(6, .val (.int .i64 0)), (5, .val (.bool false)), (4, .val (.pointer (some ⟨(blk p1), 0, none⟩))), (2, .nod [.val (.string (bs a0.fS)), .val (.int .i64 a0.fAt)]), (1, .val (.int .i64 t2))], [.var (blk p1) [.val (.string (bs [])), .val (.int .i64 0)] 179], 56⟩) (fun _ h => h) ?_ ?_
 · rcases ite_some ht2 with ⟨c3, ht2⟩ | ⟨c3, ht2⟩
   rotate_left
   · refine T.condF rfl (beq_eq_false_iff_ne.2 c3) ?_
     refine T.skip ?_
     obtain rfl := Option.some.inj ht2
     exact ⟨_, Gst.only [1, 2, 4, 5, 6] rfl, rfl⟩
   refine T.condT rfl (beq_iff_eq.2 c3) ?_
   refine T.region ?_
   refine TL.op1 (OpR.pure rfl) rfl ?_
   refine TL.nil ?_
   obtain rfl := Option.some.inj ht2
   exact ⟨_, Gst.only [1, 2, 4, 5, 6] rfl, rfl⟩
 rintro _ rfl
 show T X _ _ _
 refine T.seq ?_
 refine T.region ?_
 refine TL.op1 (OpR.pure rfl) rfl ?_
 refine TL.op1 (OpR.pure rfl) rfl ?_
 refine TL.op1 (OpR.toBytesM rfl rfl rfl rfl rfl rfl rfl) rfl ?_
 refine TL.op1 (OpR.pure rfl) rfl ?_
 refine TL.op1 (OpR.pure rfl) rfl ?_
 refine TL.op1 (OpR.pure rfl) rfl ?_
 obtain ⟨x4, hx4, h0⟩ := bnd_some h0
 refine TL.op1 (OpR.call0 fn82 (line_Plan_c hx4) rfl) rfl ?_
 refine TL.op1 (OpR.pure rfl) rfl ?_
 refine TL.op1 (OpR.pure rfl) rfl ?_
 refine TL.op1 (OpR.pure rfl) rfl ?_
 refine TL.op (OpR.alloc rfl rfl (fun _ => rfl)) rfl (fun p5 => ?_)
 refine TL.op0 (OpR.store 1 rfl rfl rfl rfl rfl rfl rfl rfl) ?_
 refine TL.op1 (OpR.pure rfl) rfl ?_
 refine TL.nil ?_
 show T X _ _ _
 refine T.seq ?_
 obtain ⟨x7, hx7, h0⟩ := bnd_some h0
 obtain ⟨x8, hx8, h0⟩ := bnd_some h0
 obtain ⟨x9, hx9, h0⟩ := bnd_some h0
 obtain ⟨x10, hx10, h0⟩ := bnd_some h0
 refine T.drawQ drawsX [.nod [.val (.string (bs a0.fS)), .val (.int .i64 a0.fAt)], .val (.string (bs a0.fS)), .val (.pointer (some ⟨(blk p5), 0, none⟩)), .val (.int .i64 x4.1.fFrom), .val (.string (bs x7)), .val (.pointer (some ⟨(blk p5), 2, none⟩)), .val (.string (bs x4.1.fIn)), .val (.string (bs x8)), .nod [.val (.string (bs a0.fS)), .val (.int .i64 a0.fAt)], .val (.string (bs a0.fS)), .val (.pointer (some ⟨(blk p5), 1, none⟩)), .val (.int .i64 x4.1.fTo), .val (.string (bs x9)), .val (.string (bs x10)), .val (.string (bs x10))] [1, 2, 4, 5, 6, 7, 8, 9, 12, 13, 14, 15, 16, 17, 18, 19, 20, 21, 22, 23, 24, 25, 26, 27, 28, 29, 30, 31, 32, 33, 34, 35] (by decide +kernel) rfl ?_ rfl ?_
 · refine OpsQ.yes (Want.plain rfl) rfl (OpR.pure rfl) ?_
   refine OpsQ.yes (Want.plain rfl) rfl (OpR.pure rfl) ?_
   refine OpsQ.yes (Want.plain rfl) rfl (OpR.pure rfl) ?_
   refine OpsQ.yes (Want.plain rfl) rfl (OpR.loadPtr 1 rfl rfl rfl rfl) ?_
   refine OpsQ.yes (Want.plain rfl) rfl (OpR.sliceS hx7 rfl rfl rfl BdM.none (BdM.some rfl)) ?_
   refine OpsQ.yes (Want.plain rfl) rfl (OpR.pure rfl) ?_
   refine OpsQ.yes (Want.plain rfl) rfl (OpR.loadPtr 1 rfl rfl rfl rfl) ?_
   refine OpsQ.yes (Want.plain rfl) rfl (OpR.concatM hx8 rfl rfl) ?_
   refine OpsQ.yes (Want.plain rfl) rfl (OpR.pure rfl) ?_
   refine OpsQ.yes (Want.plain rfl) rfl (OpR.pure rfl) ?_
   refine OpsQ.yes (Want.plain rfl) rfl (OpR.pure rfl) ?_
   refine OpsQ.yes (Want.plain rfl) rfl (OpR.loadPtr 1 rfl rfl rfl rfl) ?_
   refine OpsQ.yes (Want.plain rfl) rfl (OpR.sliceS hx9 rfl rfl rfl (BdM.some rfl) BdM.none) ?_
   refine OpsQ.yes (Want.plain rfl) rfl (OpR.concatM hx10 rfl rfl) ?_
   refine OpsQ.yes (Want.plain rfl) rfl (OpR.pure rfl) ?_
   exact OpsQ.nil
 show T X _ _ _
 refine T.seq ?_
 refine T.seq ?_
 obtain ⟨t11, ht11, h0⟩ := bnd_some h0
 refine T.cutC (fun S' => S' = ⟨[(46, .val (.bool t11)), (9, .val (.string (bs x10))), (8, .val (.bool x4.2)), (7, .val (.pointer (some ⟨(blk p5), 0, none⟩))), (6, .val (.int .i64 0)), (5, .val (.bool false)), (4, .val (.pointer (some ⟨(blk p1), 0, none⟩))), (2, .nod [.val (.string (bs a0.fS)), .val (.int .i64 a0.fAt)])], [.var (blk p1) [.val (.string (bs [])), .val (.int .i64 0)] 179, .var (blk p5) [.val (.int .i64 x4.1.fFrom), .val (.int .i64 x4.1.fTo), .val (.string (bs x4.1.fIn)), .val (.int .i64 x4.1.fAt)] 165], 56⟩) (fun _ h => h) ?_ ?_
 · refine T.region ?_
   refine TL.op1 (OpR.pure rfl) rfl ?_
   refine TL.op1 (OpR.cast (OpR.pure rfl) (intE (lenS _))) rfl ?_
   refine TL.op1 (OpR.pure rfl) rfl ?_
   refine TL.op1 (OpR.pure rfl) rfl ?_
   rcases ite_some ht11 with ⟨c12, ht11⟩ | ⟨c12, ht11⟩
   rotate_left
   · refine TL.off rfl rfl rfl rfl (decide_eq_false c12) rfl rfl ?_
     refine TL.off rfl rfl rfl rfl (decide_eq_false c12) rfl rfl ?_
     refine TL.off rfl rfl rfl rfl (decide_eq_false c12) rfl rfl ?_
     refine TL.off rfl rfl rfl rfl (decide_eq_false c12) rfl rfl ?_
     refine TL.off rfl rfl rfl rfl (decide_eq_false c12) rfl rfl ?_
     refine TL.off rfl rfl rfl rfl (decide_eq_false c12) rfl rfl ?_
     refine TL.op1 (OpR.pickF rfl (decide_eq_false c12) rfl) rfl ?_
     refine TL.nil ?_
     obtain rfl := Option.some.inj ht11
     exact ⟨_, Gst.only [2, 4, 5, 6, 7, 8, 9, 46] rfl, rfl⟩
   refine TL.on rfl rfl rfl rfl (decide_eq_true c12) ?_
   refine TL.op1 (OpR.pure rfl) rfl ?_
   refine TL.on rfl rfl rfl rfl (decide_eq_true c12) ?_
   refine TL.op1 (OpR.cast (OpR.pure rfl) (intE (lenS _))) rfl ?_
   refine TL.on rfl rfl rfl rfl (decide_eq_true c12) ?_
   refine TL.op1 (OpR.pure rfl) rfl ?_
   refine TL.on rfl rfl rfl rfl (decide_eq_true c12) ?_
   refine TL.op1 (OpR.pure rfl) rfl ?_
   refine TL.on rfl rfl rfl rfl (decide_eq_true c12) ?_
   refine TL.op1 (OpR.cast (OpR.pure rfl) (intE (lenS _))) rfl ?_
   refine TL.on rfl rfl rfl rfl (decide_eq_true c12) ?_
   refine TL.op1 (OpR.pure rfl) rfl ?_
   refine TL.op1 (OpR.pickT rfl (decide_eq_true c12) rfl) rfl ?_
   refine TL.nil ?_
   obtain rfl := Option.some.inj ht11
   exact ⟨_, Gst.only [2, 4, 5, 6, 7, 8, 9, 46] rfl, rfl⟩
 rintro _ rfl
 show T X _ _ _
 rcases ite_some h0 with ⟨c13, h0⟩ | ⟨c13, h0⟩
 · refine T.condT rfl (c13) ?_
   refine T.seq ?_
   refine T.region ?_
   refine TL.op1 (OpR.pure rfl) rfl ?_
   refine TL.op0 (OpR.store 0 rfl rfl rfl rfl rfl rfl rfl rfl) ?_
   refine TL.op1 (OpR.pure rfl) rfl ?_
   refine TL.op1 (OpR.pure rfl) rfl ?_
   refine TL.nil ?_
   show T X _ _ _
   refine T.ret ?_
   obtain rfl := Option.some.inj h0
   exact PostG.retP (ks := []) (Gst.trans (Gst.only [4, 5, 6] rfl) (Gst.pick [0] rfl rfl)) undef (ResL.cons (ResV.var 0 rfl rfl rfl rfl) (ResL.cons (ResV.tmp rfl) (ResL.cons (ResV.tmp rfl) ResL.nil))) rfl rfl rfl rfl
 refine T.condF rfl (eq_false_of_ne_true c13) ?_
 refine T.skip ?_
 show T X _ _ _
 refine T.seq ?_
 refine T.region ?_
 refine TL.op1 (OpR.pure rfl) rfl ?_
 refine TL.op1 (OpR.pure rfl) rfl ?_
 refine TL.op1 (OpR.toBytesM rfl rfl rfl rfl rfl rfl rfl) rfl ?_
 refine TL.op1 (OpR.pure rfl) rfl ?_
 refine TL.op1 (OpR.loadPtr 1 rfl rfl rfl rfl) rfl ?_
 obtain ⟨x14, hx14, h0⟩ := bnd_some h0
 refine TL.op1 (OpR.call0 fn87 (line_bound_c hx14) rfl) rfl ?_
 refine TL.op1 (OpR.build rfl rfl rfl rfl rfl) rfl ?_
 refine TL.op1 (OpR.pure rfl) rfl ?_
 refine TL.op0 (OpR.store 0 rfl rfl rfl rfl rfl rfl rfl rfl) ?_
 refine TL.op1 (OpR.pure rfl) rfl ?_
 refine TL.op1 (OpR.pure rfl) rfl ?_
 refine TL.nil ?_
 show T X _ _ _
 refine T.ret ?_
 obtain rfl := Option.some.inj h0
 exact PostG.retP (ks := []) (Gst.trans (Gst.only [4, 5, 6] rfl) (Gst.pick [0] rfl rfl)) undef (ResL.cons (ResV.var 0 rfl rfl rfl rfl) (ResL.cons (ResV.tmp rfl) (ResL.cons (ResV.tmp rfl) ResL.nil))) rfl rfl rfl rfl
noncomputable def law30_awake : Option Bool :=
  bnd (line_Prompt_Key (⟨[97, 98, 32, 99, 100], 5⟩ : line_Prompt) 23) fun x1 =>
  bnd (line_Plan [97, 98] 1 120) fun x4 =>
  bnd (if x1.1 = (⟨[97, 98, 32], 3⟩ : line_Prompt) then
    if x1.2.1 = true then
      if x1.2.2 = 0 then
        if x4.1 = (⟨1, 1, [120], 2⟩ : line_Edit) then
          some x4.2
        else
          some false
      else
        some false
    else
      some false
  else
    some false : Option Bool) fun t6 =>
  some t6
set_option maxHeartbeats 4000000 in
theorem law30_awake_c {res : Bool} (h0 : law30_awake = some res) : CallF X 48 [] [] (fun x => .val (.bool res)) (fun x => []) := by
 unfold law30_awake at h0
 refine CallF.mkG (X := X) Try.func48 rfl rfl Try.ntmps48 rfl rfl ?_
 refine T.seq ?_
 refine T.region ?_
 refine TL.op1 (OpR.pure rfl) rfl ?_
 refine TL.nil ?_
 show T X _ _ _
 refine T.seq ?_
 refine T.region ?_
 refine TL.op1 (OpR.build rfl rfl rfl rfl rfl) rfl ?_
 obtain ⟨x1, hx1, h0⟩ := bnd_some h0
 refine TL.op1 (OpR.call0 fn93 (line_Prompt_Key_c hx1) rfl) rfl ?_
 refine TL.op1 (OpR.pure rfl) rfl ?_
 refine TL.op1 (OpR.pure rfl) rfl ?_
 refine TL.op1 (OpR.pure rfl) rfl ?_
 refine TL.op1 (OpR.pure rfl) rfl ?_
 refine TL.op (OpR.alloc rfl rfl (fun _ => rfl)) rfl (fun p2 => ?_)
 refine TL.op0 (OpR.store 0 rfl rfl rfl rfl rfl rfl rfl rfl) ?_
 refine TL.op1 (OpR.pure rfl) rfl ?_
 refine TL.op1 (OpR.pure rfl) rfl ?_
 refine TL.nil ?_
 show T X _ _ _
 refine T.seq ?_
 refine T.region ?_
 refine TL.op (OpR.litRow rfl rfl rfl rfl rfl rfl rfl rfl (fun _ => rfl)) rfl (fun v3 => ?_)
 refine TL.op1 (OpR.markRow 1 rfl rfl rfl rfl rfl rfl rfl rfl) rfl ?_
 obtain ⟨x4, hx4, h0⟩ := bnd_some h0
 refine TL.op1 (OpR.call0 fn82 (line_Plan_c hx4) rfl) rfl ?_
 refine TL.op1 (OpR.pure rfl) rfl ?_
 refine TL.op1 (OpR.pure rfl) rfl ?_
 refine TL.op1 (OpR.pure rfl) rfl ?_
 refine TL.op (OpR.alloc rfl rfl (fun _ => rfl)) rfl (fun p5 => ?_)
 refine TL.op0 (OpR.store 2 rfl rfl rfl rfl rfl rfl rfl rfl) ?_
 refine TL.op1 (OpR.pure rfl) rfl ?_
 refine TL.nil ?_
 show T X _ _ _
 refine T.seq ?_
 obtain ⟨t6, ht6, h0⟩ := bnd_some h0
 refine T.cutC (fun S' => S' = ⟨[(0, .val (.bool t6))], [], 36⟩) (fun _ h => h) ?_ ?_
 rotate_left
 · rintro _ rfl
   show T X _ _ _
   refine T.ret ?_
   obtain rfl := Option.some.inj h0
   exact PostG.retP (ks := []) (Gst.only [0] rfl) undef (ResL.cons (ResV.tmp rfl) ResL.nil) rfl rfl rfl rfl
 refine T.region ?_
 refine TL.op1 (OpR.loadPtr 0 rfl rfl rfl rfl) rfl ?_
 refine TL.op1 (OpR.build rfl rfl rfl rfl rfl) rfl ?_
 refine TL.op1 (OpR.cast (OpR.eqStruct rfl rfl rfl rfl rfl (by kernel_rfl) (by kernel_rfl)) (boolE (beq_line_Prompt x1.1 (⟨[97, 98, 32], 3⟩ : line_Prompt)))) rfl ?_
 refine TL.op1 (OpR.pure rfl) rfl ?_
 rcases ite_some ht6 with ⟨c7, ht6⟩ | ⟨c7, ht6⟩
 rotate_left
 · refine TL.off rfl rfl rfl rfl (beq_eq_false_iff_ne.2 c7) rfl rfl ?_
   refine TL.op1 (OpR.pickF rfl (beq_eq_false_iff_ne.2 c7) rfl) rfl ?_
   refine TL.op1 (OpR.pure rfl) rfl ?_
   refine TL.off rfl rfl rfl rfl rfl rfl rfl ?_
   refine TL.off rfl rfl rfl rfl rfl rfl rfl ?_
   refine TL.op1 (OpR.pickF rfl rfl rfl) rfl ?_
   refine TL.op1 (OpR.pure rfl) rfl ?_
   refine TL.off rfl rfl rfl rfl rfl rfl rfl ?_
   refine TL.off rfl rfl rfl rfl rfl rfl rfl ?_
   refine TL.off rfl rfl rfl rfl rfl rfl rfl ?_
   refine TL.op1 (OpR.pickF rfl rfl rfl) rfl ?_
   refine TL.op1 (OpR.pure rfl) rfl ?_
   refine TL.off rfl rfl rfl rfl rfl rfl rfl ?_
   refine TL.op1 (OpR.pickF rfl rfl rfl) rfl ?_
   refine TL.op1 (OpR.pure rfl) rfl ?_
   refine TL.nil ?_
   obtain rfl := Option.some.inj ht6
   exact ⟨_, Gst.trans (Gst.only [0] rfl) (Gst.pick [] rfl rfl), rfl⟩
 refine TL.on rfl rfl rfl rfl (beq_iff_eq.2 c7) ?_
 refine TL.op1 (OpR.pure rfl) rfl ?_
 refine TL.op1 (OpR.pickT rfl (beq_iff_eq.2 c7) rfl) rfl ?_
 refine TL.op1 (OpR.pure rfl) rfl ?_
 rcases ite_some ht6 with ⟨c8, ht6⟩ | ⟨c8, ht6⟩
 rotate_left
 · refine TL.off rfl rfl rfl rfl (eq_false_of_ne_true c8) rfl rfl ?_
   refine TL.off rfl rfl rfl rfl (eq_false_of_ne_true c8) rfl rfl ?_
   refine TL.op1 (OpR.pickF rfl (eq_false_of_ne_true c8) rfl) rfl ?_
   refine TL.op1 (OpR.pure rfl) rfl ?_
   refine TL.off rfl rfl rfl rfl rfl rfl rfl ?_
   refine TL.off rfl rfl rfl rfl rfl rfl rfl ?_
   refine TL.off rfl rfl rfl rfl rfl rfl rfl ?_
   refine TL.op1 (OpR.pickF rfl rfl rfl) rfl ?_
   refine TL.op1 (OpR.pure rfl) rfl ?_
   refine TL.off rfl rfl rfl rfl rfl rfl rfl ?_
   refine TL.op1 (OpR.pickF rfl rfl rfl) rfl ?_
   refine TL.op1 (OpR.pure rfl) rfl ?_
   refine TL.nil ?_
   obtain rfl := Option.some.inj ht6
   exact ⟨_, Gst.trans (Gst.only [0] rfl) (Gst.pick [] rfl rfl), rfl⟩
 refine TL.on rfl rfl rfl rfl (c8) ?_
 refine TL.op1 (OpR.pure rfl) rfl ?_
 refine TL.on rfl rfl rfl rfl (c8) ?_
 refine TL.op1 (OpR.pure rfl) rfl ?_
 refine TL.op1 (OpR.pickT rfl (c8) rfl) rfl ?_
 refine TL.op1 (OpR.pure rfl) rfl ?_
 rcases ite_some ht6 with ⟨c9, ht6⟩ | ⟨c9, ht6⟩
 rotate_left
 · refine TL.off rfl rfl rfl rfl (beq_eq_false_iff_ne.2 c9) rfl rfl ?_
   refine TL.off rfl rfl rfl rfl (beq_eq_false_iff_ne.2 c9) rfl rfl ?_
   refine TL.off rfl rfl rfl rfl (beq_eq_false_iff_ne.2 c9) rfl rfl ?_
   refine TL.op1 (OpR.pickF rfl (beq_eq_false_iff_ne.2 c9) rfl) rfl ?_
   refine TL.op1 (OpR.pure rfl) rfl ?_
   refine TL.off rfl rfl rfl rfl rfl rfl rfl ?_
   refine TL.op1 (OpR.pickF rfl rfl rfl) rfl ?_
   refine TL.op1 (OpR.pure rfl) rfl ?_
   refine TL.nil ?_
   obtain rfl := Option.some.inj ht6
   exact ⟨_, Gst.trans (Gst.only [0] rfl) (Gst.pick [] rfl rfl), rfl⟩
 refine TL.on rfl rfl rfl rfl (beq_iff_eq.2 c9) ?_
 refine TL.op1 (OpR.loadPtr 2 rfl rfl rfl rfl) rfl ?_
 refine TL.on rfl rfl rfl rfl (beq_iff_eq.2 c9) ?_
 refine TL.op1 (OpR.build rfl rfl rfl rfl rfl) rfl ?_
 refine TL.on rfl rfl rfl rfl (beq_iff_eq.2 c9) ?_
 refine TL.op1 (OpR.cast (OpR.eqStruct rfl rfl rfl rfl rfl (by kernel_rfl) (by kernel_rfl)) (boolE (beq_line_Edit x4.1 (⟨1, 1, [120], 2⟩ : line_Edit)))) rfl ?_
 refine TL.op1 (OpR.pickT rfl (beq_iff_eq.2 c9) rfl) rfl ?_
 refine TL.op1 (OpR.pure rfl) rfl ?_
 rcases ite_some ht6 with ⟨c10, ht6⟩ | ⟨c10, ht6⟩
 rotate_left
 · refine TL.off rfl rfl rfl rfl (beq_eq_false_iff_ne.2 c10) rfl rfl ?_
   refine TL.op1 (OpR.pickF rfl (beq_eq_false_iff_ne.2 c10) rfl) rfl ?_
   refine TL.op1 (OpR.pure rfl) rfl ?_
   refine TL.nil ?_
   obtain rfl := Option.some.inj ht6
   exact ⟨_, Gst.trans (Gst.only [0] rfl) (Gst.pick [] rfl rfl), rfl⟩
 refine TL.on rfl rfl rfl rfl (beq_iff_eq.2 c10) ?_
 refine TL.op1 (OpR.pure rfl) rfl ?_
 refine TL.op1 (OpR.pickT rfl (beq_iff_eq.2 c10) rfl) rfl ?_
 refine TL.op1 (OpR.pure rfl) rfl ?_
 refine TL.nil ?_
 obtain rfl := Option.some.inj ht6
 exact ⟨_, Gst.trans (Gst.only [0] rfl) (Gst.pick [] rfl rfl), rfl⟩
end Go.Proofs.Ytbcbggdgkdfciaa.S
