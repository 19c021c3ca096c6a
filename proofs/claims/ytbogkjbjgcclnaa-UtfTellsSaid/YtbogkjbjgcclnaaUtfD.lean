/- Package utf: Class, Count; the document's own Put, Class. -/
import Derived.Test.YtbogkjbjgcclnaaUtfC
namespace Go.Proofs.Ytbogkjbjgcclnaa
open Go Go.Am

def classS (r : Int) : Int := if r = 32 ∨ (9 ≤ r ∧ r ≤ 13) then 0 else if r > 127 ∨ r = 95 ∨ (48 ≤ r ∧ r ≤ 57) ∨ (65 ≤ r ∧ r ≤ 90) ∨ (97 ≤ r ∧ r ≤ 122) then 1 else 2
theorem putN_bd {r n : Int} (h : n ∈ putN r) : 0 ≤ n ∧ n < 256 := by
  unfold putN at h
  split at h
  · rename_i hs
    have : 0 ≤ r ∧ r ≤ 1114111 := by unfold scalar at hs; have := of_decide_eq_true hs; omega
    (repeat' split at h) <;> simp only [List.mem_cons, List.not_mem_nil, or_false] at h <;> omega
  · cases h
def putB (r : Int) : List UInt8 := (putN r).map fun n => UInt8.ofNat n.toNat
theorem byteD_of {n : Int} (h : 0 ≤ n ∧ n < 256) : byteD (UInt8.ofNat n.toNat) = u8 n := by
  unfold byteD u8
  rw [UInt8.toNat_ofNat_of_lt' (by show n.toNat < 256; omega), Int.toNat_of_nonneg h.1]
theorem putB_map (r : Int) : (putB r).map byteD = (putN r).map u8 := by
  unfold putB
  rw [List.map_map]
  exact List.map_congr_left fun n hn => byteD_of (putN_bd hn)
theorem Put_b (r : Int) : CallE X 31 [.val (.int .i64 r)] (.sl 1 ((putB r).map byteD)) := by
  rw [putB_map]; exact Put_c r
theorem dec_size {bs : List UInt8} (h : bs ≠ []) : 1 ≤ (dec bs).2 ∧ (dec bs).2 ≤ bs.length := by
  cases bs with
  | nil => exact absurd rfl h
  | cons b bs =>
    have hb := lead_bd b.toNat b.toNat_lt
    unfold dec
    simp only [List.length_cons]
    split
    · dsimp only; omega
    · split
      · dsimp only; omega
      · split <;> dsimp only <;> omega
/-- The boundaries behind a place. -/
def bndF (bs : List UInt8) : Nat → Nat → List Nat
  | 0, _ => []
  | k + 1, at_ => if at_ < bs.length then (at_ + (dec (bs.drop at_)).2.toNat) :: bndF bs k (at_ + (dec (bs.drop at_)).2.toNat) else []
def bnd (bs : List UInt8) : List Nat := bndF bs bs.length 0
theorem step_bd {bs : List UInt8} {i : Nat} (h : i < bs.length) : 1 ≤ (dec (bs.drop i)).2.toNat ∧ i + (dec (bs.drop i)).2.toNat ≤ bs.length := by
  have := dec_size (bs := bs.drop i) (fun e => by have := congrArg List.length e; simp at this; omega)
  rw [List.length_drop] at this; omega
theorem bndF_fuel {bs : List UInt8} : ∀ (k m i : Nat), bs.length - i ≤ k → k ≤ m → bndF bs m i = bndF bs k i
  | 0, 0, _, _, _ => rfl
  | 0, m + 1, i, h, _ => by
    have : ¬ i < bs.length := by omega
    simp only [bndF, if_neg this]
  | k + 1, 0, _, _, hm => by omega
  | k + 1, m + 1, i, h, hm => by
    rw [bndF, bndF]
    split
    · rename_i hi
      have := step_bd hi
      rw [bndF_fuel k m _ (by omega) (by omega)]
    · rfl
/-- The boundaries behind a place, with fuel enough. -/
def bndA (bs : List UInt8) (i : Nat) : List Nat := bndF bs (bs.length - i) i
theorem bndA_no {bs : List UInt8} {i : Nat} (h : ¬ i < bs.length) : bndA bs i = [] := by
  unfold bndA; rw [show bs.length - i = 0 by omega]; rfl
theorem bndA_yes {bs : List UInt8} {i : Nat} (h : i < bs.length) : bndA bs i = (i + (dec (bs.drop i)).2.toNat) :: bndA bs (i + (dec (bs.drop i)).2.toNat) := by
  unfold bndA
  obtain ⟨k, hk⟩ : ∃ k, bs.length - i = k + 1 := ⟨bs.length - i - 1, by omega⟩
  rw [hk, bndF, if_pos h]
  have := step_bd h
  rw [bndF_fuel (bs := bs) (bs.length - (i + (dec (bs.drop i)).2.toNat)) k _ (Nat.le_refl _) (by omega)]
theorem bndA_len {bs : List UInt8} : ∀ (k i : Nat), bs.length - i ≤ k → (bndA bs i).length ≤ k
  | 0, i, h => by rw [bndA_no (by omega)]; exact Nat.le_refl _
  | k + 1, i, h => by
    by_cases hi : i < bs.length
    · have := step_bd hi
      rw [bndA_yes hi, List.length_cons]
      have := bndA_len (bs := bs) k (i + (dec (bs.drop i)).2.toNat) (by omega)
      omega
    · rw [bndA_no hi]; exact Nat.zero_le _
theorem q_64 {r : Int} (h : 0 ≤ r) : r.tdiv (Int.ofNat (63 + 1)) = r / 64 := Int.tdiv_eq_ediv_of_nonneg h
theorem q_4096 {r : Int} (h : 0 ≤ r) : r.tdiv (Int.ofNat (4095 + 1)) = r / 4096 := Int.tdiv_eq_ediv_of_nonneg h
theorem q_262144 {r : Int} (h : 0 ≤ r) : r.tdiv (Int.ofNat (262143 + 1)) = r / 262144 := Int.tdiv_eq_ediv_of_nonneg h
theorem m_64 {r : Int} (h : 0 ≤ r) : r.tmod (Int.ofNat (63 + 1)) = r % 64 := Int.tmod_eq_emod_of_nonneg h
theorem wrapB {x : Int} (h : 0 ≤ x ∧ x < 256) : IntKind.u8.wrap x = x := by
  obtain ⟨n, rfl⟩ := Int.eq_ofNat_of_zero_le h.1
  have : ∀ m : Nat, m < 256 → IntKind.u8.wrap (m : Int) = m := by decide +kernel
  exact this n (by omega)
theorem scalar_of {r : Int} (h : ¬ r < 0 ∧ ¬ r > 1114111 ∧ ¬ (r ≥ 55296 ∧ r ≤ 57343)) : scalar r = true := by
  unfold scalar; exact decide_eq_true (by omega)
theorem scalar_no {r : Int} (h : r < 0 ∨ r > 1114111 ∨ (r ≥ 55296 ∧ r ≤ 57343)) : scalar r = false := by
  unfold scalar; exact decide_eq_false (by omega)
theorem putB_no {r : Int} (h : r < 0 ∨ r > 1114111 ∨ (r ≥ 55296 ∧ r ≤ 57343)) : pack [Dat.val (Value.string ⟨#[]⟩)] = Dat.val (Value.string ⟨(putB r).toArray⟩) := by
  rw [putB, putN, if_neg (by rw [scalar_no h]; decide)]; rfl
theorem putB1 {r : Int} (h : scalar r = true) (h0 : 0 ≤ r) (h1 : r < 128) : some (Dat.sl 1 [.val (.int .u8 (IntKind.u8.wrap r))]) = some (Dat.sl 1 ((putB r).map byteD)) := by
  rw [putB_map, putN, if_pos h, if_pos h1, wrapB (by omega)]; rfl
theorem putB2 {r : Int} (h : scalar r = true) (h0 : 0 ≤ r) (h1 : ¬ r < 128) (h2 : r < 2048) :
    some (Dat.sl 1 [.val (.int .u8 (IntKind.u8.wrap (IntKind.i64.wrap (192 + IntKind.i64.wrap (r.tdiv (Int.ofNat (63 + 1))))))), .val (.int .u8 (IntKind.u8.wrap (IntKind.i64.wrap (128 + r.tmod (Int.ofNat (63 + 1))))))]) = some (Dat.sl 1 ((putB r).map byteD)) := by
  rw [putB_map, putN, if_pos h, if_neg h1, if_pos h2]
  simp (disch := omega) only [q_64, m_64, wrapI, wrapB, List.map_cons, List.map_nil, u8]
theorem putB3 {r : Int} (h : scalar r = true) (h0 : 0 ≤ r) (h1 : ¬ r < 2048) (h2 : r < 65536) :
    some (Dat.sl 1 [.val (.int .u8 (IntKind.u8.wrap (IntKind.i64.wrap (224 + IntKind.i64.wrap (r.tdiv (Int.ofNat (4095 + 1))))))), .val (.int .u8 (IntKind.u8.wrap (IntKind.i64.wrap (128 + (IntKind.i64.wrap (r.tdiv (Int.ofNat (63 + 1)))).tmod (Int.ofNat (63 + 1)))))), .val (.int .u8 (IntKind.u8.wrap (IntKind.i64.wrap (128 + r.tmod (Int.ofNat (63 + 1))))))]) = some (Dat.sl 1 ((putB r).map byteD)) := by
  rw [putB_map, putN, if_pos h, if_neg (by omega), if_neg h1, if_pos h2]
  simp (disch := omega) only [q_64, q_4096, m_64, wrapI, wrapB, List.map_cons, List.map_nil, u8]
theorem putB4 {r : Int} (h : scalar r = true) (h0 : 0 ≤ r) (h1 : ¬ r < 65536) (h2 : r ≤ 1114111) :
    some (Dat.sl 1 [.val (.int .u8 (IntKind.u8.wrap (IntKind.i64.wrap (240 + IntKind.i64.wrap (r.tdiv (Int.ofNat (262143 + 1))))))), .val (.int .u8 (IntKind.u8.wrap (IntKind.i64.wrap (128 + (IntKind.i64.wrap (r.tdiv (Int.ofNat (4095 + 1)))).tmod (Int.ofNat (63 + 1)))))), .val (.int .u8 (IntKind.u8.wrap (IntKind.i64.wrap (128 + (IntKind.i64.wrap (r.tdiv (Int.ofNat (63 + 1)))).tmod (Int.ofNat (63 + 1)))))), .val (.int .u8 (IntKind.u8.wrap (IntKind.i64.wrap (128 + r.tmod (Int.ofNat (63 + 1))))))]) = some (Dat.sl 1 ((putB r).map byteD)) := by
  rw [putB_map, putN, if_pos h, if_neg (by omega), if_neg (by omega), if_neg h1]
  simp (disch := omega) only [q_64, q_4096, q_262144, m_64, wrapI, wrapB, List.map_cons, List.map_nil, u8]
attribute [local irreducible] T TL CallT Decidable.decide
theorem Class_c (r : Int) : CallE X 33 [.val (.int .i64 r)] (.val (.int .i64 (classS r))) := by
  refine CallE.mk (X := X) Try.func33 rfl rfl Try.ntmps33 rfl rfl ?_
  repeat' (first | refine TL.pure rfl rfl ?_ | refine TL.done ?_ | refine TL.store' rfl rfl rfl rfl rfl rfl rfl rfl ?_ | refine TL.loadPtr rfl rfl rfl rfl rfl ?_ | refine TL.build rfl rfl rfl rfl rfl rfl ?_ | refine TL.pickT rfl rfl rfl ?_ | refine TL.pickF rfl rfl rfl ?_ | refine T.seq ?_ | refine T.region ?_ | refine T.condT rfl ?_ | refine T.condF rfl ?_ | refine TL.on rfl rfl rfl rfl ?_ | refine TL.offT rfl rfl rfl rfl rfl rfl ?_ | refine TL.offF rfl rfl rfl rfl rfl rfl ?_ | refine TL.offU rfl rfl rfl rfl rfl rfl ?_ | (refine T.condD rfl (fun _ => ?_) (fun _ => ?_) <;> try (exfalso; omega)) | (refine T.condE rfl (fun _ => ?_) (fun _ => ?_) <;> try (exfalso; omega)) | (refine T.condNe rfl (fun _ => ?_) (fun _ => ?_) <;> try (exfalso; omega)) | refine T.condN rfl (fun _ => ?_) (fun _ => ?_) | refine T.cond rfl (fun _ => ?_) (fun _ => ?_) | (refine TL.gD rfl rfl rfl rfl (fun _ => ?_) (fun _ => ?_) <;> try (exfalso; omega)) | (refine TL.gE rfl rfl rfl rfl (fun _ => ?_) (fun _ => ?_) <;> try (exfalso; omega)) | (refine TL.gNe rfl rfl rfl rfl (fun _ => ?_) (fun _ => ?_) <;> try (exfalso; omega)) | refine TL.gN rfl rfl rfl rfl (fun _ => ?_) (fun _ => ?_) | refine TL.gB rfl rfl rfl rfl (fun _ => ?_) (fun _ => ?_) | refine T.block ?_ | (refine T.exit ?_; show T X _ _ _) | refine TL.doneB ?_ | refine T.skipDone ?_ | refine T.skipDoneB ?_ | refine T.ret (T.retPost rfl ?_) | refine TL.nil (T.endPost rfl ?_))
  all_goals exact int_eq (by unfold classS; (repeat' split) <;> omega)
theorem Count_c (bs : List UInt8) (hl : bs.length ≤ 4611686018427387904) : CallE X 37 [.sl 1 (bs.map byteD)] (.val (.int .i64 (bndA bs 0).length)) := by
  refine CallE.mk (X := X) Try.func37 rfl rfl Try.ntmps37 rfl rfl ?_
  repeat' (first | refine TL.pure rfl rfl ?_ | refine TL.done ?_ | refine TL.store' rfl rfl rfl rfl rfl rfl rfl rfl ?_ | refine TL.loadPtr rfl rfl rfl rfl rfl ?_ | refine TL.build rfl rfl rfl rfl rfl rfl ?_ | refine TL.pickT rfl rfl rfl ?_ | refine TL.pickF rfl rfl rfl ?_ | refine T.seq ?_ | refine T.region ?_ | refine T.condT rfl ?_ | refine T.condF rfl ?_ | refine TL.on rfl rfl rfl rfl ?_ | refine TL.offT rfl rfl rfl rfl rfl rfl ?_ | refine TL.offF rfl rfl rfl rfl rfl rfl ?_ | refine TL.offU rfl rfl rfl rfl rfl rfl ?_ | (refine T.condD rfl (fun _ => ?_) (fun _ => ?_) <;> try (exfalso; omega)) | (refine T.condE rfl (fun _ => ?_) (fun _ => ?_) <;> try (exfalso; omega)) | (refine T.condNe rfl (fun _ => ?_) (fun _ => ?_) <;> try (exfalso; omega)) | refine T.condN rfl (fun _ => ?_) (fun _ => ?_) | refine T.cond rfl (fun _ => ?_) (fun _ => ?_) | (refine TL.gD rfl rfl rfl rfl (fun _ => ?_) (fun _ => ?_) <;> try (exfalso; omega)) | (refine TL.gE rfl rfl rfl rfl (fun _ => ?_) (fun _ => ?_) <;> try (exfalso; omega)) | (refine TL.gNe rfl rfl rfl rfl (fun _ => ?_) (fun _ => ?_) <;> try (exfalso; omega)) | refine TL.gN rfl rfl rfl rfl (fun _ => ?_) (fun _ => ?_) | refine TL.gB rfl rfl rfl rfl (fun _ => ?_) (fun _ => ?_) | refine T.block ?_ | (refine T.exit ?_; show T X _ _ _) | refine TL.doneB ?_ | refine T.skipDone ?_ | refine T.skipDoneB ?_ | refine T.ret (T.retPost rfl ?_) | refine TL.nil (T.endPost rfl ?_))
  refine T.only [0, 3, 4] rfl ?_
  refine T.loop (fun S => ∃ (i c : Nat), S = ⟨[(4, .val (.int .i64 i)), (3, .val (.int .i64 c)), (0, .sl 1 (bs.map byteD))], [], 17⟩ ∧ c + (bndA bs i).length = (bndA bs 0).length ∧ i ≤ bs.length)
      (fun S => match lk S.sl 4 with | some (.val (.int _ i)) => bs.length - i.toNat | _ => 0) ⟨0, 0, rfl, Nat.zero_add _, Nat.zero_le _⟩ ?_
  rintro S ⟨i, c, rfl, hc, hi⟩
  have hs := Size_c bs i hl
  repeat' (first | refine TL.callE (X := X) fn42 hs rfl rfl rfl rfl ?_ | refine TL.pure rfl rfl ?_ | refine TL.done ?_ | refine TL.store' rfl rfl rfl rfl rfl rfl rfl rfl ?_ | refine TL.loadPtr rfl rfl rfl rfl rfl ?_ | refine TL.build rfl rfl rfl rfl rfl rfl ?_ | refine TL.pickT rfl rfl rfl ?_ | refine TL.pickF rfl rfl rfl ?_ | refine T.seq ?_ | refine T.region ?_ | refine T.condT rfl ?_ | refine T.condF rfl ?_ | refine TL.on rfl rfl rfl rfl ?_ | refine TL.offT rfl rfl rfl rfl rfl rfl ?_ | refine TL.offF rfl rfl rfl rfl rfl rfl ?_ | refine TL.offU rfl rfl rfl rfl rfl rfl ?_ | (refine T.condD rfl (fun _ => ?_) (fun _ => ?_) <;> try (exfalso; omega)) | (refine T.condE rfl (fun _ => ?_) (fun _ => ?_) <;> try (exfalso; omega)) | (refine T.condNe rfl (fun _ => ?_) (fun _ => ?_) <;> try (exfalso; omega)) | refine T.condN rfl (fun _ => ?_) (fun _ => ?_) | refine T.cond rfl (fun _ => ?_) (fun _ => ?_) | (refine TL.gD rfl rfl rfl rfl (fun _ => ?_) (fun _ => ?_) <;> try (exfalso; omega)) | (refine TL.gE rfl rfl rfl rfl (fun _ => ?_) (fun _ => ?_) <;> try (exfalso; omega)) | (refine TL.gNe rfl rfl rfl rfl (fun _ => ?_) (fun _ => ?_) <;> try (exfalso; omega)) | refine TL.gN rfl rfl rfl rfl (fun _ => ?_) (fun _ => ?_) | refine TL.gB rfl rfl rfl rfl (fun _ => ?_) (fun _ => ?_) | refine T.block ?_ | (refine T.exit ?_; show T X _ _ _) | refine TL.doneB ?_ | refine T.skipDone ?_ | refine T.skipDoneB ?_ | refine T.ret (T.retPost rfl ?_) | refine TL.nil (T.endPost rfl ?_))
  · rename_i h
    have h' : i < bs.length := by simpa using h
    have hb := step_bd h'
    have hL := bndA_len (bs := bs) bs.length 0 (by omega)
    have e1 : IntKind.i64.wrap ((i : Int) + (atS bs i).2) = ((i + (dec (bs.drop i)).2.toNat : Nat) : Int) := by
      rw [atS, if_pos (by omega), Int.toNat_natCast, wrapI (by omega)]; omega
    rw [bndA_yes h', List.length_cons] at hc
    have e2 : IntKind.i64.wrap ((c : Int) + 1) = ((c + 1 : Nat) : Int) := by rw [wrapI (by omega)]; omega
    rw [e1, e2]
    refine TL.only [0, 3, 4] rfl (TL.nil (show _ ∧ _ from ⟨⟨_, _, rfl, by omega, hb.2⟩, ?_⟩))
    show bs.length - Int.toNat _ < bs.length - Int.toNat _
    omega
  · rename_i h
    have h' : ¬ i < bs.length := by simpa using h
    rw [bndA_no h'] at hc
    exact int_eq (by rw [← hc]; simp)
set_option maxHeartbeats 4000000 in
theorem refPut_c (r : Int) : CallE X 32 [.val (.int .i64 r)] (.val (.string ⟨(putB r).toArray⟩)) := by
  refine CallE.mk (X := X) Try.func32 rfl rfl Try.ntmps32 rfl rfl ?_
  repeat' (first | refine TL.lit (X := X) (sz := 1) rfl rfl rfl rfl rfl rfl rfl rfl ?_ | refine TL.pure rfl rfl ?_ | refine TL.done ?_ | refine TL.store' rfl rfl rfl rfl rfl rfl rfl rfl ?_ | refine TL.loadPtr rfl rfl rfl rfl rfl ?_ | refine TL.build rfl rfl rfl rfl rfl rfl ?_ | refine TL.pickT rfl rfl rfl ?_ | refine TL.pickF rfl rfl rfl ?_ | refine T.seq ?_ | refine T.region ?_ | refine T.condT rfl ?_ | refine T.condF rfl ?_ | refine TL.on rfl rfl rfl rfl ?_ | refine TL.offT rfl rfl rfl rfl rfl rfl ?_ | refine TL.offF rfl rfl rfl rfl rfl rfl ?_ | refine TL.offU rfl rfl rfl rfl rfl rfl ?_ | (refine T.condD rfl (fun _ => ?_) (fun _ => ?_) <;> try (exfalso; omega)) | (refine T.condE rfl (fun _ => ?_) (fun _ => ?_) <;> try (exfalso; omega)) | (refine T.condNe rfl (fun _ => ?_) (fun _ => ?_) <;> try (exfalso; omega)) | refine T.condN rfl (fun _ => ?_) (fun _ => ?_) | refine T.cond rfl (fun _ => ?_) (fun _ => ?_) | (refine TL.gD rfl rfl rfl rfl (fun _ => ?_) (fun _ => ?_) <;> try (exfalso; omega)) | (refine TL.gE rfl rfl rfl rfl (fun _ => ?_) (fun _ => ?_) <;> try (exfalso; omega)) | (refine TL.gNe rfl rfl rfl rfl (fun _ => ?_) (fun _ => ?_) <;> try (exfalso; omega)) | refine TL.gN rfl rfl rfl rfl (fun _ => ?_) (fun _ => ?_) | refine TL.gB rfl rfl rfl rfl (fun _ => ?_) (fun _ => ?_) | refine T.block ?_ | (refine T.exit ?_; show T X _ _ _) | refine TL.doneB ?_ | refine T.skipDone ?_ | refine T.skipDoneB ?_ | refine T.ret (T.retPost rfl ?_) | refine TL.nil (T.endPost rfl ?_))
  · exact putB_no (by omega)
  · exact putB_no (by omega)
  · exact putB_no (by omega)
  all_goals have hs : scalar r = true := scalar_of (by omega)
  · refine TL.toStr (X := X) (bs := putB r) (putB3 hs (by omega) (by omega) (by omega)) rfl rfl rfl rfl rfl rfl rfl ?_
    repeat' (first | refine TL.pure rfl rfl ?_ | refine TL.done ?_ | refine TL.store' rfl rfl rfl rfl rfl rfl rfl rfl ?_ | refine TL.loadPtr rfl rfl rfl rfl rfl ?_ | refine TL.build rfl rfl rfl rfl rfl rfl ?_ | refine TL.pickT rfl rfl rfl ?_ | refine TL.pickF rfl rfl rfl ?_ | refine T.seq ?_ | refine T.region ?_ | refine T.condT rfl ?_ | refine T.condF rfl ?_ | refine TL.on rfl rfl rfl rfl ?_ | refine TL.offT rfl rfl rfl rfl rfl rfl ?_ | refine TL.offF rfl rfl rfl rfl rfl rfl ?_ | refine TL.offU rfl rfl rfl rfl rfl rfl ?_ | (refine T.condD rfl (fun _ => ?_) (fun _ => ?_) <;> try (exfalso; omega)) | (refine T.condE rfl (fun _ => ?_) (fun _ => ?_) <;> try (exfalso; omega)) | (refine T.condNe rfl (fun _ => ?_) (fun _ => ?_) <;> try (exfalso; omega)) | refine T.condN rfl (fun _ => ?_) (fun _ => ?_) | refine T.cond rfl (fun _ => ?_) (fun _ => ?_) | (refine TL.gD rfl rfl rfl rfl (fun _ => ?_) (fun _ => ?_) <;> try (exfalso; omega)) | (refine TL.gE rfl rfl rfl rfl (fun _ => ?_) (fun _ => ?_) <;> try (exfalso; omega)) | (refine TL.gNe rfl rfl rfl rfl (fun _ => ?_) (fun _ => ?_) <;> try (exfalso; omega)) | refine TL.gN rfl rfl rfl rfl (fun _ => ?_) (fun _ => ?_) | refine TL.gB rfl rfl rfl rfl (fun _ => ?_) (fun _ => ?_) | refine T.block ?_ | (refine T.exit ?_; show T X _ _ _) | refine TL.doneB ?_ | refine T.skipDone ?_ | refine T.skipDoneB ?_ | refine T.ret (T.retPost rfl ?_) | refine TL.nil (T.endPost rfl ?_))
    rfl
  · refine TL.toStr (X := X) (bs := putB r) (putB4 hs (by omega) (by omega) (by omega)) rfl rfl rfl rfl rfl rfl rfl ?_
    repeat' (first | refine TL.pure rfl rfl ?_ | refine TL.done ?_ | refine TL.store' rfl rfl rfl rfl rfl rfl rfl rfl ?_ | refine TL.loadPtr rfl rfl rfl rfl rfl ?_ | refine TL.build rfl rfl rfl rfl rfl rfl ?_ | refine TL.pickT rfl rfl rfl ?_ | refine TL.pickF rfl rfl rfl ?_ | refine T.seq ?_ | refine T.region ?_ | refine T.condT rfl ?_ | refine T.condF rfl ?_ | refine TL.on rfl rfl rfl rfl ?_ | refine TL.offT rfl rfl rfl rfl rfl rfl ?_ | refine TL.offF rfl rfl rfl rfl rfl rfl ?_ | refine TL.offU rfl rfl rfl rfl rfl rfl ?_ | (refine T.condD rfl (fun _ => ?_) (fun _ => ?_) <;> try (exfalso; omega)) | (refine T.condE rfl (fun _ => ?_) (fun _ => ?_) <;> try (exfalso; omega)) | (refine T.condNe rfl (fun _ => ?_) (fun _ => ?_) <;> try (exfalso; omega)) | refine T.condN rfl (fun _ => ?_) (fun _ => ?_) | refine T.cond rfl (fun _ => ?_) (fun _ => ?_) | (refine TL.gD rfl rfl rfl rfl (fun _ => ?_) (fun _ => ?_) <;> try (exfalso; omega)) | (refine TL.gE rfl rfl rfl rfl (fun _ => ?_) (fun _ => ?_) <;> try (exfalso; omega)) | (refine TL.gNe rfl rfl rfl rfl (fun _ => ?_) (fun _ => ?_) <;> try (exfalso; omega)) | refine TL.gN rfl rfl rfl rfl (fun _ => ?_) (fun _ => ?_) | refine TL.gB rfl rfl rfl rfl (fun _ => ?_) (fun _ => ?_) | refine T.block ?_ | (refine T.exit ?_; show T X _ _ _) | refine TL.doneB ?_ | refine T.skipDone ?_ | refine T.skipDoneB ?_ | refine T.ret (T.retPost rfl ?_) | refine TL.nil (T.endPost rfl ?_))
    rfl
  · refine TL.toStr (X := X) (bs := putB r) (putB1 hs (by omega) (by omega)) rfl rfl rfl rfl rfl rfl rfl ?_
    repeat' (first | refine TL.pure rfl rfl ?_ | refine TL.done ?_ | refine TL.store' rfl rfl rfl rfl rfl rfl rfl rfl ?_ | refine TL.loadPtr rfl rfl rfl rfl rfl ?_ | refine TL.build rfl rfl rfl rfl rfl rfl ?_ | refine TL.pickT rfl rfl rfl ?_ | refine TL.pickF rfl rfl rfl ?_ | refine T.seq ?_ | refine T.region ?_ | refine T.condT rfl ?_ | refine T.condF rfl ?_ | refine TL.on rfl rfl rfl rfl ?_ | refine TL.offT rfl rfl rfl rfl rfl rfl ?_ | refine TL.offF rfl rfl rfl rfl rfl rfl ?_ | refine TL.offU rfl rfl rfl rfl rfl rfl ?_ | (refine T.condD rfl (fun _ => ?_) (fun _ => ?_) <;> try (exfalso; omega)) | (refine T.condE rfl (fun _ => ?_) (fun _ => ?_) <;> try (exfalso; omega)) | (refine T.condNe rfl (fun _ => ?_) (fun _ => ?_) <;> try (exfalso; omega)) | refine T.condN rfl (fun _ => ?_) (fun _ => ?_) | refine T.cond rfl (fun _ => ?_) (fun _ => ?_) | (refine TL.gD rfl rfl rfl rfl (fun _ => ?_) (fun _ => ?_) <;> try (exfalso; omega)) | (refine TL.gE rfl rfl rfl rfl (fun _ => ?_) (fun _ => ?_) <;> try (exfalso; omega)) | (refine TL.gNe rfl rfl rfl rfl (fun _ => ?_) (fun _ => ?_) <;> try (exfalso; omega)) | refine TL.gN rfl rfl rfl rfl (fun _ => ?_) (fun _ => ?_) | refine TL.gB rfl rfl rfl rfl (fun _ => ?_) (fun _ => ?_) | refine T.block ?_ | (refine T.exit ?_; show T X _ _ _) | refine TL.doneB ?_ | refine T.skipDone ?_ | refine T.skipDoneB ?_ | refine T.ret (T.retPost rfl ?_) | refine TL.nil (T.endPost rfl ?_))
    rfl
  · refine TL.toStr (X := X) (bs := putB r) (putB2 hs (by omega) (by omega) (by omega)) rfl rfl rfl rfl rfl rfl rfl ?_
    repeat' (first | refine TL.pure rfl rfl ?_ | refine TL.done ?_ | refine TL.store' rfl rfl rfl rfl rfl rfl rfl rfl ?_ | refine TL.loadPtr rfl rfl rfl rfl rfl ?_ | refine TL.build rfl rfl rfl rfl rfl rfl ?_ | refine TL.pickT rfl rfl rfl ?_ | refine TL.pickF rfl rfl rfl ?_ | refine T.seq ?_ | refine T.region ?_ | refine T.condT rfl ?_ | refine T.condF rfl ?_ | refine TL.on rfl rfl rfl rfl ?_ | refine TL.offT rfl rfl rfl rfl rfl rfl ?_ | refine TL.offF rfl rfl rfl rfl rfl rfl ?_ | refine TL.offU rfl rfl rfl rfl rfl rfl ?_ | (refine T.condD rfl (fun _ => ?_) (fun _ => ?_) <;> try (exfalso; omega)) | (refine T.condE rfl (fun _ => ?_) (fun _ => ?_) <;> try (exfalso; omega)) | (refine T.condNe rfl (fun _ => ?_) (fun _ => ?_) <;> try (exfalso; omega)) | refine T.condN rfl (fun _ => ?_) (fun _ => ?_) | refine T.cond rfl (fun _ => ?_) (fun _ => ?_) | (refine TL.gD rfl rfl rfl rfl (fun _ => ?_) (fun _ => ?_) <;> try (exfalso; omega)) | (refine TL.gE rfl rfl rfl rfl (fun _ => ?_) (fun _ => ?_) <;> try (exfalso; omega)) | (refine TL.gNe rfl rfl rfl rfl (fun _ => ?_) (fun _ => ?_) <;> try (exfalso; omega)) | refine TL.gN rfl rfl rfl rfl (fun _ => ?_) (fun _ => ?_) | refine TL.gB rfl rfl rfl rfl (fun _ => ?_) (fun _ => ?_) | refine T.block ?_ | (refine T.exit ?_; show T X _ _ _) | refine TL.doneB ?_ | refine T.skipDone ?_ | refine T.skipDoneB ?_ | refine T.ret (T.retPost rfl ?_) | refine TL.nil (T.endPost rfl ?_))
    rfl
  · refine TL.toStr (X := X) (bs := putB r) (putB3 hs (by omega) (by omega) (by omega)) rfl rfl rfl rfl rfl rfl rfl ?_
    repeat' (first | refine TL.pure rfl rfl ?_ | refine TL.done ?_ | refine TL.store' rfl rfl rfl rfl rfl rfl rfl rfl ?_ | refine TL.loadPtr rfl rfl rfl rfl rfl ?_ | refine TL.build rfl rfl rfl rfl rfl rfl ?_ | refine TL.pickT rfl rfl rfl ?_ | refine TL.pickF rfl rfl rfl ?_ | refine T.seq ?_ | refine T.region ?_ | refine T.condT rfl ?_ | refine T.condF rfl ?_ | refine TL.on rfl rfl rfl rfl ?_ | refine TL.offT rfl rfl rfl rfl rfl rfl ?_ | refine TL.offF rfl rfl rfl rfl rfl rfl ?_ | refine TL.offU rfl rfl rfl rfl rfl rfl ?_ | (refine T.condD rfl (fun _ => ?_) (fun _ => ?_) <;> try (exfalso; omega)) | (refine T.condE rfl (fun _ => ?_) (fun _ => ?_) <;> try (exfalso; omega)) | (refine T.condNe rfl (fun _ => ?_) (fun _ => ?_) <;> try (exfalso; omega)) | refine T.condN rfl (fun _ => ?_) (fun _ => ?_) | refine T.cond rfl (fun _ => ?_) (fun _ => ?_) | (refine TL.gD rfl rfl rfl rfl (fun _ => ?_) (fun _ => ?_) <;> try (exfalso; omega)) | (refine TL.gE rfl rfl rfl rfl (fun _ => ?_) (fun _ => ?_) <;> try (exfalso; omega)) | (refine TL.gNe rfl rfl rfl rfl (fun _ => ?_) (fun _ => ?_) <;> try (exfalso; omega)) | refine TL.gN rfl rfl rfl rfl (fun _ => ?_) (fun _ => ?_) | refine TL.gB rfl rfl rfl rfl (fun _ => ?_) (fun _ => ?_) | refine T.block ?_ | (refine T.exit ?_; show T X _ _ _) | refine TL.doneB ?_ | refine T.skipDone ?_ | refine T.skipDoneB ?_ | refine T.ret (T.retPost rfl ?_) | refine TL.nil (T.endPost rfl ?_))
    rfl
end Go.Proofs.Ytbogkjbjgcclnaa
