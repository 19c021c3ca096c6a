/- Chapter 18: the texts of tests, plain. -/
import Derived.Test.YtpmhiiemklhbhaaGreatG0
import Derived.Test.YtpmhiiemklhbhaaGreatG1xa
import Derived.Test.YtpmhiiemklhbhaaGreatSD
set_option linter.unusedVariables false
namespace Go.Proofs.YtpmhiiemklhbhaaGreat.S
open Go Go.Sm
def hasNL (l : List UInt8) : Bool := l.any fun b => b == 13 || b == 10
def rightB (col op : Int) (arg : List UInt8) : Bool := decide (0 ≤ col ∧ col < 40 ∧ 0 ≤ op ∧ op < 7 ∧ arg.length ≤ 100) && !(hasNL arg) && (!(decide (op = 6)) || arg == [])
theorem right_eq (t : filter_Test) (h : t.fArg.length ≤ 100000) : filter_Right t = some (rightB t.fCol t.fOp t.fArg) := by
  have hsa : sAnyCRLF t.fArg = some (hasNL t.fArg) := by unfold sAnyCRLF; rw [if_pos (by omega)]; rfl
  unfold filter_Right rightB
  rw [hsa]
  by_cases h1 : t.fCol < 0
  · rw [if_pos h1, bnd_some', if_pos rfl, decide_eq_false (by omega)]; rfl
  · rw [if_neg h1, bnd_some']
    by_cases h2 : t.fCol ≥ 40
    · rw [decide_eq_true h2, if_pos rfl, decide_eq_false (by omega)]; rfl
    · rw [decide_eq_false h2, if_neg (by simp)]
      by_cases h3 : t.fOp < 0
      · rw [if_pos h3, bnd_some', if_pos rfl, decide_eq_false (by omega)]; rfl
      · rw [if_neg h3, bnd_some']
        by_cases h4 : t.fOp > 6
        · rw [decide_eq_true h4, if_pos rfl, decide_eq_false (by omega)]; rfl
        · rw [decide_eq_false h4, if_neg (by simp)]
          by_cases h5 : (t.fArg.length : Int) > 100
          · rw [if_pos h5, bnd_some', if_pos rfl, decide_eq_false (by omega)]; rfl
          · rw [if_neg h5, bnd_some', bnd_some', decide_eq_true (show 0 ≤ t.fCol ∧ t.fCol < 40 ∧ 0 ≤ t.fOp ∧ t.fOp < 7 ∧ t.fArg.length ≤ 100 by omega)]
            cases hasNL t.fArg with
            | true => rfl
            | false =>
              rw [if_neg (by simp)]
              by_cases h6 : t.fOp = 6
              · rw [if_pos h6, bnd_some', decide_eq_true h6]; simp
              · rw [if_neg h6, bnd_some', decide_eq_false h6]; rfl
theorem rright_eq (t : ref18_Test) (h : t.fArg.length ≤ 100000) : ref18_Right t = some (rightB t.fCol t.fOp t.fArg) := by
  unfold ref18_Right
  obtain ⟨q, h1, h2⟩ := loop_for (f := ref18_Right.l1 t) (fun i (_ : Unit) => i) t.fArg (fun pre _ => hasNL pre = false) (fun q => match q with | .brk _ => hasNL t.fArg = false | .ret v => v = false ∧ hasNL t.fArg = true) (fun pre x suf s hs hI => by
    have hl : t.fArg.length = pre.length + (suf.length + 1) := by rw [hs]; simp
    unfold ref18_Right.l1
    rw [if_pos (by omega), show idx t.fArg (pre.length : Int) = some x by rw [hs]; exact idx_at _ _ _, bnd_some']
    by_cases c1 : (x.toNat : Int) = 10
    · rw [if_pos c1, bnd_some', if_pos rfl]
      refine .inr ⟨_, rfl, rfl, ?_⟩
      have : x = 10 := UInt8.toNat_inj.1 (by simpa using (by omega : x.toNat = 10))
      subst this
      unfold hasNL; rw [hs]; simp
    · rw [if_neg c1, bnd_some']
      by_cases c2 : (x.toNat : Int) = 13
      · rw [beq_iff_eq.2 c2, if_pos rfl]
        refine .inr ⟨_, rfl, rfl, ?_⟩
        have : x = 13 := UInt8.toNat_inj.1 (by simpa using (by omega : x.toNat = 13))
        subst this
        unfold hasNL; rw [hs]; simp
      · rw [beq_eq_false_iff_ne.2 c2, if_neg (by simp), w64_id ⟨by omega, by omega⟩]
        refine .inl ⟨(), rfl, ?_⟩
        have n1 : (x == 13) = false := beq_eq_false_iff_ne.2 fun e => c2 (by rw [e]; rfl)
        have n2 : (x == 10) = false := beq_eq_false_iff_ne.2 fun e => c1 (by rw [e]; rfl)
        unfold hasNL at hI ⊢
        rw [List.any_append, hI]; simp [n1, n2]) (fun s hI => by
    unfold ref18_Right.l1
    rw [if_neg (by omega)]
    exact ⟨_, rfl, hI⟩) (s0 := ()) rfl
  rw [show loop (ref18_Right.l1 t) 0 = some q from h1, bnd_some']
  cases q with
  | ret v =>
    obtain ⟨rfl, h3⟩ := h2
    unfold rightB; rw [h3]; simp
  | brk u =>
    dsimp only at h2 ⊢
    unfold rightB
    rw [h2]
    by_cases a1 : t.fCol ≥ 0
    · rw [if_pos a1]
      by_cases a2 : t.fCol < 40
      · rw [if_pos a2]
        by_cases a3 : t.fOp ≥ 0
        · rw [if_pos a3]
          by_cases a4 : t.fOp < 7
          · rw [if_pos a4]
            by_cases a5 : (t.fArg.length : Int) ≤ 100
            · rw [if_pos a5, decide_eq_true (show 0 ≤ t.fCol ∧ t.fCol < 40 ∧ 0 ≤ t.fOp ∧ t.fOp < 7 ∧ t.fArg.length ≤ 100 by omega)]
              by_cases h6 : t.fOp = 6
              · rw [if_pos h6, bnd_some', decide_eq_true h6]; simp
              · rw [if_neg h6, bnd_some', decide_eq_false h6]; rfl
            · rw [if_neg a5, bnd_some', decide_eq_false (by omega)]; rfl
          · rw [if_neg a4, bnd_some', decide_eq_false (by omega)]; rfl
        · rw [if_neg a3, bnd_some', decide_eq_false (by omega)]; rfl
      · rw [if_neg a2, bnd_some', decide_eq_false (by omega)]; rfl
    · rw [if_neg a1, bnd_some', decide_eq_false (by omega)]; rfl
theorem right_of {col op : Int} {arg : List UInt8} (h : rightB col op arg = true) : 0 ≤ col ∧ col < 40 ∧ 0 ≤ op ∧ op < 7 ∧ arg.length ≤ 100 := by
  unfold rightB at h
  simp only [Bool.and_eq_true, decide_eq_true_eq] at h
  exact h.1.1
/-! ### their texts -/
def sgn : List UInt8 := [126, 61, 60, 62, 94, 36, 63]
def digs (n : Nat) : List UInt8 := if n < 10 then [UInt8.ofNat (48 + n)] else [UInt8.ofNat (48 + n / 10), UInt8.ofNat (48 + n % 10)]
theorem texts : ∀ c : Fin 40, num_Text ((c.1 : Int) + 1) = some (digs (c.1 + 1)) ∧ ref02_Text ((c.1 : Int) + 1) = some (digs (c.1 + 1)) := by decide +kernel
theorem signs : ∀ o : Fin 7, cut sgn (o.1 : Int) ((o.1 : Int) + 1) = some [sgn.getD o.1 0] ∧ sIndexByte sgn (sgn.getD o.1 0) = (o.1 : Int) := by decide +kernel
theorem digs_len (n : Nat) : 1 ≤ (digs n).length ∧ (digs n).length ≤ 2 := by unfold digs; split <;> simp
def headL (col op : Int) (nt : Bool) : List UInt8 := (if nt = true then [33] else []) ++ (digs (col.toNat + 1) ++ [sgn.getD op.toNat 0])
def printL (col op : Int) (arg : List UInt8) (nt : Bool) : List UInt8 := headL col op nt ++ arg
theorem text_of {col : Int} (h : 0 ≤ col ∧ col < 40) : num_Text (w64 (col + 1)) = some (digs (col.toNat + 1)) ∧ ref02_Text (w64 (col + 1)) = some (digs (col.toNat + 1)) := by
  have := texts ⟨col.toNat, by omega⟩
  rw [w64_id ⟨by omega, by omega⟩]
  rw [show ((⟨col.toNat, by omega⟩ : Fin 40).1 : Int) = col by show ((col.toNat : Nat) : Int) = col; omega] at this
  exact this
theorem sign_of {op : Int} (h : 0 ≤ op ∧ op < 7) : cut sgn op (w64 (op + 1)) = some [sgn.getD op.toNat 0] ∧ sIndexByte sgn (sgn.getD op.toNat 0) = op := by
  have := signs ⟨op.toNat, by omega⟩
  rw [w64_id ⟨by omega, by omega⟩]
  rw [show ((⟨op.toNat, by omega⟩ : Fin 7).1 : Int) = op by show ((op.toNat : Nat) : Int) = op; omega] at this
  exact this
theorem catS_of {l m : List UInt8} (h : l.length + m.length ≤ 9223372036854775807) : catS l m = some (l ++ m) := if_pos h
theorem print_eq (t : filter_Test) (h : t.fArg.length ≤ 100000) (hr : rightB t.fCol t.fOp t.fArg = true) : filter_Print t = some (printL t.fCol t.fOp t.fArg t.fNot) := by
  obtain ⟨r1, r2, r3, r4, r5⟩ := right_of hr
  have hd := digs_len (t.fCol.toNat + 1)
  unfold filter_Print printL headL
  rw [right_eq t h, hr, bnd_some', if_pos rfl, (text_of ⟨r1, r2⟩).1]
  have hs := (sign_of (op := t.fOp) ⟨r3, r4⟩).1
  unfold sgn at hs ⊢
  by_cases c : t.fNot = true
  · rw [if_pos c, if_pos c, bnd_some', bnd_some', catS_of (by simp; omega), bnd_some', hs, bnd_some', catS_of (by simp; omega), bnd_some', catS_of (by simp; omega), bnd_some']
    simp
  · rw [if_neg c, if_neg c, bnd_some', bnd_some', catS_of (by simp; omega), bnd_some', hs, bnd_some', catS_of (by simp; omega), bnd_some', catS_of (by simp; omega), bnd_some']
    simp
theorem print_no (t : filter_Test) (h : t.fArg.length ≤ 100000) (hr : rightB t.fCol t.fOp t.fArg = false) : filter_Print t = some [] := by
  unfold filter_Print
  rw [right_eq t h, hr, bnd_some', if_neg (by simp)]
theorem rprint_eq (t : ref18_Test) (h : t.fArg.length ≤ 100000) (hr : rightB t.fCol t.fOp t.fArg = true) : ref18_Print t = some (printL t.fCol t.fOp t.fArg t.fNot) := by
  obtain ⟨r1, r2, r3, r4, r5⟩ := right_of hr
  have hd := digs_len (t.fCol.toNat + 1)
  unfold ref18_Print printL headL
  rw [rright_eq t h, hr, bnd_some', if_pos rfl, (text_of ⟨r1, r2⟩).2]
  have hs := (sign_of (op := t.fOp) ⟨r3, r4⟩).1
  unfold sgn at hs ⊢
  rw [bnd_some', hs, bnd_some', catS_of (by simp; omega), bnd_some', catS_of (by simp; omega), bnd_some']
  by_cases c : t.fNot = true
  · rw [if_pos c, if_pos c, catS_of (by simp; omega), bnd_some']
    simp
  · rw [if_neg c, if_neg c]
    simp
theorem rprint_no (t : ref18_Test) (h : t.fArg.length ≤ 100000) (hr : rightB t.fCol t.fOp t.fArg = false) : ref18_Print t = some [] := by
  unfold ref18_Print
  rw [rright_eq t h, hr, bnd_some', if_neg (by simp)]
end Go.Proofs.YtpmhiiemklhbhaaGreat.S
