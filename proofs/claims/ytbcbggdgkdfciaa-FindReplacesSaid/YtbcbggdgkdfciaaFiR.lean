/- Chapter 17: another text in a text's place, as the program puts it, and as the chapter does. -/
import Derived.Test.YtbcbggdgkdfciaaG1xc
import Derived.Test.YtbcbggdgkdfciaaG3xa
import Derived.Test.YtbcbggdgkdfciaaFio
set_option linter.unusedVariables false
namespace Go.Proofs.Ytbcbggdgkdfciaa.S
open Go Go.Sm
def frm (m : Nat) (l : List Int) : Int := l.foldl (fun _ x => x + m) 0
theorem frm_snoc (m : Nat) (l : List Int) (x : Int) : frm m (l ++ [x]) = x + m := by simp [frm, List.foldl_append]
/-- Places that are apart, one behind the other. -/
def Chain (m n : Nat) (l : List Int) : Prop := ∀ pre x suf, l = pre ++ x :: suf → frm m pre ≤ x ∧ 0 ≤ x ∧ x + m ≤ n
theorem chain_snoc {m n : Nat} {l : List Int} {x : Int} (h : Chain m n l) (h1 : frm m l ≤ x) (h2 : 0 ≤ x) (h3 : x + m ≤ n) : Chain m n (l ++ [x]) := fun pre y suf e => by
  rcases List.eq_nil_or_concat suf with rfl | ⟨M, k, rfl⟩
  · obtain ⟨rfl, h4⟩ := List.append_inj' e rfl
    simp at h4; subst h4
    exact ⟨h1, h2, h3⟩
  · have e' : l ++ [x] = (pre ++ y :: M) ++ [k] := by rw [e]; simp
    obtain ⟨h4, _⟩ := List.append_inj' e' rfl
    exact h pre y M h4
theorem chain_take {m n : Nat} {l : List Int} (h : Chain m n l) (k : Nat) : Chain m n (l.take k) := fun pre y suf e => h pre y (suf ++ l.drop k) (by
  have := List.take_append_drop k l
  rw [e] at this
  refine this.symm.trans ?_
  simp)
theorem chain_frm {m n : Nat} {l : List Int} (h : Chain m n l) : 0 ≤ frm m l ∧ frm m l ≤ n := by
  rcases List.eq_nil_or_concat l with rfl | ⟨M, k, rfl⟩
  · simp [frm]
  · have := h M k [] (by simp)
    rw [List.concat_eq_append, frm_snoc]; omega
theorem ap_chain {m n : Nat} (l : List Int) (h : ∀ x ∈ l, 0 ≤ x ∧ x + m ≤ n) : Chain m n (apF m l).2 ∧ frm m (apF m l).2 = (apF m l).1 := by
  induction l using snoc_ind with
  | nil => exact ⟨fun pre x suf e => by simp [apF] at e, rfl⟩
  | snoc l x ih =>
    obtain ⟨h1, h2⟩ := ih fun y hy => h y (by simp [hy])
    have hx := h x (by simp)
    rw [apF_snoc]
    unfold apS
    split
    · rename_i c
      exact ⟨chain_snoc h1 (by rw [h2]; exact c) hx.1 hx.2, frm_snoc _ _ _⟩
    · exact ⟨h1, h2⟩
theorem ap_ext (m : Int) : ∀ (l : List Int) (s : Int × List Int), ∃ r, (l.foldl (apS m) s).2 = s.2 ++ r
  | [], s => ⟨[], by simp⟩
  | x :: l, s => by
    rw [List.foldl_cons]
    obtain ⟨r, h⟩ := ap_ext m l (apS m s x)
    rw [h]
    unfold apS
    split
    · exact ⟨x :: r, by simp⟩
    · exact ⟨r, rfl⟩
theorem ap_one {m : Nat} {l : List Int} (h : ∀ x ∈ l, 0 ≤ x) : (apF m l).2.take 1 = l.take 1 := by
  cases l with
  | nil => rfl
  | cons x l =>
    unfold apF
    rw [List.foldl_cons, show apS (m : Int) (0, []) x = (x + m, [x]) from if_pos (h x (by simp))]
    obtain ⟨r, hr⟩ := ap_ext m l (x + m, [x])
    rw [hr]; simp
theorem mem_plx {p b : List UInt8} {i : Nat} {x : Int} (h : x ∈ ints (plx p b i)) : 0 ≤ x ∧ x + p.length ≤ b.length ∧ x < i := by
  obtain ⟨n, h1, rfl⟩ := mem_ints h
  obtain ⟨h2, h3⟩ := List.mem_filter.1 h1
  have := of_decide_eq_true h3
  have := List.mem_range.1 h2
  omega
/-- The places that are taken. -/
def used (p b : List UInt8) (al : Bool) : List Int := if al = true then (apF p.length (all p b)).2 else (all p b).take 1
theorem used_chain (p b : List UInt8) (al : Bool) : Chain p.length b.length (used p b al) := by
  have h := (ap_chain (m := p.length) (n := b.length) (all p b) (fun x hx => by have := mem_plx hx; omega)).1
  unfold used
  cases al with
  | true => exact h
  | false =>
    rw [if_neg (by simp), ← ap_one (m := p.length) (l := all p b) (fun x hx => (mem_plx hx).1)]
    exact chain_take h 1
theorem used_len (p b : List UInt8) (al : Bool) : (used p b al).length ≤ b.length := by
  have h1 := all_len p b
  have h2 := apF_len p.length (all p b)
  unfold used
  cases al with
  | true => rw [if_pos rfl]; omega
  | false => rw [if_neg (by simp), List.length_take]; omega
def rpS (b w : List UInt8) (m : Nat) (s : Int × List UInt8) (x : Int) : Int × List UInt8 := (x + m, s.2 ++ (b.take x.toNat).drop s.1.toNat ++ w)
def rpF (b w : List UInt8) (m : Nat) (l : List Int) : Int × List UInt8 := l.foldl (rpS b w m) (0, [])
theorem rpF_snoc (b w : List UInt8) (m : Nat) (l : List Int) (x : Int) : rpF b w m (l ++ [x]) = rpS b w m (rpF b w m l) x := by simp [rpF, List.foldl_append]
theorem rpF_frm (b w : List UInt8) (m : Nat) (l : List Int) : (rpF b w m l).1 = frm m l := by
  rcases List.eq_nil_or_concat l with rfl | ⟨M, k, rfl⟩
  · rfl
  · rw [List.concat_eq_append, rpF_snoc, frm_snoc]; rfl
theorem rpF_len (b w : List UInt8) (m : Nat) (hb : b.length ≤ 10000) (hw : w.length ≤ 10000) (l : List Int) : (rpF b w m l).2.length ≤ l.length * 20000 := by
  induction l using snoc_ind with
  | nil => simp [rpF]
  | snoc l x ih =>
    rw [rpF_snoc]
    unfold rpS
    simp only [List.length_append, List.length_drop, List.length_take, List.length_cons, List.length_nil]
    omega
theorem replace_eq {b p w : List UInt8} (al : Bool) (hb : b.length ≤ 10000) (hp : p.length ≤ 10000) (hw : w.length ≤ 10000) :
    find_Replace b p w al = some ((rpF b w p.length (used p b al)).2 ++ b.drop (frm p.length (used p b al)).toNat, ((used p b al).length : Int)) := by
  unfold find_Replace
  rw [apart_eq (by omega) (by omega), bnd_some']
  have h4 : (bnd (if al = true then some false else some (decide (((apF p.length (all p b)).2.length : Int) > 1)) : Option Bool) fun t2 => (if t2 = true then bnd (cut (apF p.length (all p b)).2 0 1) fun x6 => some x6 else some (apF p.length (all p b)).2 : Option (List Int))) = some (used p b al) := by
    unfold used
    cases al with
    | true => rw [if_pos rfl, if_pos rfl, bnd_some', if_neg (by simp)]
    | false =>
      rw [if_neg (by simp), if_neg (by simp), bnd_some', ← ap_one (m := p.length) (l := all p b) (fun x hx => (mem_plx hx).1)]
      by_cases c : ((apF p.length (all p b)).2.length : Int) > 1
      · rw [if_pos (decide_eq_true c), cut_of ⟨by omega, by omega, by omega⟩, bnd_some']; rfl
      · rw [if_neg (by simpa using c), List.take_of_length_le (by omega)]
  have hc := used_chain p b al
  have hul := used_len p b al
  have hl := loop_fold (f := find_Replace.l1 b p w (used p b al)) (fun i (s : Int × List UInt8) => (s.1, i, s.2)) (used p b al) (fun pre => rpF b w p.length pre) (t := rpF b w p.length (used p b al)) (fun pre x suf hs => by
    have hpl : pre.length + 1 ≤ b.length := by rw [hs] at hul; simp at hul; omega
    obtain ⟨h1, h2, h3⟩ := hc pre x suf hs
    have h0 : 0 ≤ frm p.length pre := (chain_frm (m := p.length) (n := b.length) (l := pre) (fun a y c e => hc a y (c ++ x :: suf) (by rw [hs, e]; simp))).1
    have hlen := rpF_len b w p.length hb hw pre
    have hf := rpF_frm b w p.length pre
    unfold find_Replace.l1
    dsimp only
    rw [if_pos (by rw [hs]; simp; omega), show idx (used p b al) (pre.length : Int) = some x by rw [hs]; exact idx_at _ _ _, bnd_some', hf, cut_of ⟨h0, h1, by omega⟩, bnd_some', app_of (by simp only [List.length_drop, List.length_take]; omega), bnd_some', app_of (by simp only [List.length_append, List.length_drop, List.length_take]; omega), bnd_some', w64_id ⟨by omega, by omega⟩, w64_id ⟨by omega, by omega⟩, rpF_snoc]
    unfold rpS
    dsimp only
    rw [hf]) (by
    unfold find_Replace.l1
    dsimp only
    rw [if_neg (by omega)])
  have hfr := chain_frm hc
  have hlen := rpF_len b w p.length hb hw (used p b al)
  have hf := rpF_frm b w p.length (used p b al)
  have key : ∀ (R : List Int → Option (List UInt8 × Int)), (bnd (if al = true then some false else some (decide (((apF p.length (all p b)).2.length : Int) > 1)) : Option Bool) fun t2 => bnd (if t2 = true then bnd (cut (apF p.length (all p b)).2 0 1) fun x6 => some x6 else some (apF p.length (all p b)).2 : Option (List Int)) R) = R (used p b al) := fun R => by
    cases hq : (if al = true then some false else some (decide (((apF p.length (all p b)).2.length : Int) > 1)) : Option Bool) with
    | none => rw [hq] at h4; cases h4
    | some q => rw [hq, bnd_some'] at h4; rw [bnd_some', h4, bnd_some']
  rw [key]
  rw [show loop (find_Replace.l1 b p w (used p b al)) (0, 0, []) = _ from hl, bnd_some', hf, cut_of ⟨hfr.1, hfr.2, by omega⟩, bnd_some', app_of (by simp only [List.length_drop, List.length_take]; omega), bnd_some', Int.toNat_natCast, List.take_length]
theorem take_drop_next {b : List UInt8} {i : Nat} {f : Nat} (hf : f ≤ i) (hi : i < b.length) : (b.take i).drop f ++ (b.take (i + 1)).drop i = (b.take (i + 1)).drop f := by
  have h1 : b.take (i + 1) = b.take i ++ (b.take (i + 1)).drop i := by
    have := List.take_append_drop i (b.take (i + 1))
    rw [List.take_take, show min i (i + 1) = i by omega] at this
    exact this.symm
  conv => rhs; rw [h1]
  rw [List.drop_append_of_le_length (by rw [List.length_take]; omega)]
theorem refReplace_eq {b p w : List UInt8} (al : Bool) (hb : b.length ≤ 10000) (hp : p.length ≤ 10000) (hw : w.length ≤ 10000) :
    ref17_Replace b p w al = some ((rpF b w p.length (used p b al)).2 ++ b.drop (frm p.length (used p b al)).toNat, ((used p b al).length : Int)) := by
  unfold ref17_Replace
  have hl := loop_eq (f := ref17_Replace.l1 b p w al) (t := ((rpF b w p.length (used p b al)).2 ++ b.drop (frm p.length (used p b al)).toNat, ((used p b al).length : Int))) (fun s : List UInt8 × Int × Int => ∃ (i : Nat) (L : List Int), s = ((rpF b w p.length L).2 ++ (b.take i).drop (frm p.length L).toNat, (L.length : Int), (i : Int)) ∧ 0 ≤ frm p.length L ∧ frm p.length L ≤ i ∧ i ≤ b.length ∧ L.length ≤ i ∧
      (if al = true then apF p.length (ints (plx p b i)) = (frm p.length L, L) else L = (ints (plx p b i)).take 1)) (fun s => b.length - s.2.2.toNat) (fun s hs => by
    obtain ⟨i, L, rfl, hf0, hf, hib, hLi, hU⟩ := hs
    unfold ref17_Replace.l1
    dsimp only
    by_cases e : i = b.length
    · rw [if_neg (by omega)]
      refine .inr ?_
      have hL : L = used p b al := by
        unfold used all
        rw [← e]
        cases al with
        | true => rw [if_pos rfl] at hU ⊢; rw [hU]
        | false => rw [if_neg (by simp)] at hU ⊢; exact hU
      rw [← hL, e, List.take_length]
    · have hlen := rpF_len b w p.length hb hw L
      rw [if_pos (by omega), refAt_eq (by omega) (by omega) (by omega), bnd_some']
      have hs1 := plx_succ p b i
      by_cases c : mt p b i = true
      · have hm : 1 ≤ p.length ∧ i + p.length ≤ b.length := by
          have := of_decide_eq_true c
          exact ⟨this.1, this.2.1⟩
        rw [if_pos c] at hs1
        rw [if_pos c]
        obtain ⟨r, h1, h2⟩ := plx_add p b (i + 1) (p.length - 1)
        rw [show i + 1 + (p.length - 1) = i + p.length by omega, hs1] at h1
        have go : (al = true ∨ L = []) → (∃ s', (bnd (some true) fun t11 => bnd (if t11 = true then bnd (catS ((rpF b w p.length L).2 ++ (b.take i).drop (frm p.length L).toNat) w) fun x17 => some (x17, w64 ((L.length : Int) + 1), w64 ((w64 ((i : Int) + (p.length : Int))) - 1)) else bnd (cut b (i : Int) (w64 ((i : Int) + 1))) fun x18 => bnd (catS ((rpF b w p.length L).2 ++ (b.take i).drop (frm p.length L).toNat) x18) fun x19 => some (x19, (L.length : Int), (i : Int)) : Option ((List UInt8) × Int × Int)) fun t15 => some (Lp.next (τ := List UInt8 × Int) (t15.1, t15.2.1, w64 (t15.2.2 + 1)))) = some (Lp.next s') ∧ (∃ (i : Nat) (L : List Int), s' = ((rpF b w p.length L).2 ++ (b.take i).drop (frm p.length L).toNat, (L.length : Int), (i : Int)) ∧ 0 ≤ frm p.length L ∧ frm p.length L ≤ i ∧ i ≤ b.length ∧ L.length ≤ i ∧
            (if al = true then apF p.length (ints (plx p b i)) = (frm p.length L, L) else L = (ints (plx p b i)).take 1)) ∧ b.length - s'.2.2.toNat < b.length - (i : Int).toNat) := fun ho => by
          rw [bnd_some', if_pos rfl]
          unfold catS
          rw [if_pos (by simp only [List.length_append, List.length_drop, List.length_take]; omega), bnd_some', bnd_some']
          dsimp only
          rw [w64_id (x := (L.length : Int) + 1) ⟨by omega, by omega⟩, w64_id (x := (i : Int) + (p.length : Int)) ⟨by omega, by omega⟩, w64_id (x := (i : Int) + (p.length : Int) - 1) ⟨by omega, by omega⟩, w64_id ⟨by omega, by omega⟩]
          refine ⟨_, rfl, ⟨i + p.length, L ++ [(i : Int)], ?_, ?_, ?_, by omega, by simp; omega, ?_⟩, ?_⟩
          · rw [rpF_snoc, frm_snoc]
            unfold rpS
            have hz : (b.take (i + p.length)).drop ((i : Int) + (p.length : Int)).toNat = [] := List.drop_eq_nil_of_le (by rw [List.length_take]; omega)
            rw [rpF_frm, hz, List.append_nil]
            simp only [Int.toNat_natCast, List.length_append, List.length_cons, List.length_nil, Prod.mk.injEq, true_and]
            omega
          · rw [frm_snoc]; omega
          · rw [frm_snoc]; omega
          · rw [h1, ints_append, ints_append, show ints [i] = [(i : Int)] from rfl]
            cases al with
            | true =>
              rw [if_pos rfl] at hU ⊢
              have hst : apF p.length (ints (plx p b i) ++ [(i : Int)]) = ((i : Int) + p.length, L ++ [(i : Int)]) := by
                rw [apF_snoc, hU]
                unfold apS
                rw [if_pos (show (i : Int) ≥ frm p.length L from hf)]
              rw [frm_snoc]
              unfold apF at hst ⊢
              rw [List.foldl_append, hst, ap_skip]
              intro x hx
              obtain ⟨n, hn, rfl⟩ := mem_ints hx
              have := h2 n hn
              show (n : Int) < (i : Int) + p.length
              omega
            | false =>
              rw [if_neg (by simp)] at hU ⊢
              have hL : L = [] := by
                rcases ho with ho | ho
                · cases ho
                · exact ho
              rw [hL] at hU ⊢
              have hz : ints (plx p b i) = [] := by
                cases hq : ints (plx p b i) with
                | nil => rfl
                | cons y l => rw [hq] at hU; simp at hU
              rw [hz]; simp
          · simp only [Int.toNat_natCast]; omega
        by_cases ho : al = true ∨ L = []
        · have h11 : (if al = true then some true else some ((L.length : Int) == 0) : Option Bool) = some true := by
            rcases ho with ho | ho
            · rw [if_pos ho]
            · cases al with
              | true => rfl
              | false => rw [if_neg (by simp), ho]; rfl
          rw [h11]
          exact .inl (go ho)
        · have hal : al = false := by
            cases al with
            | true => exact absurd (.inl rfl) ho
            | false => rfl
          subst hal
          have hLn : L ≠ [] := fun h => ho (.inr h)
          have hL1 : L.length ≠ 0 := fun h => hLn (List.length_eq_zero_iff.1 h)
          have h11 : (((L.length : Int)) == 0) = false := by rw [beq_eq_false_iff_ne]; omega
          rw [if_neg (by simp), h11, bnd_some', if_neg (by simp), wnext (by omega), cut_of ⟨by omega, by omega, by omega⟩, bnd_some', Int.toNat_natCast, Int.toNat_natCast]
          unfold catS
          rw [if_pos (by simp only [List.length_append, List.length_drop, List.length_take]; omega), bnd_some', bnd_some']
          dsimp only
          rw [wnext (by omega)]
          refine .inl ⟨_, rfl, ⟨i + 1, L, ?_, hf0, by omega, by omega, by omega, ?_⟩, by simp only [Int.toNat_natCast]; omega⟩
          · rw [List.append_assoc, take_drop_next (by omega) (by omega)]
          · rw [if_neg (by simp)] at hU ⊢
            rw [hs1, ints_append]
            have : ints (plx p b i) ≠ [] := fun h => by rw [h] at hU; exact hLn hU
            rw [List.take_append_of_le_length (by cases hq : ints (plx p b i) with
              | nil => exact absurd hq this
              | cons => simp)]
            exact hU
      · rw [if_neg c, List.append_nil] at hs1
        rw [if_neg c, bnd_some', if_neg (by simp), wnext (by omega), cut_of ⟨by omega, by omega, by omega⟩, bnd_some', Int.toNat_natCast, Int.toNat_natCast]
        unfold catS
        rw [if_pos (by simp only [List.length_append, List.length_drop, List.length_take]; omega), bnd_some', bnd_some']
        dsimp only
        rw [wnext (by omega)]
        refine .inl ⟨_, rfl, ⟨i + 1, L, ?_, hf0, by omega, by omega, by omega, by rw [hs1]; exact hU⟩, by simp only [Int.toNat_natCast]; omega⟩
        rw [List.append_assoc, take_drop_next (by omega) (by omega)]) (s := ([], 0, 0)) ⟨0, [], rfl, by simp [frm], by simp [frm], by omega, by simp, by cases al <;> rfl⟩
  rw [hl, bnd_some']
/-- What is replaced by itself. -/
theorem refSelf {b p : List UInt8} (al : Bool) (hb : b.length ≤ 10000) (hp : p.length ≤ 10000) : ∃ k, ref17_Replace b p p al = some (b, k) := by
  unfold ref17_Replace
  obtain ⟨t, h1, h2⟩ := loop_ind (f := ref17_Replace.l1 b p p al) (fun s : List UInt8 × Int × Int => ∃ (i : Nat) (k : Int), s = (b.take i, k, (i : Int)) ∧ i ≤ b.length) (fun s => b.length - s.2.2.toNat) (fun t => t.1 = b) (fun s hs => by
    obtain ⟨i, k, rfl, hib⟩ := hs
    unfold ref17_Replace.l1
    dsimp only
    by_cases e : i = b.length
    · rw [if_neg (by omega)]
      exact .inr ⟨_, rfl, by rw [e, List.take_length]⟩
    · rw [if_pos (by omega), refAt_eq (by omega) (by omega) (by omega), bnd_some']
      have stay : ∃ s', (bnd (some false) fun t11 => bnd (if t11 = true then bnd (catS (b.take i) p) fun x17 => some (x17, w64 (k + 1), w64 ((w64 ((i : Int) + (p.length : Int))) - 1)) else bnd (cut b (i : Int) (w64 ((i : Int) + 1))) fun x18 => bnd (catS (b.take i) x18) fun x19 => some (x19, k, (i : Int)) : Option ((List UInt8) × Int × Int)) fun t15 => some (Lp.next (τ := List UInt8 × Int) (t15.1, t15.2.1, w64 (t15.2.2 + 1)))) = some (Lp.next s') ∧ (∃ (i : Nat) (k : Int), s' = (b.take i, k, (i : Int)) ∧ i ≤ b.length) ∧ b.length - s'.2.2.toNat < b.length - (i : Int).toNat := by
        rw [bnd_some', if_neg (by simp), wnext (by omega), cut_of ⟨by omega, by omega, by omega⟩, bnd_some', Int.toNat_natCast, Int.toNat_natCast]
        unfold catS
        rw [if_pos (by simp only [List.length_drop, List.length_take]; omega), bnd_some', bnd_some']
        dsimp only
        rw [wnext (by omega)]
        refine ⟨_, rfl, ⟨i + 1, k, ?_, by omega⟩, by simp only [Int.toNat_natCast]; omega⟩
        have := take_drop_next (b := b) (i := i) (f := 0) (by omega) (by omega)
        rw [List.drop_zero, List.drop_zero] at this
        rw [this]
      by_cases c : mt p b i = true
      · have hm := of_decide_eq_true c
        rw [if_pos c]
        cases hq : (if al = true then some true else some (k == 0) : Option Bool) with
        | none => cases al <;> simp at hq
        | some q =>
          cases q with
          | false => exact .inl stay
          | true =>
            refine .inl ?_
            rw [bnd_some', if_pos rfl]
            unfold catS
            rw [if_pos (by simp only [List.length_take]; omega), bnd_some', bnd_some']
            dsimp only
            rw [w64_id (x := (i : Int) + (p.length : Int)) ⟨by omega, by omega⟩, w64_id (x := (i : Int) + (p.length : Int) - 1) ⟨by omega, by omega⟩, w64_id (x := (i : Int) + (p.length : Int) - 1 + 1) ⟨by omega, by omega⟩]
            refine ⟨_, rfl, ⟨i + p.length, w64 (k + 1), ?_, by omega⟩, by simp only; omega⟩
            have h3 := (cut_eqAt hm.2.1).2 hm.2.2
            have h4 := List.take_append_drop i (b.take (i + p.length))
            rw [List.take_take, show min i (i + p.length) = i by omega, h3] at h4
            rw [h4]
            simp only [Prod.mk.injEq, true_and]
            omega
      · rw [if_neg c]; exact .inl stay) (s := ([], 0, 0)) ⟨0, 0, rfl, by omega⟩
  rw [h1, bnd_some']
  exact ⟨t.2, by rw [← h2]⟩
end Go.Proofs.Ytbcbggdgkdfciaa.S
