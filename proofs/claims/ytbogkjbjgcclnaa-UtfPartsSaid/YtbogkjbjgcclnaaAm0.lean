/- A small program logic over the kit's wp: values with their content. Part 0: data and how machine values encode them. -/
import Derived.Tactics
import Derived.Below
import Derived.WalkKit
namespace Go.Am

/-- A value with its content. 'sl': a slice of elements that nobody writes any more (each of so many cells); 'nod': a pointer into memory that nobody writes any more; 'ptr': a pointer into a box; 'os': a slice of an array that may still be written (a box). -/
inductive Dat where
  | val (v : Value)
  | sl (sz : Nat) (l : List Dat)
  | agg (cs : List Dat)
  | nod (cs : List Dat)
  | tup (ds : List Dat)
  | fn (f : Fn) (first caps : List Dat)
  | ifc (t : TypeId) (d : Dat)
  | ptr (k off : Nat)
  | os (sz k off n : Nat)
  | dead

instance : Inhabited Dat := ⟨.dead⟩

def Dat.cells : Dat → List Dat
  | .agg cs => cs
  | d => [d]

/-- A value of one cell that leads nowhere; a nil slice is one. -/
def simple : Value → Bool
  | .slice none 0 0 => true
  | .agg _ | .tuple _ | .pointer (some _) | .slice _ _ _ | .func .. | .iface .. | .map (some _) | .chan (some _) => false
  | _ => true

/-- Does it lie in one cell? -/
def one : Value → Bool
  | .agg _ | .tuple _ => false
  | _ => true
theorem one_of_simple {v : Value} (h : simple v = true) : one v = true := by
  cases v <;> first | rfl | exact h

mutual
inductive Enc0 (w : World) (ok : Nat → Prop) : Dat → Value → Prop
  | val {v : Value} (h : simple v = true) : Enc0 w ok (.val v) v
  | slnil {sz : Nat} : Enc0 w ok (.sl sz []) (.slice none 0 0)
  | sl {sz : Nat} {l : List Dat} {a : Addr} {n c : Nat} (hn : l.length = n) (hc : n ≤ c) (h : EncS w ok sz a l) : Enc0 w ok (.sl sz l) (.slice (some a) n c)
  | agg {cs : List Dat} {vs : List Value} (h1 : ∀ v ∈ vs, one v = true) (h : EncL w ok cs vs) : Enc0 w ok (.agg cs) (.agg vs.toArray)
  | nod {cs : List Dat} {a : Addr} (h : EncC w ok a cs) : Enc0 w ok (.nod cs) (.pointer (some a))
  | tup {ds : List Dat} {vs : List Value} (h : EncL w ok ds vs) : Enc0 w ok (.tup ds) (.tuple vs.toArray)
  | fn {f : Fn} {fs cs : List Dat} {vs us : List Value} (h1 : EncL w ok fs vs) (h2 : EncL w ok cs us) : Enc0 w ok (.fn f fs cs) (.func f vs.toArray us.toArray)
  | ifc {t : TypeId} {d : Dat} {v : Value} (h : Enc0 w ok d v) : Enc0 w ok (.ifc t d) (.iface t v)
inductive EncL (w : World) (ok : Nat → Prop) : List Dat → List Value → Prop
  | nil : EncL w ok [] []
  | cons {d : Dat} {v : Value} {ds : List Dat} {vs : List Value} (h : Enc0 w ok d v) (hr : EncL w ok ds vs) : EncL w ok (d :: ds) (v :: vs)
inductive EncC (w : World) (ok : Nat → Prop) : Addr → List Dat → Prop
  | nil {a : Addr} : EncC w ok a []
  | cons {a : Addr} {d : Dat} {v : Value} {ds : List Dat} (hb : ok a.block) (hs : a.spot = none) (hc : w.cell? a = some v) (h1 : one v = true) (h : Enc0 w ok d v) (hr : EncC w ok (a.add 1) ds) : EncC w ok a (d :: ds)
inductive EncS (w : World) (ok : Nat → Prop) : Nat → Addr → List Dat → Prop
  | nil {sz : Nat} {a : Addr} : EncS w ok sz a []
  | cons {sz : Nat} {a : Addr} {d : Dat} {ds : List Dat} (hz : d.cells.length = sz) (h : EncC w ok a d.cells) (hr : EncS w ok sz (a.add sz) ds) : EncS w ok sz a (d :: ds)
end

mutual
/-- Does it name no box? -/
def clo : Dat → Bool
  | .val _ | .sl _ _ | .nod _ => true
  | .agg cs | .tup cs => cloL cs
  | .fn _ a b => cloL a && cloL b
  | .ifc _ d => clo d
  | .ptr _ _ | .os _ _ _ _ | .dead => false
def cloL : List Dat → Bool
  | [] => true
  | d :: r => clo d && cloL r
end

theorem cell?_congr {w w' : World} {a : Addr} (h : w'.heap[a.block]? = w.heap[a.block]?) : w'.cell? a = w.cell? a := by
  unfold World.cell?; rw [h]

section mono
variable {w w' : World} {ok ok' : Nat → Prop}
/-- What is told holds on where no block that it leans on turns. -/
structure Stay (w w' : World) (ok ok' : Nat → Prop) : Prop where
  ho : ∀ b, ok b → ok' b
  hw : ∀ b, ok b → w'.heap[b]? = w.heap[b]?
mutual
theorem Enc0.mono (s : Stay w w' ok ok') : ∀ {d : Dat} {v : Value}, Enc0 w ok d v → Enc0 w' ok' d v
  | _, _, .val h => .val h
  | _, _, .slnil => .slnil
  | _, _, .sl hn hc h => .sl hn hc (EncS.mono s h)
  | _, _, .agg h1 h => .agg h1 (EncL.mono s h)
  | _, _, .nod h => .nod (EncC.mono s h)
  | _, _, .tup h => .tup (EncL.mono s h)
  | _, _, .fn h1 h2 => .fn (EncL.mono s h1) (EncL.mono s h2)
  | _, _, .ifc h => .ifc (Enc0.mono s h)
theorem EncL.mono (s : Stay w w' ok ok') : ∀ {ds : List Dat} {vs : List Value}, EncL w ok ds vs → EncL w' ok' ds vs
  | _, _, .nil => .nil
  | _, _, .cons h hr => .cons (Enc0.mono s h) (EncL.mono s hr)
theorem EncC.mono (s : Stay w w' ok ok') : ∀ {a : Addr} {ds : List Dat}, EncC w ok a ds → EncC w' ok' a ds
  | _, _, .nil => .nil
  | _, _, .cons hb hs hc h1 h hr => .cons (s.ho _ hb) hs ((cell?_congr (s.hw _ hb)).trans hc) h1 (Enc0.mono s h) (EncC.mono s hr)
theorem EncS.mono (s : Stay w w' ok ok') : ∀ {sz : Nat} {a : Addr} {ds : List Dat}, EncS w ok sz a ds → EncS w' ok' sz a ds
  | _, _, _, .nil => .nil
  | _, _, _, .cons hz h hr => .cons hz (EncC.mono s h) (EncS.mono s hr)
end
end mono

/-- What was told is of blocks that are there. -/
theorem EncL.length {w : World} {ok : Nat → Prop} : ∀ {ds : List Dat} {vs : List Value}, EncL w ok ds vs → ds.length = vs.length
  | _, _, .nil => rfl
  | _, _, .cons _ hr => by simp [EncL.length hr]
theorem EncL.get {w : World} {ok : Nat → Prop} : ∀ {ds : List Dat} {vs : List Value} (_ : EncL w ok ds vs) (i : Nat) {d : Dat}, ds[i]? = some d → ∃ v, vs[i]? = some v ∧ Enc0 w ok d v
  | _, _, .nil, i, d, hd => by simp at hd
  | _, _, .cons (v := v) h hr, 0, d, hd => by
    simp only [List.getElem?_cons_zero, Option.some.injEq] at hd; subst hd; exact ⟨v, rfl, h⟩
  | _, _, .cons h hr, i + 1, d, hd => by
    simp only [List.getElem?_cons_succ] at hd ⊢; exact EncL.get hr i hd
theorem EncL.drop {w : World} {ok : Nat → Prop} : ∀ {ds : List Dat} {vs : List Value} (_ : EncL w ok ds vs) (i : Nat), EncL w ok (ds.drop i) (vs.drop i)
  | _, _, h, 0 => h
  | _, _, .nil, i + 1 => by simpa using EncL.nil
  | _, _, .cons _ hr, i + 1 => by simpa using EncL.drop hr i
theorem EncL.take {w : World} {ok : Nat → Prop} : ∀ {ds : List Dat} {vs : List Value} (_ : EncL w ok ds vs) (i : Nat), EncL w ok (ds.take i) (vs.take i)
  | _, _, _, 0 => by simpa using EncL.nil
  | _, _, .nil, i + 1 => by simpa using EncL.nil
  | _, _, .cons h hr, i + 1 => by simpa using EncL.cons h (EncL.take hr i)
theorem EncL.append {w : World} {ok : Nat → Prop} : ∀ {ds : List Dat} {vs : List Value} (_ : EncL w ok ds vs) {es : List Dat} {us : List Value} (_ : EncL w ok es us), EncL w ok (ds ++ es) (vs ++ us)
  | _, _, .nil, _, _, h => by simpa using h
  | _, _, .cons h hr, _, _, h' => by simpa using EncL.cons h (EncL.append hr h')

theorem add_add (a : Addr) (m n : Nat) : (a.add m).add n = a.add (m + n) := by
  unfold Addr.add
  by_cases hm : m = 0
  · subst hm; simp
  · by_cases hn : n = 0
    · subst hn; simp
    · simp [hm, hn, Nat.add_assoc]
theorem add_zero' (a : Addr) : a.add 0 = a := rfl
theorem add_block (a : Addr) (n : Nat) : (a.add n).block = a.block := by unfold Addr.add; split <;> rfl

theorem EncC.drop {w : World} {ok : Nat → Prop} : ∀ {ds : List Dat} {a : Addr} (_ : EncC w ok a ds) (i : Nat), EncC w ok (a.add i) (ds.drop i)
  | _, _, h, 0 => h
  | _, _, .nil, i + 1 => by simpa using EncC.nil
  | _, a, .cons _ _ _ _ _ hr, i + 1 => by
    have := EncC.drop hr i
    rw [add_add] at this
    simpa [Nat.add_comm] using this
theorem EncC.take {w : World} {ok : Nat → Prop} : ∀ {ds : List Dat} {a : Addr} (_ : EncC w ok a ds) (i : Nat), EncC w ok a (ds.take i)
  | _, _, _, 0 => by simpa using EncC.nil
  | _, _, .nil, i + 1 => by simpa using EncC.nil
  | _, a, .cons hb hs hc h1 h hr, i + 1 => by simpa using EncC.cons hb hs hc h1 h (EncC.take hr i)
theorem EncC.get {w : World} {ok : Nat → Prop} {ds : List Dat} {a : Addr} (h : EncC w ok a ds) (i : Nat) {d : Dat} (hd : ds[i]? = some d) :
    ∃ v, w.cell? (a.add i) = some v ∧ one v = true ∧ Enc0 w ok d v := by
  have h' := h.drop i
  have hi : i < ds.length := by
    rcases Nat.lt_or_ge i ds.length with h1 | h1
    · exact h1
    · rw [List.getElem?_eq_none h1] at hd; cases hd
  have he : ds.drop i = d :: ds.drop (i + 1) := by
    rw [List.drop_eq_getElem_cons hi]; congr 1
    rw [List.getElem?_eq_getElem hi] at hd; exact Option.some.inj hd
  rw [he] at h'
  cases h' with
  | cons hb hs hc h1 h hr => exact ⟨_, hc, h1, h⟩
theorem EncS.get {w : World} {ok : Nat → Prop} {sz : Nat} : ∀ {ds : List Dat} {a : Addr} (_ : EncS w ok sz a ds) (i : Nat) {d : Dat}, ds[i]? = some d → d.cells.length = sz ∧ EncC w ok (a.add (i * sz)) d.cells
  | _, _, .nil, i, d, hd => by simp at hd
  | _, _, .cons hz h hr, 0, d, hd => by
    simp only [List.getElem?_cons_zero, Option.some.injEq] at hd; subst hd; simpa using ⟨hz, h⟩
  | _, a, .cons hz h hr, i + 1, d, hd => by
    simp only [List.getElem?_cons_succ] at hd
    have := EncS.get hr i hd
    rw [add_add] at this
    rwa [Nat.succ_mul, Nat.add_comm]
theorem EncS.drop {w : World} {ok : Nat → Prop} {sz : Nat} : ∀ {ds : List Dat} {a : Addr} (_ : EncS w ok sz a ds) (i : Nat), EncS w ok sz (a.add (i * sz)) (ds.drop i)
  | _, _, h, 0 => by rw [Nat.zero_mul]; exact h
  | _, _, .nil, i + 1 => by simpa using EncS.nil
  | _, a, .cons hz h hr, i + 1 => by
    have := EncS.drop hr i
    rw [add_add] at this
    rw [Nat.succ_mul, Nat.add_comm]
    simpa using this
theorem EncS.take {w : World} {ok : Nat → Prop} {sz : Nat} : ∀ {ds : List Dat} {a : Addr} (_ : EncS w ok sz a ds) (i : Nat), EncS w ok sz a (ds.take i)
  | _, _, _, 0 => by simpa using EncS.nil
  | _, _, .nil, i + 1 => by simpa using EncS.nil
  | _, a, .cons hz h hr, i + 1 => by simpa using EncS.cons hz h (EncS.take hr i)

/-! ### with boxes -/
mutual
inductive Enc (w : World) (ok : Nat → Prop) (β : List (Option Nat)) : Dat → Value → Prop
  | closed {d : Dat} {v : Value} (h : Enc0 w ok d v) : Enc w ok β d v
  | agg {cs : List Dat} {vs : List Value} (h1 : ∀ v ∈ vs, one v = true) (h : EncB w ok β cs vs) : Enc w ok β (.agg cs) (.agg vs.toArray)
  | tup {ds : List Dat} {vs : List Value} (h : EncB w ok β ds vs) : Enc w ok β (.tup ds) (.tuple vs.toArray)
  | fn {f : Fn} {fs cs : List Dat} {vs us : List Value} (h1 : EncB w ok β fs vs) (h2 : EncB w ok β cs us) : Enc w ok β (.fn f fs cs) (.func f vs.toArray us.toArray)
  | ifc {t : TypeId} {d : Dat} {v : Value} (h : Enc w ok β d v) : Enc w ok β (.ifc t d) (.iface t v)
  | ptr {k off b : Nat} (h : β[k]? = some (some b)) : Enc w ok β (.ptr k off) (.pointer (some ⟨b, off, none⟩))
  | osnil {sz k : Nat} (h : β[k]? = some none) : Enc w ok β (.os sz k 0 0) (.slice none 0 0)
  | os {sz k off n b c : Nat} {cells : Array Value} {t : TypeId} (h : β[k]? = some (some b)) (hb : w.heap[b]? = some (.cells cells t (0, 0))) (hn : n ≤ c) (hm : c ≤ maxLen) (hc : (off + c) * sz = cells.size) : Enc w ok β (.os sz k off n) (.slice (some ⟨b, off * sz, none⟩) n c)
  | dead {v : Value} : Enc w ok β .dead v
inductive EncB (w : World) (ok : Nat → Prop) (β : List (Option Nat)) : List Dat → List Value → Prop
  | nil : EncB w ok β [] []
  | cons {d : Dat} {v : Value} {ds : List Dat} {vs : List Value} (h : Enc w ok β d v) (hr : EncB w ok β ds vs) : EncB w ok β (d :: ds) (v :: vs)
end

theorem EncB.of {w : World} {ok : Nat → Prop} {β : List (Option Nat)} : ∀ {ds : List Dat} {vs : List Value}, EncL w ok ds vs → EncB w ok β ds vs
  | _, _, .nil => .nil
  | _, _, .cons h hr => .cons (.closed h) (EncB.of hr)
theorem EncB.length {w : World} {ok : Nat → Prop} {β : List (Option Nat)} : ∀ {ds : List Dat} {vs : List Value}, EncB w ok β ds vs → ds.length = vs.length
  | _, _, .nil => rfl
  | _, _, .cons _ hr => by simp [EncB.length hr]
theorem EncB.get {w : World} {ok : Nat → Prop} {β : List (Option Nat)} : ∀ {ds : List Dat} {vs : List Value} (_ : EncB w ok β ds vs) (i : Nat) {d : Dat}, ds[i]? = some d → ∃ v, vs[i]? = some v ∧ Enc w ok β d v
  | _, _, .nil, i, d, hd => by simp at hd
  | _, _, .cons (v := v) h hr, 0, d, hd => by
    simp only [List.getElem?_cons_zero, Option.some.injEq] at hd; subst hd; exact ⟨v, rfl, h⟩
  | _, _, .cons h hr, i + 1, d, hd => by
    simp only [List.getElem?_cons_succ] at hd ⊢; exact EncB.get hr i hd
theorem EncB.drop {w : World} {ok : Nat → Prop} {β : List (Option Nat)} : ∀ {ds : List Dat} {vs : List Value} (_ : EncB w ok β ds vs) (i : Nat), EncB w ok β (ds.drop i) (vs.drop i)
  | _, _, h, 0 => h
  | _, _, .nil, i + 1 => by simpa using EncB.nil
  | _, _, .cons _ hr, i + 1 => by simpa using EncB.drop hr i
theorem EncB.take {w : World} {ok : Nat → Prop} {β : List (Option Nat)} : ∀ {ds : List Dat} {vs : List Value} (_ : EncB w ok β ds vs) (i : Nat), EncB w ok β (ds.take i) (vs.take i)
  | _, _, _, 0 => by simpa using EncB.nil
  | _, _, .nil, i + 1 => by simpa using EncB.nil
  | _, _, .cons h hr, i + 1 => by simpa using EncB.cons h (EncB.take hr i)
theorem EncB.append {w : World} {ok : Nat → Prop} {β : List (Option Nat)} : ∀ {ds : List Dat} {vs : List Value} (_ : EncB w ok β ds vs) {es : List Dat} {us : List Value} (_ : EncB w ok β es us), EncB w ok β (ds ++ es) (vs ++ us)
  | _, _, .nil, _, _, h => by simpa using h
  | _, _, .cons h hr, _, _, h' => by simpa using EncB.cons h (EncB.append hr h')
theorem EncB.set {w : World} {ok : Nat → Prop} {β : List (Option Nat)} : ∀ {ds : List Dat} {vs : List Value} (_ : EncB w ok β ds vs) (i : Nat) {d : Dat} {v : Value}, Enc w ok β d v → EncB w ok β (ds.set i d) (vs.set i v)
  | _, _, .nil, i, _, _, _ => by simpa using EncB.nil
  | _, _, .cons _ hr, 0, _, _, hd => by simpa using EncB.cons hd hr
  | _, _, .cons h hr, i + 1, _, _, hd => by simpa using EncB.cons h (EncB.set hr i hd)

section clo
variable {w : World} {ok : Nat → Prop} {β : List (Option Nat)}
mutual
theorem Enc.clo : ∀ {d : Dat} {v : Value}, Enc w ok β d v → clo d = true → Enc0 w ok d v
  | _, _, .closed h, _ => h
  | _, _, .agg h1 h, hc => .agg h1 (EncB.clo h (by simpa [Go.Am.clo] using hc))
  | _, _, .tup h, hc => .tup (EncB.clo h (by simpa [Go.Am.clo] using hc))
  | _, _, .fn h1 h2, hc => .fn (EncB.clo h1 (by simp [Go.Am.clo] at hc; exact hc.1)) (EncB.clo h2 (by simp [Go.Am.clo] at hc; exact hc.2))
  | _, _, .ifc h, hc => .ifc (Enc.clo h (by simpa [Go.Am.clo] using hc))
  | _, _, .ptr _, hc => by simp [Go.Am.clo] at hc
  | _, _, .osnil _, hc => by simp [Go.Am.clo] at hc
  | _, _, .os _ _ _ _ _, hc => by simp [Go.Am.clo] at hc
  | _, _, .dead, hc => by simp [Go.Am.clo] at hc
theorem EncB.clo : ∀ {ds : List Dat} {vs : List Value}, EncB w ok β ds vs → cloL ds = true → EncL w ok ds vs
  | _, _, .nil, _ => .nil
  | _, _, .cons h hr, hc => .cons (Enc.clo h (by simp [Go.Am.cloL] at hc; exact hc.1)) (EncB.clo hr (by simp [Go.Am.cloL] at hc; exact hc.2))
end
end clo

section monoB
variable {w w' : World} {ok ok' : Nat → Prop} {β β' : List (Option Nat)}
structure StayB (w w' : World) (ok ok' : Nat → Prop) (β β' : List (Option Nat)) : Prop extends Stay w w' ok ok' where
  hβ : ∀ (k : Nat) (o : Option Nat), β[k]? = some o → β'[k]? = some o
  hz : ∀ (k b : Nat) (cells : Array Value) (t : TypeId), β[k]? = some (some b) → w.heap[b]? = some (.cells cells t (0, 0)) → ∃ cells', w'.heap[b]? = some (.cells cells' t (0, 0)) ∧ cells'.size = cells.size
mutual
theorem Enc.mono (s : StayB w w' ok ok' β β') : ∀ {d : Dat} {v : Value}, Enc w ok β d v → Enc w' ok' β' d v
  | _, _, .closed h => .closed (Enc0.mono s.toStay h)
  | _, _, .agg h1 h => .agg h1 (EncB.mono s h)
  | _, _, .tup h => .tup (EncB.mono s h)
  | _, _, .fn h1 h2 => .fn (EncB.mono s h1) (EncB.mono s h2)
  | _, _, .ifc h => .ifc (Enc.mono s h)
  | _, _, .ptr h => .ptr (s.hβ _ _ h)
  | _, _, .osnil h => .osnil (s.hβ _ _ h)
  | _, _, .os h hb hn hm hc => by
    obtain ⟨cells', h', hs⟩ := s.hz _ _ _ _ h hb
    exact .os (s.hβ _ _ h) h' hn hm (hs ▸ hc)
  | _, _, .dead => .dead
theorem EncB.mono (s : StayB w w' ok ok' β β') : ∀ {ds : List Dat} {vs : List Value}, EncB w ok β ds vs → EncB w' ok' β' ds vs
  | _, _, .nil => .nil
  | _, _, .cons h hr => .cons (Enc.mono s h) (EncB.mono s hr)
end
end monoB
end Go.Am
