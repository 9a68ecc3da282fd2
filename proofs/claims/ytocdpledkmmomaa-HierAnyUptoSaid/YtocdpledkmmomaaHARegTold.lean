import Derived.Test.YtocdpledkmmomaaHAAllOrd2
import Derived.Test.YtocdpledkmmomaaHATold
namespace Go.Proofs.Ytocdpledkmmomaa.P
open Go.RowKit Go.Proofs.YtocdpledkmmomaaW.PrintWords Go.Proofs.YtocdpledkmmomaaW.PrintLast Go.Proofs.YtocdpledkmmomaaW.PrintMore
set_option linter.unusedVariables false
set_option linter.unusedSimpArgs false
def depB (l : List Oper) (j i : Nat) : Bool := match l[j]? with
  | some o => o.after.any fun e => Region.binds .any e && e.on == i
  | none => false
structure StoreAt (N T g : Nat) (w w' : World) : Prop where
  os : w'.os = w.os
  tape : w'.tape = w.tape
  output : w'.output = w.output
  size : w'.heap.size = w.heap.size
  base : N ≤ g
  swap : ∃ c c' : Array Value, w.heap[g]? = some (.cells c T (0, 0)) ∧ w'.heap[g]? = some (.cells c' T (0, 0)) ∧ c'.size = c.size
  far : ∀ k, k ≠ g → w'.heap[k]? = w.heap[k]?
theorem StoreAt.old {N T g : Nat} {w w' : World} (h : StoreAt N T g w w') : ∃ cells, w.heap[g]? = some (.cells cells T (0, 0)) := by
  obtain ⟨c, _, h, _⟩ := h.swap
  exact ⟨c, h⟩
def Far (N T : Nat) (t : Told) : Prop := ∀ v w w' g, StoreAt N T g w w' → t.p v w → t.p v w'
theorem far_val (N T : Nat) (v0 : Value) : Far N T (Told.val v0) := fun _ _ _ _ _ h => h
def Told.ptr (N T m : Nat) : Told := ⟨fun v w => ∃ b, v = .pointer (some ⟨b, 0, none⟩) ∧ N ≤ b ∧ b < w.heap.size ∧ ∃ cells : Array Value, cells.size = m ∧ w.heap[b]? = some (.cells cells T (0, 0)), by
  rintro v w w' hb ⟨b, h1, h2, h3, cells, h4, h5⟩
  exact ⟨b, h1, h2, Nat.lt_of_lt_of_le h3 hb.size, cells, h4, by rw [hb.block b h3]; exact h5⟩⟩
def Told.box (N T : Nat) (p : List Value → World → Prop) (hp : ∀ cs w w', Below w.heap.size w w' → p cs w → p cs w') : Told := ⟨fun v w => ∃ b cs, v = .pointer (some ⟨b, 0, none⟩) ∧ N ≤ b ∧ b < w.heap.size ∧ w.heap[b]? = some (.cells cs.toArray T (0, 0)) ∧ p cs w, by
  rintro v w w' hb ⟨b, cs, h1, h2, h3, h4, h5⟩
  exact ⟨b, cs, h1, h2, Nat.lt_of_lt_of_le h3 hb.size, by rw [hb.block b h3]; exact h4, hp cs w w' hb h5⟩⟩
theorem far_ptr (N T m : Nat) : Far N T (Told.ptr N T m) := by
  rintro v w w' g hs ⟨b, h1, h2, h3, cells, h4, h5⟩
  refine ⟨b, h1, h2, by rw [hs.size]; exact h3, ?_⟩
  by_cases hb : b = g
  · subst hb
    obtain ⟨c, c', h6, h7, h8⟩ := hs.swap
    have he : cells = c := by
      rw [h6] at h5
      injection h5 with h5
      injection h5 with h5
      exact h5.symm
    exact ⟨c', by rw [h8, ← he, h4], h7⟩
  · exact ⟨cells, h4, by rw [hs.far b hb]; exact h5⟩

def slotsB (l : List Oper) (sl : List Nat) : Bool :=
  sl.length == l.length && (List.range l.length).all fun i => match l[i]? with
    | some o => (match o.dst with
      | none => true
      | some d => (List.range l.length).all fun j => (i == j) || depB l j i || sl.getD j 0 != d)
    | none => false

variable {P : Program} {Q : Exit → Act → World → Prop}
end Go.Proofs.Ytocdpledkmmomaa.P
