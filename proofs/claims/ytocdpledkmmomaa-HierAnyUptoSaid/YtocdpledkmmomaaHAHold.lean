import Derived.Test.YtocdpledkmmomaaHAPx0
import Derived.Deep.QuietTactic
namespace Go.Proofs.Ytocdpledkmmomaa.P
open Go.RowKit Go.Proofs.YtocdpledkmmomaaW.PrintWords Go.Proofs.YtocdpledkmmomaaW.PrintLast Go.Proofs.YtocdpledkmmomaaW.PrintMore
set_option linter.unusedVariables false
structure MonoP where
  p : World → Prop
  mono : ∀ w w', Below w.heap.size w w' → p w → p w'
def mC {α : Type} (d : Kd α) (A : Option Addr) (xs : List α) (n c : Nat) : MonoP := ⟨fun w => n = xs.length ∧ n ≤ c ∧ Kd.C d w A n xs, fun _ _ hb h => ⟨h.1, h.2.1, Kd.C_below h.2.2 hb⟩⟩
def mB (b T : Nat) (cs : List Value) : MonoP := ⟨fun w => b < w.heap.size ∧ w.heap[b]? = some (.cells cs.toArray T (0, 0)), by
  rintro w w' hb ⟨h1, h2⟩
  exact ⟨Nat.lt_of_lt_of_le h1 hb.size, by rw [hb.block b h1]; exact h2⟩⟩
structure Hold (N : Nat) (w0 W : World) (L : List MonoP) : Prop where
  base : N ≤ w0.heap.size
  below : Below N w0 W
  all : ∀ (i : Nat) (m : MonoP), L[i]? = some m → m.p W
section
variable {N : Nat} {w0 W W1 : World} {L : List MonoP}
theorem Hold.nil (w : World) : Hold w.heap.size w w [] := ⟨Nat.le_refl _, Below.refl _ _, fun i m h => by simp at h⟩
theorem Hold.step (h : Hold N w0 W L) (hb : Below W.heap.size W W1) : Hold N w0 W1 L :=
  ⟨h.base, h.below.trans (hb.mono (Nat.le_trans h.base h.below.size)), fun i m hi => m.mono _ _ hb (h.all i m hi)⟩
theorem Hold.add (h : Hold N w0 W L) (m : MonoP) (hm : m.p W) : Hold N w0 W (L ++ [m]) :=
  ⟨h.base, h.below, fun i m' hi => by
    rcases Nat.lt_or_ge i L.length with hl | hl
    · rw [List.getElem?_append_left hl] at hi; exact h.all i m' hi
    · rw [List.getElem?_append_right hl] at hi
      have : i - L.length = 0 := by
        rcases Nat.eq_zero_or_pos (i - L.length) with h0 | h0
        · exact h0
        · rw [List.getElem?_eq_none (by simp; omega)] at hi; cases hi
      rw [this] at hi
      obtain rfl : m = m' := by simpa using hi
      exact hm⟩
theorem Hold.alloc (h : Hold N w0 W L) (o : Obj) : Hold N w0 (W.alloc o) L := h.step (below_alloc (Below.refl _ _) o)
theorem Hold.drewN (h : Hold N w0 W L) (n : Nat) : Hold N w0 (W.drewN n) L := h.step (pw_below_drewN (Below.refl _ _) n)
theorem Hold.allocB (h : Hold N w0 W L) (cs : List Value) (T : Nat) : Hold N w0 (W.alloc (.cells cs.toArray T)) (L ++ [mB W.heap.size T cs]) :=
  (h.alloc _).add _ ⟨by simp, blk_new W _⟩
theorem Hold.C {α : Type} (h : Hold N w0 W L) (i : Nat) {d : Kd α} {A : Option Addr} {xs : List α} {n c : Nat} (hi : L[i]? = some (mC d A xs n c)) : Kd.C d W A n xs := (h.all i _ hi).2.2
theorem Hold.B (h : Hold N w0 W L) (i : Nat) {b T : Nat} {cs : List Value} (hi : L[i]? = some (mB b T cs)) : W.heap[b]? = some (.cells cs.toArray T (0, 0)) := (h.all i _ hi).2
theorem Hold.addR {α : Type} (h : Hold N w0 W L) {d : Kd α} {e M : Nat} {ok : Nat → Prop} {v : Value} {xs : List α} (hr : d.R e W M ok v xs) : ∃ A c, v = .slice A xs.length c ∧ Hold N w0 W (L ++ [mC d A xs xs.length c]) := by
  obtain ⟨A, c, hv, hl, hC⟩ := Kd.R_reads hr
  exact ⟨A, c, hv, h.add _ ⟨rfl, hl, hC⟩⟩
end
structure GrownOf (W : World) where
  w : World
  h : Below W.heap.size W w
instance (W : World) : Inhabited (GrownOf W) := ⟨⟨W, Below.refl _ _⟩⟩
theorem GrownOf.block {W : World} (p : GrownOf W) {b : Nat} {o : Obj} (h : W.heap[b]? = some o) : p.w.heap[b]? = some o :=
  (p.h.block b (Array.getElem?_eq_some_iff.1 h).1).trans h
theorem wp_region_grown {P : Program} {id : Nat} {Q : Exit → Act → World → Prop} {a : Act} {w : World} {l : List Oper} (hm : P.follows .mixedOrders = true) (hB : Region.lexB .any l.toArray = true)
    (h : wpQuiet P l.toArray (fun w' => ∃ p : GrownOf w, w' = p.w) (fun a' => ∀ w', (∃ p : GrownOf w, w' = p.w) → Q .normal a' w') l a) : (Code.region id l.toArray true).wp P Q a w :=
  wp_region_quiet (C := fun w' => ∃ p : GrownOf w, w' = p.w) hm hB ⟨⟨{ w with drawn := w.drawn + 1 }, ⟨rfl, rfl, rfl, Nat.le_refl _, fun _ _ => rfl⟩⟩, rfl⟩ (by simpa using h)
theorem calls_grown {P : Program} {f : FuncId} {args : Array Value} {W : World} (p : GrownOf W) {v : Value} (h : Calls P f args p.w fun e w' => e = .returned v ∧ Below p.w.heap.size p.w w') : Calls P f args p.w fun e w'' => e = .returned v ∧ ∃ q : GrownOf W, w'' = q.w :=
  h.mono fun _ w' ⟨he, hb⟩ => ⟨he, ⟨w', p.h.trans (hb.mono p.h.size)⟩, rfl⟩
end Go.Proofs.Ytocdpledkmmomaa.P
