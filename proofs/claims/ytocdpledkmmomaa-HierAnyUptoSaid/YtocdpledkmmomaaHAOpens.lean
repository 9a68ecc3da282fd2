import Derived.Test.YtocdpledkmmomaaHAWMore
import Derived.WalkKit
import Derived.ProofKit
import Derived.OpenShut
import Derived.ShutString
import Derived.ChangeOld
import Derived.Below
import Derived.SizedLaws
namespace Go.Proofs.Ytocdpledkmmomaa.P
open Go.RowKit Go.ChangeShapes Go.WideShapes Go.Proofs.YtocdpledkmmomaaW.PrintWords Go.Proofs.YtocdpledkmmomaaW.PrintLast Go.Proofs.YtocdpledkmmomaaW.PrintMore
set_option linter.unusedVariables false
set_option linter.unusedSimpArgs false

def Opens {α : Type} (P : Program) (t : TypeId) (d : Kd α) (ok : α → Prop) : Prop :=
  P.cellsOf t = d.sz ∧ ∀ (H : Type) (enc : TypeId × Value → H) (w : World) (fuel : Nat) (cs : List Value) (x : DataW H × List MemPlace), DataW.trod enc P w 0 (fun _ => true) true fuel t cs = some x → ∃ y : α, d.K w y cs ∧ ok y
variable {P : Program} {α β : Type}
theorem opens_int {t : TypeId} {k : IntKind} (ht : P.underlying t = some (.int k)) (hc : P.cellsOf t = 1) : Opens P t (Kd.int k) (fun y => (Lit.int k y).wf = true) :=
  ⟨hc, fun H enc w fuel cs x h => by
    obtain ⟨n, rfl, _, hw⟩ := DataW.trod_int ht h
    exact ⟨n, rfl, hw⟩⟩
theorem opens_bool {t : TypeId} (ht : P.underlying t = some .bool) (hc : P.cellsOf t = 1) : Opens P t Kd.bool (fun _ => True) :=
  ⟨hc, fun H enc w fuel cs x h => by
    obtain ⟨b, rfl, _⟩ := DataW.trod_bool ht h
    exact ⟨b, rfl, trivial⟩⟩
theorem Opens.imp {t : TypeId} {d : Kd α} {ok ok' : α → Prop} (h : Opens P t d ok) (hi : ∀ y, ok y → ok' y) : Opens P t d ok' :=
  ⟨h.1, fun H enc w fuel cs x hx => by
    obtain ⟨y, h1, h2⟩ := h.2 H enc w fuel cs x hx
    exact ⟨y, h1, hi y h2⟩⟩
theorem toArray_of {cs : Array Value} {l : List Value} (h : cs.toList = l) : cs = l.toArray := by rw [← h]
theorem addr_add_add (a : Addr) (i j : Nat) : (a.add i).add j = a.add (i + j) := by
  unfold Addr.add
  split <;> split <;> simp_all <;> omega
theorem exists_list {p : Nat → α → Prop} : ∀ (n : Nat), (∀ i, i < n → ∃ y, p i y) → ∃ ys : List α, ys.length = n ∧ ∀ i y, ys[i]? = some y → p i y := by
  intro n
  induction n with
  | zero => intro _; exact ⟨[], rfl, by simp⟩
  | succ n ih =>
    intro h
    obtain ⟨ys, hl, hys⟩ := ih (fun i hi => h i (by omega))
    obtain ⟨y, hy⟩ := h n (by omega)
    refine ⟨ys ++ [y], by simp [hl], fun i z hz => ?_⟩
    rcases Nat.lt_or_ge i n with hi | hi
    · rw [List.getElem?_append_left (by omega)] at hz; exact hys i z hz
    · rw [List.getElem?_append_right (by omega)] at hz
      have : i = n := by have := (List.getElem?_eq_some_iff.1 hz).1; simp at this; omega
      subst this
      simp [hl] at hz
      subst hz
      exact hy
theorem opens_slice {t e : TypeId} {d : Kd α} {ok : α → Prop} (ht : P.underlying t = some (.slice e)) (hc : P.cellsOf t = 1) (he : Opens P e d ok) : Opens P t (Kd.slice e d) (fun xs => xs.length ≤ maxLen ∧ ∀ y ∈ xs, ok y) := by
  refine ⟨hc, fun H enc w fuel cs x h => ?_⟩
  rcases DataW.trod_slice ht h with ⟨rfl, _⟩ | ⟨a, len, cap, elems, rest, n, _, rfl, rfl, hb, hl, hm, hlen, hel, _, _⟩
  · exact ⟨[], ⟨none, 0, rfl, Nat.le_refl _, rfl, by simp, fun h => absurd h (by simp)⟩, by simp [maxLen], by simp⟩
  · obtain ⟨ys, hl', hys⟩ := exists_list (p := fun i y => ok y ∧ ∃ c : List Value, c.length = d.sz ∧ d.K w y c ∧ ∀ j u, c[j]? = some u → w.cell? (a.add (i * d.sz + j)) = some u) len (fun i hi => by
      have h1 := hel i hi
      have h2 : i < elems.length := by omega
      rw [List.getElem?_eq_getElem h2, Option.bind_eq_some_iff] at h1
      obtain ⟨c, hc1, hc2⟩ := h1
      obtain ⟨y, hK, hok⟩ := he.2 H enc w n c _ hc2
      obtain ⟨_, hsz, hcell⟩ := World.cells?_some hc1
      refine ⟨y, hok, c, by rw [hsz, he.1], hK, fun j u hj => ?_⟩
      have hjl : j < P.cellsOf e := by rw [← hsz]; exact (List.getElem?_eq_some_iff.1 hj).1
      have h3 := hcell j hjl
      rw [addr_add_add, he.1] at h3
      rw [h3]
      exact hj)
    refine ⟨ys, ⟨some a, cap, by rw [hl'], by omega, rfl, by simp only [maxLen] at hm; omega, fun _ => ⟨a, rfl, fun j p hp => ?_⟩⟩, by omega, fun y hy => ?_⟩
    · obtain ⟨_, c, h1, h2, h3⟩ := hys j p hp
      exact ⟨c, h1, h2, h3⟩
    · obtain ⟨j, hj⟩ := List.mem_iff_getElem?.1 hy
      exact (hys j y hj).1
def InLine (P : Program) : List Field → Nat → Prop
  | [], _ => True
  | f :: fs, off => f.offset = off ∧ InLine P fs (off + P.cellsOf f.type)
def inLineB (P : Program) : List Field → Nat → Bool
  | [], _ => true
  | f :: fs, off => f.offset == off && inLineB P fs (off + P.cellsOf f.type)
theorem inLine_of {P : Program} : ∀ {fs : List Field} {off : Nat}, inLineB P fs off = true → InLine P fs off
  | [], _, _ => trivial
  | f :: fs, off, h => by
    simp only [inLineB, Bool.and_eq_true, beq_iff_eq] at h
    exact ⟨h.1, inLine_of h.2⟩
def OpensL {α : Type} (P : Program) (fs : List Field) (d : Kd α) (ok : α → Prop) : Prop :=
  ∀ (H : Type) (enc : TypeId × Value → H) (w : World) (fuel off : Nat) (cs : List Value), (∀ f ∈ fs, ∃ y, DataW.trod enc P w 0 (fun _ => true) true fuel f.type ((cs.drop f.offset).take (P.cellsOf f.type)) = some y) → InLine P fs off → cs.length = off + (fs.map fun f => P.cellsOf f.type).sum → ∃ y : α, d.K w y (cs.drop off) ∧ ok y
theorem opensL_one {f : Field} {d : Kd α} {ok : α → Prop} (h : Opens P f.type d ok) : OpensL P [f] d ok := by
  intro H enc w fuel off cs hf ho hl
  obtain ⟨x, hx⟩ := hf f (by simp)
  obtain ⟨y, h1, h2⟩ := h.2 H enc w fuel _ x hx
  refine ⟨y, ?_, h2⟩
  obtain ⟨rfl, _⟩ := ho
  simp only [List.map_cons, List.map_nil, List.sum_cons, List.sum_nil, Nat.add_zero] at hl
  rwa [List.take_of_length_le (by rw [List.length_drop]; omega)] at h1
theorem opensL_cons {f : Field} {fs : List Field} {d : Kd α} {d' : Kd β} {ok : α → Prop} {ok' : β → Prop} (h : Opens P f.type d ok) (h' : OpensL P fs d' ok') : OpensL P (f :: fs) (Kd.pair d d') (fun p => ok p.1 ∧ ok' p.2) := by
  intro H enc w fuel off cs hf ho hl
  obtain ⟨x, hx⟩ := hf f (by simp)
  obtain ⟨y, h1, h2⟩ := h.2 H enc w fuel _ x hx
  obtain ⟨rfl, ho⟩ := ho
  simp only [List.map_cons, List.sum_cons] at hl
  obtain ⟨z, h3, h4⟩ := h' H enc w fuel (f.offset + P.cellsOf f.type) cs (fun g hg => hf g (by simp [hg])) ho (by omega)
  refine ⟨(y, z), ⟨_, _, ?_, h1, h3⟩, h2, h4⟩
  rw [← List.drop_drop, List.take_append_drop]
theorem opens_struct {t : TypeId} {fs : Array Field} {d : Kd β} {ok : β → Prop} (f : α → β) (g : β → α) (hfg : ∀ y, f (g y) = y) (ht : P.underlying t = some (.struct fs)) (hc : P.cellsOf t = d.sz) (hn : P.cellsOf t = (fs.toList.map fun f => P.cellsOf f.type).sum)
    (hi : InLine P fs.toList 0) (h : OpensL P fs.toList d ok) : Opens P t (Kd.iso d f) (fun x => ok (f x)) := by
  refine ⟨hc, fun H enc w fuel cs x hx => ?_⟩
  obtain ⟨xs, n, _, rfl, hl, hlen, hf⟩ := DataW.trod_struct ht hx
  obtain ⟨y, h1, h2⟩ := h H enc w n 0 cs (fun q hq => by
    obtain ⟨i, hi⟩ := List.mem_iff_getElem?.1 hq
    have h3 := hf i q (by simpa using hi)
    have h4 : i < xs.length := by rw [hlen]; have := (List.getElem?_eq_some_iff.1 hi).1; simpa using this
    rw [List.getElem?_eq_getElem h4] at h3
    exact ⟨_, h3⟩) hi (by rw [hl, hn]; simp)
  refine ⟨g y, ?_, by show ok (f (g y)); rw [hfg]; exact h2⟩
  show d.K w (f (g y)) cs
  rw [hfg]
  simpa using h1
end Go.Proofs.Ytocdpledkmmomaa.P
