import Derived.Test.YtocdpledkmmomaaRows
import Derived.Test.YtocdpledkmmomaaHAOpensT
namespace Go.Proofs.Ytocdpledkmmomaa.P
open Go.RowKit Go.ChangeShapes Go.WideShapes Go.Proofs.YtocdpledkmmomaaW.PrintWords Go.Proofs.YtocdpledkmmomaaW.PrintLast Go.Proofs.YtocdpledkmmomaaW.PrintMore
set_option linter.unusedVariables false
set_option linter.unusedSimpArgs false
theorem bulk_part {H : Type} {d : DataW H} {l : List (DataW H)} (h : d ∈ l) : Rows.uptoBulk d ≤ Rows.uptoBulkAll l := by
  induction l with
  | nil => cases h
  | cons x r ih =>
    simp only [Rows.uptoBulkAll]
    rcases List.mem_cons.1 h with e | e
    · subst e; omega
    · have := ih e; omega
theorem bulk_one {H : Type} (d : DataW H) : 1 ≤ Rows.uptoBulk d := by
  cases d with
  | lit l => cases l <;> simp [Rows.uptoBulk]
  | nil => simp [Rows.uptoBulk]
  | ptr d => simp [Rows.uptoBulk]
  | slice elems spare => simp [Rows.uptoBulk]
  | agg parts => simp [Rows.uptoBulk]
  | iface t d => simp [Rows.uptoBulk]
  | map entries => simp [Rows.uptoBulk]
  | held h => simp [Rows.uptoBulk]
theorem bulk_length {H : Type} (l : List (DataW H)) : l.length ≤ Rows.uptoBulkAll l := by
  induction l with
  | nil => simp [Rows.uptoBulkAll]
  | cons x r ih => have := bulk_one x; simp only [Rows.uptoBulkAll, List.length_cons]; omega
def OpensB {α : Type} (P : Program) (B : Nat) (t : TypeId) (d : Kd α) (ok : α → Prop) : Prop :=
  P.cellsOf t = d.sz ∧ ∀ (H : Type) (enc : TypeId × Value → H) (w : World) (fuel : Nat) (cs : List Value) (x : DataW H × List MemPlace), DataW.trod enc P w 0 (fun _ => true) true fuel t cs = some x → Rows.uptoBulk x.1 ≤ B → ∃ y : α, d.K w y cs ∧ ok y
variable {P : Program} {α β : Type} {B : Nat}
theorem Opens.b {t : TypeId} {d : Kd α} {ok : α → Prop} (h : Opens P t d ok) : OpensB P B t d (fun _ => True) :=
  ⟨h.1, fun H enc w fuel cs x hx _ => by
    obtain ⟨y, h1, h2⟩ := h.2 H enc w fuel cs x hx
    exact ⟨y, h1, trivial⟩⟩
theorem OpensB.imp {t : TypeId} {d : Kd α} {ok ok' : α → Prop} (h : OpensB P B t d ok) (hi : ∀ y, ok y → ok' y) : OpensB P B t d ok' :=
  ⟨h.1, fun H enc w fuel cs x hx hb => by
    obtain ⟨y, h1, h2⟩ := h.2 H enc w fuel cs x hx hb
    exact ⟨y, h1, hi y h2⟩⟩
theorem opensB_slice {t e : TypeId} {d : Kd α} {ok : α → Prop} (ht : P.underlying t = some (.slice e)) (hc : P.cellsOf t = 1) (he : OpensB P B e d ok) : OpensB P B t (Kd.slice e d) (fun xs => xs.length ≤ B ∧ ∀ y ∈ xs, ok y) := by
  refine ⟨hc, fun H enc w fuel cs x h hB => ?_⟩
  rcases DataW.trod_slice ht h with ⟨rfl, _⟩ | ⟨a, len, cap, elems, rest, n, _, rfl, rfl, hb, hl, hm, hlen, hel, _, _⟩
  · exact ⟨[], ⟨none, 0, rfl, Nat.le_refl _, rfl, by simp, fun h => absurd h (by simp)⟩, by simp, by simp⟩
  · have hB1 : Rows.uptoBulkAll (elems.map (·.1)) ≤ B := by simp only [Rows.uptoBulk] at hB; omega
    have hB2 : elems.length ≤ B := by have := bulk_length (elems.map (·.1)); rw [List.length_map] at this; omega
    obtain ⟨ys, hl', hys⟩ := exists_list (p := fun i y => ok y ∧ ∃ c : List Value, c.length = d.sz ∧ d.K w y c ∧ ∀ j u, c[j]? = some u → w.cell? (a.add (i * d.sz + j)) = some u) len (fun i hi => by
      have h1 := hel i hi
      have h2 : i < elems.length := by omega
      rw [List.getElem?_eq_getElem h2, Option.bind_eq_some_iff] at h1
      obtain ⟨c, hc1, hc2⟩ := h1
      have h5 : elems[i].1 ∈ elems.map (·.1) := List.mem_map.2 ⟨_, List.getElem_mem h2, rfl⟩
      obtain ⟨y, hK, hok⟩ := he.2 H enc w n c _ hc2 (Nat.le_trans (bulk_part h5) hB1)
      obtain ⟨_, hsz, hcell⟩ := World.cells?_some hc1
      refine ⟨y, hok, c, by rw [hsz, he.1], hK, fun j u hj => ?_⟩
      have hjl : j < P.cellsOf e := by rw [← hsz]; exact (List.getElem?_eq_some_iff.1 hj).1
      have h3 := hcell j hjl
      rw [addr_add_add, he.1] at h3
      rw [h3]
      exact hj)
    refine ⟨ys, ⟨some a, cap, by rw [hl'], by omega, rfl, by simp only [maxLen] at hm; omega, fun _ => ⟨a, rfl, fun j p hp => ?_⟩⟩, by omega, fun y hy => ?_⟩
    · obtain ⟨_, c, h1, h2, h3⟩ := hys j p hp
      exact ⟨c, h1, h2, h3⟩
    · obtain ⟨j, hj⟩ := List.mem_iff_getElem?.1 hy
      exact (hys j y hj).1
def OpensLB {α : Type} (P : Program) (B : Nat) (fs : List Field) (d : Kd α) (ok : α → Prop) : Prop :=
  ∀ (H : Type) (enc : TypeId × Value → H) (w : World) (fuel off : Nat) (cs : List Value), (∀ f ∈ fs, ∃ y, DataW.trod enc P w 0 (fun _ => true) true fuel f.type ((cs.drop f.offset).take (P.cellsOf f.type)) = some y ∧ Rows.uptoBulk y.1 ≤ B) → InLine P fs off → cs.length = off + (fs.map fun f => P.cellsOf f.type).sum → ∃ y : α, d.K w y (cs.drop off) ∧ ok y
theorem opensLB_one {f : Field} {d : Kd α} {ok : α → Prop} (h : OpensB P B f.type d ok) : OpensLB P B [f] d ok := by
  intro H enc w fuel off cs hf ho hl
  obtain ⟨x, hx, hxb⟩ := hf f (by simp)
  obtain ⟨y, h1, h2⟩ := h.2 H enc w fuel _ x hx hxb
  refine ⟨y, ?_, h2⟩
  obtain ⟨rfl, _⟩ := ho
  simp only [List.map_cons, List.map_nil, List.sum_cons, List.sum_nil, Nat.add_zero] at hl
  rwa [List.take_of_length_le (by rw [List.length_drop]; omega)] at h1
theorem opensLB_cons {f : Field} {fs : List Field} {d : Kd α} {d' : Kd β} {ok : α → Prop} {ok' : β → Prop} (h : OpensB P B f.type d ok) (h' : OpensLB P B fs d' ok') : OpensLB P B (f :: fs) (Kd.pair d d') (fun p => ok p.1 ∧ ok' p.2) := by
  intro H enc w fuel off cs hf ho hl
  obtain ⟨x, hx, hxb⟩ := hf f (by simp)
  obtain ⟨y, h1, h2⟩ := h.2 H enc w fuel _ x hx hxb
  obtain ⟨rfl, ho⟩ := ho
  simp only [List.map_cons, List.sum_cons] at hl
  obtain ⟨z, h3, h4⟩ := h' H enc w fuel (f.offset + P.cellsOf f.type) cs (fun g hg => hf g (by simp [hg])) ho (by omega)
  refine ⟨(y, z), ⟨_, _, ?_, h1, h3⟩, h2, h4⟩
  rw [← List.drop_drop, List.take_append_drop]
theorem opensB_struct {t : TypeId} {fs : Array Field} {d : Kd β} {ok : β → Prop} (f : α → β) (g : β → α) (hfg : ∀ y, f (g y) = y) (ht : P.underlying t = some (.struct fs)) (hc : P.cellsOf t = d.sz) (hn : P.cellsOf t = (fs.toList.map fun f => P.cellsOf f.type).sum)
    (hi : InLine P fs.toList 0) (h : OpensLB P B fs.toList d ok) : OpensB P B t (Kd.iso d f) (fun x => ok (f x)) := by
  refine ⟨hc, fun H enc w fuel cs x hx hB => ?_⟩
  obtain ⟨xs, n, _, rfl, hl, hlen, hf⟩ := DataW.trod_struct ht hx
  have hB1 : Rows.uptoBulkAll (xs.map (·.1)) ≤ B := by simp only [Rows.uptoBulk] at hB; omega
  obtain ⟨y, h1, h2⟩ := h H enc w n 0 cs (fun q hq => by
    obtain ⟨i, hi⟩ := List.mem_iff_getElem?.1 hq
    have h3 := hf i q (by simpa using hi)
    have h4 : i < xs.length := by rw [hlen]; have := (List.getElem?_eq_some_iff.1 hi).1; simpa using this
    rw [List.getElem?_eq_getElem h4] at h3
    have h5 : xs[i].1 ∈ xs.map (·.1) := List.mem_map.2 ⟨_, List.getElem_mem h4, rfl⟩
    exact ⟨_, h3, Nat.le_trans (bulk_part h5) hB1⟩) hi (by rw [hl, hn]; simp)
  refine ⟨g y, ?_, by show ok (f (g y)); rw [hfg]; exact h2⟩
  show d.K w (f (g y)) cs
  rw [hfg]
  simpa using h1
end Go.Proofs.Ytocdpledkmmomaa.P
