import Derived.Test.YtocdpledkmmomaaHAWMore
import Derived.WalkKit
namespace Go.Proofs.Ytocdpledkmmomaa.P
open Go.RowKit Go.Proofs.YtocdpledkmmomaaW.PrintWords Go.Proofs.YtocdpledkmmomaaW.PrintLast Go.Proofs.YtocdpledkmmomaaW.PrintMore
set_option linter.unusedVariables false
set_option linter.unusedSimpArgs false

structure Chunk where
  s : Nat → Prop
  p : World → Prop

structure Sep (N : Nat) (w0 W : World) (L : List Chunk) : Prop where
  below : Below N w0 W
  base : N ≤ W.heap.size
  foot : ∀ (i : Nat) (c : Chunk), L[i]? = some c → Foot c.p W c.s
  lt : ∀ (i : Nat) (c : Chunk), L[i]? = some c → ∀ k, c.s k → k < W.heap.size
  ge : ∀ (i : Nat) (c : Chunk), L[i]? = some c → ∀ k, c.s k → N ≤ k
  apart : ∀ (i j : Nat) (a b : Chunk), i ≠ j → L[i]? = some a → L[j]? = some b → ∀ k, a.s k → ¬ b.s k

structure Grew (W w1 : World) : Prop where
  os : w1.os = W.os
  tape : w1.tape = W.tape
  output : w1.output = W.output
  size : W.heap.size ≤ w1.heap.size

theorem Grew.of_grownBy {W w1 : World} {row : Option Nat} (h : W.grownBy w1 row) : Grew W w1 := ⟨h.os, h.tape, h.output, h.size⟩
theorem Grew.of_below {W w1 : World} (h : Below W.heap.size W w1) : Grew W w1 := ⟨h.os, h.tape, h.output, h.size⟩

section
variable {N : Nat} {w0 W w1 : World} {L : List Chunk}
theorem Sep.get (h : Sep N w0 W L) (i : Nat) {c : Chunk} (hi : L[i]? = some c) : c.p W := (h.foot i c hi).now
theorem Sep.nil (w : World) : Sep w.heap.size w w [] := ⟨Below.refl _ _, Nat.le_refl _, by simp, by simp, by simp, by simp⟩

theorem Sep.upd (h : Sep N w0 W L) (i : Nat) {c : Chunk} (hi : L[i]? = some c) (c' : Chunk) (hg : Grew W w1) (hk : ∀ k, k < W.heap.size → ¬ c.s k → w1.heap[k]? = W.heap[k]?)
    (hs : ∀ k, c'.s k → c.s k ∨ W.heap.size ≤ k) (hlt : ∀ k, c'.s k → k < w1.heap.size) (hP : Foot c'.p w1 c'.s) : Sep N w0 w1 (L.set i c') := by
  have hil : i < L.length := (List.getElem?_eq_some_iff.1 hi).1
  have split : ∀ (j : Nat) (d : Chunk), (L.set i c')[j]? = some d → (j = i ∧ d = c') ∨ (j ≠ i ∧ L[j]? = some d) := by
    intro j d hj
    by_cases hji : j = i
    · subst hji; rw [List.getElem?_set_self hil] at hj; exact .inl ⟨rfl, (Option.some.inj hj).symm⟩
    · rw [List.getElem?_set_ne (Ne.symm hji)] at hj; exact .inr ⟨hji, hj⟩
  refine ⟨?_, Nat.le_trans h.base hg.size, ?_, ?_, ?_, ?_⟩
  · refine h.below.trans ⟨hg.os, hg.tape, hg.output, hg.size, fun k hkN => hk k (Nat.lt_of_lt_of_le hkN h.base) (fun hc => ?_)⟩
    have := h.ge i c hi k hc
    omega
  · intro j d hj
    rcases split j d hj with ⟨_, rfl⟩ | ⟨hji, hj⟩
    · exact hP
    · exact (h.foot j d hj).step (fun k hk2 hlt2 => hk k hlt2 (h.apart j i d c hji hj hi k hk2))
  · intro j d hj k hk2
    rcases split j d hj with ⟨_, rfl⟩ | ⟨hji, hj⟩
    · exact hlt k hk2
    · exact Nat.lt_of_lt_of_le (h.lt j d hj k hk2) hg.size
  · intro j d hj k hk2
    rcases split j d hj with ⟨_, rfl⟩ | ⟨hji, hj⟩
    · rcases hs k hk2 with h1 | h1
      · exact h.ge i c hi k h1
      · exact Nat.le_trans h.base h1
    · exact h.ge j d hj k hk2
  · intro j j2 a b hne ha hb k hka hkb
    rcases split j a ha with ⟨e1, e2⟩ | ⟨hji, ha2⟩ <;> rcases split j2 b hb with ⟨e3, e4⟩ | ⟨hji2, hb2⟩
    · exact hne (e1.trans e3.symm)
    · subst e1; subst e2
      rcases hs k hka with h1 | h1
      · exact h.apart j j2 c b hne hi hb2 k h1 hkb
      · have := h.lt j2 b hb2 k hkb; omega
    · subst e3; subst e4
      rcases hs k hkb with h1 | h1
      · exact h.apart j j2 a c hne ha2 hi k hka h1
      · have := h.lt j a ha2 k hka; omega
    · exact h.apart j j2 a b hne ha2 hb2 k hka hkb

theorem Sep.same (h : Sep N w0 W L) (hb : Below W.heap.size W w1) : Sep N w0 w1 L :=
  ⟨h.below.trans (hb.mono h.base), Nat.le_trans h.base hb.size, fun j d hj => (h.foot j d hj).step (fun k _ hlt => hb.block k hlt), fun j d hj k hk => Nat.lt_of_lt_of_le (h.lt j d hj k hk) hb.size, h.ge, h.apart⟩
theorem Sep.alloc' (h : Sep N w0 W L) (o : Obj) : Sep N w0 (W.alloc o) L := h.same (below_alloc (Below.refl _ _) o)
theorem Sep.drewN (h : Sep N w0 W L) (n : Nat) : Sep N w0 (W.drewN n) L := h.same (pw_below_drewN (Below.refl _ _) n)

theorem Sep.app (h : Sep N w0 W L) (c' : Chunk) (hb : Below W.heap.size W w1) (hs : ∀ k, c'.s k → W.heap.size ≤ k ∧ k < w1.heap.size) (hP : Foot c'.p w1 c'.s) : Sep N w0 w1 (L ++ [c']) := by
  have h1 := h.same hb
  have split : ∀ (j : Nat) (d : Chunk), (L ++ [c'])[j]? = some d → (d = c' ∧ j = L.length) ∨ (L[j]? = some d ∧ j < L.length) := by
    intro j d hj
    rcases Nat.lt_or_ge j L.length with hl | hl
    · rw [List.getElem?_append_left hl] at hj; exact .inr ⟨hj, hl⟩
    · rw [List.getElem?_append_right hl] at hj
      have : j - L.length = 0 := by
        rcases Nat.eq_zero_or_pos (j - L.length) with h0 | h0
        · exact h0
        · rw [List.getElem?_eq_none (by simp; omega)] at hj; cases hj
      rw [this] at hj
      exact .inl ⟨(Option.some.inj hj).symm, by omega⟩
  refine ⟨h1.below, h1.base, ?_, ?_, ?_, ?_⟩
  · intro j d hj
    rcases split j d hj with ⟨rfl, _⟩ | ⟨hj, _⟩
    · exact hP
    · exact h1.foot j d hj
  · intro j d hj k hk
    rcases split j d hj with ⟨rfl, _⟩ | ⟨hj, _⟩
    · exact (hs k hk).2
    · exact h1.lt j d hj k hk
  · intro j d hj k hk
    rcases split j d hj with ⟨rfl, _⟩ | ⟨hj, _⟩
    · exact Nat.le_trans h.base (hs k hk).1
    · exact h1.ge j d hj k hk
  · intro j j2 a b hne ha hb2 k hka hkb
    rcases split j a ha with ⟨e1, h3⟩ | ⟨ha2, h3⟩ <;> rcases split j2 b hb2 with ⟨e2, h4⟩ | ⟨hb3, h4⟩
    · omega
    · rw [e1] at hka; have := h.lt j2 b hb3 k hkb; have := (hs k hka).1; omega
    · rw [e2] at hkb; have := h.lt j a ha2 k hka; have := (hs k hkb).1; omega
    · exact h1.apart j j2 a b hne ha2 hb3 k hka hkb
def chE : Chunk := ⟨fun _ => False, fun _ => True⟩
theorem Sep.join (h : Sep N w0 W L) (i j : Nat) (hij : i ≠ j) {a b : Chunk} (hi : L[i]? = some a) (hj : L[j]? = some b) (c' : Chunk) (hs : ∀ k, c'.s k → a.s k ∨ b.s k) (hP : Foot c'.p W c'.s) : Sep N w0 W ((L.set i c').set j chE) := by
  have hil : i < L.length := (List.getElem?_eq_some_iff.1 hi).1
  have hjl : j < L.length := (List.getElem?_eq_some_iff.1 hj).1
  have split : ∀ (q : Nat) (d : Chunk), ((L.set i c').set j chE)[q]? = some d → (q = j ∧ d = chE) ∨ (q = i ∧ d = c') ∨ (q ≠ j ∧ q ≠ i ∧ L[q]? = some d) := by
    intro q d hq
    by_cases hqj : q = j
    · subst hqj; rw [List.getElem?_set_self (by simpa using hjl)] at hq; exact .inl ⟨rfl, (Option.some.inj hq).symm⟩
    · rw [List.getElem?_set_ne (Ne.symm hqj)] at hq
      by_cases hqi : q = i
      · subst hqi; rw [List.getElem?_set_self hil] at hq; exact .inr (.inl ⟨rfl, (Option.some.inj hq).symm⟩)
      · rw [List.getElem?_set_ne (Ne.symm hqi)] at hq; exact .inr (.inr ⟨hqj, hqi, hq⟩)
  refine ⟨h.below, h.base, ?_, ?_, ?_, ?_⟩
  · intro q d hq
    rcases split q d hq with ⟨_, rfl⟩ | ⟨_, rfl⟩ | ⟨_, _, hq⟩
    · exact fun _ _ => trivial
    · exact hP
    · exact h.foot q d hq
  · intro q d hq k hk
    rcases split q d hq with ⟨_, rfl⟩ | ⟨_, rfl⟩ | ⟨_, _, hq⟩
    · exact hk.elim
    · rcases hs k hk with h1 | h1
      · exact h.lt i a hi k h1
      · exact h.lt j b hj k h1
    · exact h.lt q d hq k hk
  · intro q d hq k hk
    rcases split q d hq with ⟨_, rfl⟩ | ⟨_, rfl⟩ | ⟨_, _, hq⟩
    · exact hk.elim
    · rcases hs k hk with h1 | h1
      · exact h.ge i a hi k h1
      · exact h.ge j b hj k h1
    · exact h.ge q d hq k hk
  · intro q q2 x y hne hx hy k hkx hky
    rcases split q x hx with ⟨_, e1⟩ | ⟨hqi, e1⟩ | ⟨h1, h2, hx2⟩
    · rw [e1] at hkx; exact hkx.elim
    · rw [e1] at hkx
      rcases split q2 y hy with ⟨_, e2⟩ | ⟨hq2, e2⟩ | ⟨h3, h4, hy2⟩
      · rw [e2] at hky; exact hky.elim
      · exact hne (hqi.trans hq2.symm)
      · rcases hs k hkx with h5 | h5
        · exact h.apart i q2 a y (Ne.symm h4) hi hy2 k h5 hky
        · exact h.apart j q2 b y (Ne.symm h3) hj hy2 k h5 hky
    · rcases split q2 y hy with ⟨_, e2⟩ | ⟨hq2, e2⟩ | ⟨h3, h4, hy2⟩
      · rw [e2] at hky; exact hky.elim
      · rw [e2] at hky
        rcases hs k hky with h5 | h5
        · exact h.apart q i x a h2 hx2 hi k hkx h5
        · exact h.apart q j x b h1 hx2 hj k hkx h5
      · exact h.apart q q2 x y hne hx2 hy2 k hkx hky
theorem Sep.turn (h : Sep N w0 W L) (i : Nat) {c : Chunk} (hi : L[i]? = some c) (c' : Chunk) (hs : ∀ k, c'.s k → c.s k) (hP : Foot c'.p W c'.s) : Sep N w0 W (L.set i c') :=
  h.upd i hi c' ⟨rfl, rfl, rfl, Nat.le_refl _⟩ (fun _ _ _ => rfl) (fun k hk => .inl (hs k hk)) (fun k hk => h.lt i c hi k (hs k hk)) hP
end

def chB (b T : Nat) (cs : List Value) : Chunk := ⟨fun k => k = b, fun W => W.heap[b]? = some (.cells cs.toArray T (0, 0))⟩
theorem foot_chB {W : World} {b T : Nat} {cs : List Value} (h : W.heap[b]? = some (.cells cs.toArray T (0, 0))) : Foot (chB b T cs).p W (chB b T cs).s := fun W' hW => (hW b rfl (blk_lt h)).trans h

section
variable {N : Nat} {w0 W w1 : World} {L : List Chunk}
theorem Sep.appB (h : Sep N w0 W L) (T : Nat) (cs : List Value) : Sep N w0 (W.alloc (.cells cs.toArray T)) (L ++ [chB W.heap.size T cs]) :=
  h.app _ (below_alloc (Below.refl _ _) _) (fun k hk => by obtain rfl : k = W.heap.size := hk; simp) (foot_chB (blk_new W _))

variable {P : Program} {ops : Array Oper} {rest : List Oper} {o : Oper} {a : Act} {Q : Exit → Act → World → Prop}
theorem sep_store (h : Sep N w0 W L) (i : Nat) {b T : Nat} {cs : List Value} (hi : L[i]? = some (chB b T cs)) (hN : o.dst = none) (hgd : o.guard = none) (t : TypeId) (p x : Operand) (ho : o.op = .store t p x) (j : Nat) (hp : a.eval p = .pointer (some ⟨b, j, none⟩))
    (u : Value) (seg : List Value) (hx : a.eval x = u) (hu : u.cells.toList = seg) (ht : (P.info? t).map (·.size) = some seg.length) (h1 : (seg.all fun q => q.oneCell') = true) (hj : j + seg.length ≤ cs.length) (cs' : List Value) (hcs : cs.take j ++ seg ++ cs.drop (j + seg.length) = cs')
    (hc : ∀ w1, Sep N w0 w1 (L.set i (chB b T cs')) → wpList P ops Q rest a w1) : wpList P ops Q (o :: rest) a W := by
  subst hcs
  have hb : W.heap[b]? = some (.cells cs.toArray T (0, 0)) := h.get i hi
  refine wpList_plain hgd fun K hK => ?_
  have hrun : (Instr.storeAt t (.pointer (some ⟨b, j, none⟩)) u).run P W = .ok () (W.setCells b j seg) := run_store_run t u seg hb hu ht (by simpa using hj) (fun q hq => List.all_eq_true.1 h1 q hq)
  unfold Oper.wp execOp
  simp only [ho, hp, hx, Sem.run_bind, Sem.run_pure, Result.andThen_ok, hrun]
  show K (a.put o.dst undef) _
  rw [hN]
  refine hK a _ (hc _ (h.upd i hi _ ?_ ?_ ?_ ?_ (foot_chB ?_)))
  · obtain ⟨h2, h3, h4, h5⟩ := setCells_same b seg j W
    exact ⟨h2, h3, h4, Nat.le_of_eq h5.symm⟩
  · intro k _ hk
    exact setCells_far seg j k hk
  · intro k hk
    exact .inl hk
  · intro k hk
    obtain rfl : k = b := hk
    rw [(setCells_same k seg j W).2.2.2]
    exact blk_lt hb
  · obtain ⟨cur, h2, h3, h4⟩ := setCells_row (g := b) (e := T) seg j W cs.toArray hb (by simpa using hj)
    rw [h2]
    congr 2
    apply Array.toList_inj.1
    simpa using h4
def chR {α : Type} (d : Kd α) (e N : Nat) (v : Value) (xs : List α) : Chunk := ⟨fun k => v.ownBlock = some k, fun W => d.R e W N (fun _ => True) v xs⟩
theorem foot_chR {α : Type} {d : Kd α} (hE : d.E = []) {e : Nat} {v : Value} {xs : List α} (h : d.R e W N (fun _ => True) v xs) : Foot (chR d e N v xs).p W (chR d e N v xs).s := fun W' hW =>
  Kd.R_mono (Kd.R_step (Kd.R_tight hE h) (fun k hk hlt => hW k hk.symm hlt)) (fun _ _ => trivial)
theorem Sep.appNilR {α : Type} (h : Sep N w0 W L) (d : Kd α) (hE : d.E = []) (e M : Nat) : Sep N w0 W (L ++ [chR d e M (.slice none 0 0) []]) :=
  h.app _ (Below.refl _ _) (fun k hk => by simp [chR, Value.ownBlock] at hk) (foot_chR hE (Kd.R_nil _ _ _ _ _))
theorem sep_R_upd {α : Type} (d : Kd α) (hE : d.E = []) (h : Sep N w0 W L) (i : Nat) {e : Nat} {v v1 : Value} {xs ys : List α} (hi : L[i]? = some (chR d e N v xs)) (hg1 : W.grownBy w1 v.ownBlock) (hat1 : v1.ownBlock = v.ownBlock ∨ ∃ b, v1.ownBlock = some b ∧ W.heap.size ≤ b)
    (hr : d.R e w1 N (fun _ => True) v1 ys) : Sep N w0 w1 (L.set i (chR d e N v1 ys)) := by
  refine h.upd i hi _ (Grew.of_grownBy hg1) (fun k hk hns => hg1.block k hk (fun he => hns he.symm)) ?_ ?_ (foot_chR hE hr)
  · intro k hk
    rcases hat1 with h2 | ⟨b, h2, h3⟩
    · exact .inl (show v.ownBlock = some k from h2.symm.trans hk)
    · refine .inr ?_
      have : b = k := Option.some.inj (h2.symm.trans hk)
      omega
  · intro k hk
    exact Kd.R_lt hr k hk
theorem sep_appendR1 {α : Type} (d : Kd α) (hE : d.E = []) (h : Sep N w0 W L) (i : Nat) {e : Nat} {v : Value} {xs : List α} (hi : L[i]? = some (chR d e N v xs)) (hgd : o.guard = none) (s x : Operand) (t : TypeId) (z : Value) (bytes : Nat)
    (ho : o.op = .call { callee := .builtin .append, args := #[s, x], argTypes := #[t, t] })
    (ht : P.underlying t = some (.slice e)) (hinfo : (P.info? e).map (fun i => (i.zero, i.size, i.bytes)) = some (some z, d.sz, bytes)) (hz : z.cells.size = d.sz) (hs0 : 0 < d.sz) (hb0 : 0 < bytes)
    (y : α) (cs : List Value) (hs : a.eval s = v) (hx : a.eval x = .slice (some ⟨W.heap.size, 0, none⟩) 1 1) (hM : d.M W N (fun _ => False) y cs) (hl : (xs.length + 1) * bytes ≤ 140737488355328) (zs : List α) (m : Nat) (hzs : xs ++ [y] = zs) (hm : zs.length = m)
    (hc : ∀ g1 cap1 w1, Sep N w0 w1 (L.set i (chR d e N (.slice (some ⟨g1, 0, none⟩) m cap1) zs)) → wpList P ops Q rest (a.put o.dst (.slice (some ⟨g1, 0, none⟩) m cap1)) w1) :
    wpList P ops Q (o :: rest) a (W.alloc (.cells cs.toArray e)) := by
  subst hzs; subst hm
  refine Kd.R_append d (w0 := w0) N hgd s x t e z bytes ho ht hinfo hz hs0 hb0 v xs y cs (fun _ => True) (fun _ => False) hs hx hM (fun _ hk => hk.elim) (fun _ _ => trivial) (h.get i hi) h.below h.base hl ?_
  intro v1 w1 hr hb1 hg1 hat1
  obtain ⟨g1, cap1, rfl, _⟩ := Kd.R_form hr (by simp)
  exact hc g1 cap1 w1 (sep_R_upd d hE h i hi hg1 hat1 hr)
theorem sep_appendR {α : Type} (d : Kd α) (hE : d.E = []) (h : Sep N w0 W L) (i : Nat) {e : Nat} {v : Value} {xs : List α} (hi : L[i]? = some (chR d e N v xs)) (hgd : o.guard = none) (s x : Operand) (t : TypeId) (z : Value) (bytes : Nat)
    (ho : o.op = .call { callee := .builtin .append, args := #[s, x], argTypes := #[t, t] })
    (ht : P.underlying t = some (.slice e)) (hinfo : (P.info? e).map (fun i => (i.zero, i.size, i.bytes)) = some (some z, d.sz, bytes)) (hz : z.cells.size = d.sz) (hs0 : 0 < d.sz) (hb0 : 0 < bytes)
    (ys : List α) (A : Option Addr) (m c : Nat) (hs : a.eval s = v) (hx : a.eval x = .slice A m c) (hC : d.C W A m ys) (hKM : ∀ y cs, d.K W y cs → d.M W N (fun _ => False) y cs) (hl : (xs.length + m) * bytes ≤ 140737488355328)
    (hc : ∀ v1 w1, Sep N w0 w1 (L.set i (chR d e N v1 (xs ++ ys))) → wpList P ops Q rest (a.put o.dst v1) w1) :
    wpList P ops Q (o :: rest) a W := by
  refine Kd.R_append_rows d (w0 := w0) N hgd s x t e z bytes ho ht hinfo hz hs0 hb0 v xs ys A m c (fun _ => True) (fun _ => False) hs hx (h.get i hi) hC hKM (fun _ hk => hk.elim) (fun _ _ => trivial) h.below h.base hl ?_
  intro v1 w1 hr hb1 hg1 hat1
  exact hc v1 w1 (sep_R_upd d hE h i hi hg1 hat1 hr)
end
end Go.Proofs.Ytocdpledkmmomaa.P
