import Derived.Test.YtocdpledkmmomaaHAAllOrd
import Derived.Test.YtocdpledkmmomaaHAWMore
import Derived.WalkKit
namespace Go.Proofs.Ytocdpledkmmomaa.P
open Go.RowKit Go.Proofs.YtocdpledkmmomaaW.PrintWords Go.Proofs.YtocdpledkmmomaaW.PrintLast Go.Proofs.YtocdpledkmmomaaW.PrintMore
set_option linter.unusedVariables false
set_option linter.unusedSimpArgs false

structure Told where
  p : Value → World → Prop
  mono : ∀ v w w', Below w.heap.size w w' → p v w → p v w'
def Told.val (v0 : Value) : Told := ⟨fun v _ => v = v0, fun _ _ _ _ h => h⟩
def Told.row {α : Type} (d : Kd α) (e N : Nat) (xs : List α) : Told := ⟨fun v w => d.R e w N (fun _ => True) v xs, fun _ _ _ hb h => Kd.R_below h hb⟩
def Told.agg {α : Type} (d : Kd α) (N : Nat) (x : α) : Told := ⟨fun v w => ∃ cs : List Value, v = .agg cs.toArray ∧ d.M w N (fun _ => True) x cs, fun _ _ _ hb ⟨cs, hv, h⟩ => ⟨cs, hv, Kd.M_below h hb⟩⟩
def Told.any : Told := ⟨fun _ _ => True, fun _ _ _ _ h => h⟩

def NextTold (d : Nat) (t : Told) (a : Act) (w : World) (a' : Act) (w' : World) : Prop := ∃ v, a' = a.put (some d) v ∧ t.p v w' ∧ Below w.heap.size w w'

variable {P : Program} {Q : Exit → Act → World → Prop}

theorem wp_region_told {id : Nat} {l : List Oper} {a : Act} {w : World} (ts : List Told) (hm : P.follows .mixedOrders = true) (hB : factsB l ts.length a.tmps.size = true)
    (hstep : ∀ (i : Nat) (o : Oper) (t : Told), l[i]? = some o → ts[i]? = some t → ∀ a' w', FrameOf l ts.length a a' → Below w.heap.size w w' →
      (∀ e ∈ o.after, Region.binds .any e = true → (ts.getD e.on Told.any).p (a'.eval (.tmp (dstOf l e.on))) w') → o.wp P a' w' (NextTold (dstOf l i) t a' w') Q)
    (hend : ∀ a' w', FrameOf l ts.length a a' → Below w.heap.size w w' → (∀ i, i < ts.length → (ts.getD i Told.any).p (a'.eval (.tmp (dstOf l i))) w') → wpList P l.toArray Q (l.drop ts.length) a' w') :
    (Code.region id l.toArray true).wp P Q a w := by
  refine wp_region_facts ts.length (fun i v w' => (ts.getD i Told.any).p v w') (fun w' => Below w.heap.size w w') hm hB ⟨rfl, rfl, rfl, Nat.le_refl _, fun _ _ => rfl⟩ ?_ hend
  intro i o hi ho a' w' hf hb hd
  have ht : ts[i]? = some (ts.getD i Told.any) := by simp [List.getD, hi]
  refine Oper.wp_mono ?_ (hstep i o _ ho ht a' w' hf hb hd)
  rintro a'' w'' ⟨v, rfl, hp, hb2⟩
  exact ⟨v, rfl, hp, hb.trans (hb2.mono hb.size), fun j u hj h => (ts.getD j Told.any).mono _ _ _ hb2 h⟩

theorem told_run {o : Oper} {d : Nat} {t : Told} {a : Act} {w w' : World} {v : Value} (hd : o.dst = some d) (hr : (execOp a.eval o).run P w = .ok (.value v) w') (ht : t.p v w') (hb : Below w.heap.size w w') : o.wp P a w (NextTold d t a w) Q := by
  unfold Oper.wp
  rw [hr]
  show NextTold d t a w (a.put o.dst v) w'
  rw [hd]
  exact ⟨v, rfl, ht, hb⟩
theorem told_call {o : Oper} {d f : Nat} {args : Array Value} {t : Told} {a : Act} {w : World} (hd : o.dst = some d) (hr : (execOp a.eval o).run P w = .ok (.enter f args) w)
    (hc : Calls P f args w fun e w' => ∃ v, e = .returned v ∧ t.p v w' ∧ Below w.heap.size w w') : o.wp P a w (NextTold d t a w) Q := by
  unfold Oper.wp
  rw [hr]
  refine Calls.mono hc fun e w' ⟨v, he, ht, hb⟩ => ?_
  subst he
  show NextTold d t a w (a.put o.dst v) w'
  rw [hd]
  exact ⟨v, rfl, ht, hb⟩
theorem told_lit {α : Type} (k : Kd α) (e N : Nat) {o : Oper} {d : Nat} {a : Act} {w : World} {xs : List α} {inner : List Value} (hd : o.dst = some d)
    (hrun : (execOp a.eval o).run P w = .ok (.value (.slice (some ⟨w.heap.size, 0, none⟩) xs.length xs.length)) (w.alloc (.cells inner.toArray e)))
    (hrep : Reps (k.M w N (fun _ => True)) k.sz xs inner) (hN : N ≤ w.heap.size) (hm : xs.length ≤ 9223372036854775807) : o.wp P a w (NextTold d (Told.row k e N xs) a w) Q := by
  refine told_run hd hrun ?_ (below_alloc (Below.refl _ _) _)
  show k.R e _ N (fun _ => True) _ xs
  refine ⟨fun _ _ => trivial, inner, ?_, ?_⟩
  · have h2 := World.ownsRow_lit (base := N) (e := e) (size := k.sz) w inner.toArray xs.length hN (by simpa [maxLen] using hm) (by simpa using hrep.1)
    simpa using h2
  · refine hrep.imp_ (fun p c hp => k.M_mono (fun j hj => ⟨trivial, fun he => ?_⟩) (Kd.M_below (k.M_bound hp) (below_alloc (Below.refl _ _) _)))
    have h3 : j = w.heap.size := by simpa [Value.ownBlock] using he
    have := hj.2.2.1
    omega
theorem frame_tmp {l : List Oper} {n : Nat} {a a' : Act} (h : FrameOf l n a a') (t : Nat) (hd : ∀ i, i < n → dstOf l i ≠ t) : a'.eval (.tmp t) = a.eval (.tmp t) := by
  have := h.same t hd
  simp only [Act.eval]
  rw [Array.getD_eq_getD_getElem?, Array.getD_eq_getD_getElem?, this]

def depsOf (o : Oper) : List Nat := (o.after.toList.filter fun e => Region.binds .any e).map (·.on)
def StepsAll (P : Program) (Q : Exit → Act → World → Prop) (a : Act) (w : World) (l : List Oper) (ts0 : List Told) : List Oper → List Told → Nat → Prop
  | o :: os, t :: ts, k => (∀ a' w', FrameOf l ts0.length a a' → Below w.heap.size w w' → (∀ j ∈ depsOf o, (ts0.getD j Told.any).p (a'.eval (.tmp (dstOf l j))) w') → o.wp P a' w' (NextTold (dstOf l k) t a' w') Q) ∧ StepsAll P Q a w l ts0 os ts (k + 1)
  | _, _, _ => True
theorem stepsAll_get {a : Act} {w : World} {l : List Oper} {ts0 : List Told} : ∀ (os : List Oper) (ts : List Told) (k : Nat), StepsAll P Q a w l ts0 os ts k → ∀ i o t, os[i]? = some o → ts[i]? = some t → ∀ a' w', FrameOf l ts0.length a a' → Below w.heap.size w w' → (∀ j ∈ depsOf o, (ts0.getD j Told.any).p (a'.eval (.tmp (dstOf l j))) w') → o.wp P a' w' (NextTold (dstOf l (k + i)) t a' w') Q
  | [], _, _, _, i, o, t, ho, _ => by simp at ho
  | _ :: _, [], _, _, i, o, t, _, ht => by simp at ht
  | o :: os, t :: ts, k, h, i, o', t', ho, ht => by
    cases i with
    | zero =>
      obtain rfl : o = o' := by simpa using ho
      obtain rfl : t = t' := by simpa using ht
      exact h.1
    | succ i =>
      have := stepsAll_get os ts (k + 1) h.2 i o' t' (by simpa using ho) (by simpa using ht)
      rwa [show k + 1 + i = k + (i + 1) by omega] at this
theorem wp_region_steps {id : Nat} {l : List Oper} {a : Act} {w : World} (ts : List Told) (hm : P.follows .mixedOrders = true) (hB : factsB l ts.length a.tmps.size = true)
    (hstep : StepsAll P Q a w l ts l ts 0)
    (hend : ∀ a' w', FrameOf l ts.length a a' → Below w.heap.size w w' → (∀ i, i < ts.length → (ts.getD i Told.any).p (a'.eval (.tmp (dstOf l i))) w') → wpList P l.toArray Q (l.drop ts.length) a' w') :
    (Code.region id l.toArray true).wp P Q a w := by
  refine wp_region_told ts hm hB (fun i o t ho ht a' w' hf hb hd => ?_) hend
  have := stepsAll_get l ts 0 hstep i o t ho ht a' w' hf hb (fun j hj => by
    obtain ⟨e, he, rfl⟩ := List.mem_map.1 hj
    obtain ⟨he1, he2⟩ := List.mem_filter.1 he
    exact hd e (by simpa using he1) he2)
  rwa [Nat.zero_add] at this
theorem frame_at {l : List Oper} {n : Nat} {a a' : Act} (h : FrameOf l n a a') (t : Nat) (v : Value) (hd : ((List.range n).all fun i => dstOf l i != t) = true) (hv : a.eval (.tmp t) = v) : a'.eval (.tmp t) = v :=
  (frame_tmp h t fun i hi => by simpa using List.all_eq_true.1 hd i (List.mem_range.2 hi)).trans hv
theorem row_lit {α : Type} (k : Kd α) (e N : Nat) {w : World} {xs : List α} {inner : List Value} (n : Nat) (hn : n = xs.length) (hrep : Reps (k.M w N (fun _ => True)) k.sz xs inner) (hN : N ≤ w.heap.size) (hm : xs.length ≤ 9223372036854775807) :
    k.R e (w.alloc (.cells inner.toArray e)) N (fun _ => True) (.slice (some ⟨w.heap.size, 0, none⟩) n n) xs := by
  subst hn
  refine ⟨fun _ _ => trivial, inner, ?_, ?_⟩
  · have h2 := World.ownsRow_lit (base := N) (e := e) (size := k.sz) w inner.toArray xs.length hN (by simpa [maxLen] using hm) (by simpa using hrep.1)
    simpa using h2
  · refine hrep.imp_ (fun p c hp => k.M_mono (fun j hj => ⟨trivial, fun he => ?_⟩) (Kd.M_below (k.M_bound hp) (below_alloc (Below.refl _ _) _)))
    have h3 : j = w.heap.size := by simpa [Value.ownBlock] using he
    have := hj.2.2.1
    omega
theorem told_append {α : Type} (d : Kd α) {ops : Array Oper} {rest : List Oper} {o : Oper} {a : Act} {w0 W : World} (N : Nat) (hgd : o.guard = none) (s x : Operand) (t e : TypeId) (z : Value) (bytes : Nat)
    (ho : o.op = .call { callee := .builtin .append, args := #[s, x], argTypes := #[t, t] })
    (ht : P.underlying t = some (.slice e)) (hinfo : (P.info? e).map (fun i => (i.zero, i.size, i.bytes)) = some (some z, d.sz, bytes)) (hz : z.cells.size = d.sz) (hs0 : 0 < d.sz) (hb0 : 0 < bytes) (hE : (d.E.all fun q => q != e) = true)
    (g n cap : Nat) (vx : Value) (xs ys : List α) (hs : a.eval s = .slice (some ⟨g, 0, none⟩) n cap) (hx : a.eval x = vx)
    (HO : d.R e W N (fun _ => True) (.slice (some ⟨g, 0, none⟩) n cap) xs) (HX : d.R e W N (fun _ => True) vx ys) (hpos : 0 < xs.length)
    (HB : Below N w0 W) (hbase : N ≤ W.heap.size) (hl : (xs.length + ys.length) * bytes ≤ 140737488355328) (zs : List α) (m : Nat) (hzs : xs ++ ys = zs) (hm : zs.length = m)
    (h : ∀ g1 cap1 w1, d.R e w1 N (fun _ => True) (.slice (some ⟨g1, 0, none⟩) m cap1) zs → Below N w0 w1 → wpList P ops Q rest (a.put o.dst (.slice (some ⟨g1, 0, none⟩) m cap1)) w1) :
    wpList P ops Q (o :: rest) a W := by
  subst hzs
  subst hm
  obtain ⟨A, c, rfl, hlc, hR⟩ := OwnRow.reads HX.2
  obtain ⟨cells, hcell⟩ := Kd.R_typed HO g (by simp [Value.ownBlock])
  refine Kd.R_append_rows d (w0 := w0) N hgd s x t e z bytes ho ht hinfo hz hs0 hb0 _ xs ys A ys.length c (fun _ => True) (fun k => (True ∧ some k ≠ (Value.slice A ys.length c).ownBlock) ∧ k ≠ g) hs hx HO hR (fun y cs hM => Kd.M_types hM hcell (fun q hq => by have := List.all_eq_true.1 hE q hq; simpa using this)) (fun k hk => ⟨trivial, by simp only [Value.ownBlock]; intro he; exact hk.2 (by injection he)⟩) (fun _ _ => trivial) HB hbase hl ?_
  intro v1 w1 ho1 hb1 _ _
  obtain ⟨g1, cap1, rfl, _⟩ := Kd.R_form ho1 (by rw [List.length_append]; omega)
  exact h g1 cap1 w1 ho1 hb1
theorem told_append1 {α : Type} (d : Kd α) {ops : Array Oper} {rest : List Oper} {o : Oper} {a : Act} {w0 W : World} (N : Nat) (hgd : o.guard = none) (s x : Operand) (t e : TypeId) (z : Value) (bytes : Nat)
    (ho : o.op = .call { callee := .builtin .append, args := #[s, x], argTypes := #[t, t] })
    (ht : P.underlying t = some (.slice e)) (hinfo : (P.info? e).map (fun i => (i.zero, i.size, i.bytes)) = some (some z, d.sz, bytes)) (hz : z.cells.size = d.sz) (hs0 : 0 < d.sz) (hb0 : 0 < bytes) (hE : (d.E.all fun q => q != e) = true)
    (g n cap : Nat) (xs : List α) (y : α) (cs : List Value) (hs : a.eval s = .slice (some ⟨g, 0, none⟩) n cap) (hx : a.eval x = .slice (some ⟨W.heap.size, 0, none⟩) 1 1)
    (HO : d.R e W N (fun _ => True) (.slice (some ⟨g, 0, none⟩) n cap) xs) (HX : d.M W N (fun _ => True) y cs)
    (HB : Below N w0 W) (hbase : N ≤ W.heap.size) (hl : (xs.length + 1) * bytes ≤ 140737488355328) (zs : List α) (m : Nat) (hzs : xs ++ [y] = zs) (hm : zs.length = m)
    (h : ∀ g1 cap1 w1, d.R e w1 N (fun _ => True) (.slice (some ⟨g1, 0, none⟩) m cap1) zs → Below N w0 w1 → wpList P ops Q rest (a.put o.dst (.slice (some ⟨g1, 0, none⟩) m cap1)) w1) :
    wpList P ops Q (o :: rest) a (W.alloc (.cells cs.toArray e)) := by
  subst hzs
  subst hm
  obtain ⟨cells, hcell⟩ := Kd.R_typed HO g (by simp [Value.ownBlock])
  refine Kd.R_append d (w0 := w0) N hgd s x t e z bytes ho ht hinfo hz hs0 hb0 _ xs y cs (fun _ => True) (fun k => True ∧ k ≠ g) hs hx (Kd.M_types HX hcell (fun q hq => by have := List.all_eq_true.1 hE q hq; simpa using this)) (fun k hk => ⟨trivial, by simp only [Value.ownBlock]; intro he; exact hk.2 (by injection he)⟩) (fun _ _ => trivial) HO HB hbase hl ?_
  intro v1 w1 ho1 hb1 _ _
  obtain ⟨g1, cap1, rfl, _⟩ := Kd.R_form ho1 (by rw [List.length_append]; simp)
  exact h g1 cap1 w1 ho1 hb1
theorem act_of_frame {l : List Oper} {n : Nat} {a a' : Act} (h : FrameOf l n a a') (ds : List Nat) (hds : (List.range n).map (dstOf l) = ds) (hlt : (ds.all fun d => decide (d < a.tmps.size)) = true) :
    a' = { tmps := ds.foldl (fun t d => t.setIfInBounds d (a'.eval (.tmp d))) a.tmps, defers := a.defers } := by
  have key : ∀ (ds : List Nat) (t : Array Value), (ds.foldl (fun t d => t.setIfInBounds d (a'.eval (.tmp d))) t).size = t.size ∧ ∀ i : Nat, (ds.foldl (fun t d => t.setIfInBounds d (a'.eval (.tmp d))) t)[i]? = if i ∈ ds ∧ i < t.size then some (a'.eval (.tmp i)) else t[i]? := by
    intro ds
    induction ds with
    | nil => intro t; simp
    | cons d ds ih =>
      intro t
      obtain ⟨h1, h2⟩ := ih (t.setIfInBounds d (a'.eval (.tmp d)))
      refine ⟨by simpa using h1, fun i => ?_⟩
      rw [List.foldl_cons, h2 i]
      simp only [Array.size_setIfInBounds, List.mem_cons]
      by_cases hi : i ∈ ds ∧ i < t.size
      · rw [if_pos hi, if_pos ⟨.inr hi.1, hi.2⟩]
      · rw [if_neg hi]
        by_cases he : i = d
        · subst he
          by_cases hs : i < t.size
          · rw [if_pos ⟨.inl rfl, hs⟩]; simp [hs]
          · rw [if_neg (fun h => hs h.2)]; simp [hs]
        · rw [Array.getElem?_setIfInBounds_ne (Ne.symm he)]
          rw [if_neg]
          rintro ⟨h3 | h3, h4⟩
          · exact he h3
          · exact hi ⟨h3, h4⟩
  obtain ⟨h1, h2⟩ := key ds a.tmps
  have e : a'.tmps = ds.foldl (fun t d => t.setIfInBounds d (a'.eval (.tmp d))) a.tmps := by
    apply Array.ext_getElem?
    intro i
    rw [h2 i]
    by_cases hi : i ∈ ds
    · have hs : i < a.tmps.size := by simpa using List.all_eq_true.1 hlt i hi
      rw [if_pos ⟨hi, hs⟩]
      have hs' : i < a'.tmps.size := by rw [h.size]; exact hs
      simp [Act.eval, hs']
    · rw [if_neg (fun h => hi h.1)]
      refine h.same i fun j hj he => hi ?_
      rw [← hds, List.mem_map]
      exact ⟨j, List.mem_range.2 hj, he⟩
  cases a' with
  | mk tmps defers =>
    have h3 := h.defers
    simp only at e h3
    simp only [Act.mk.injEq]
    exact ⟨e, h3⟩
theorem reps_one {α : Type} {R : α → List Value → Prop} {sz : Nat} {x : α} {cs : List Value} (hl : cs.length = sz) (h : R x cs) : Reps R sz [x] cs := by
  have := (Reps.none R sz).snoc h hl
  simpa using this
theorem reps_snoc {α : Type} {R : α → List Value → Prop} {sz : Nat} {xs : List α} {inner : List Value} {x : α} {cs : List Value} (hr : Reps R sz xs inner) (hl : cs.length = sz) (h : R x cs) : Reps R sz (xs ++ [x]) (inner ++ cs) := hr.snoc h hl
end Go.Proofs.Ytocdpledkmmomaa.P
