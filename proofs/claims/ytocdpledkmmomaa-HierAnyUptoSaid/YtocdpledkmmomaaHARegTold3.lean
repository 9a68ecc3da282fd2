import Derived.Test.YtocdpledkmmomaaHARegTold
namespace Go.Proofs.Ytocdpledkmmomaa.P
open Go.RowKit Go.Proofs.YtocdpledkmmomaaW.PrintWords Go.Proofs.YtocdpledkmmomaaW.PrintLast Go.Proofs.YtocdpledkmmomaaW.PrintMore
set_option linter.unusedVariables false
set_option linter.unusedSimpArgs false
def headG (l : List Oper) (n : Nat) : Bool :=
  (List.range n).all fun i => match l[i]? with
    | some o => o.after.all (fun e => !Region.binds .any e || decide (e.on < i))
    | none => false
theorem headG_spec {l : List Oper} {n : Nat} (h : headG l n = true) {i : Nat} (hi : i < n) : ∃ o, l[i]? = some o ∧ True ∧ ∀ e ∈ o.after, Region.binds .any e = true → e.on < i := by
  have h1 := List.all_eq_true.1 h i (List.mem_range.2 hi)
  cases ho : l[i]? with
  | none => rw [ho] at h1; simp at h1
  | some o =>
    rw [ho] at h1
    exact ⟨o, rfl, trivial, fun e he hb => by have h4 := Array.all_eq_true'.1 h1 e he; simpa [hb] using h4⟩
def guardsB (l : List Oper) (sl : List Nat) : Bool :=
  (List.range l.length).all fun i => match l[i]? with
    | some o => (match o.guard with
      | none => true
      | some g => (o.after.any fun e => Region.binds .any e && e.on == g.1) && ((l[g.1]?).bind fun q : Oper => q.dst) == some (sl.getD g.1 0))
    | none => false
theorem guards_spec {l : List Oper} {sl : List Nat} (h : guardsB l sl = true) {i j : Nat} {b : Bool} {o : Oper} (ho : l[i]? = some o) (hg : o.guard = some (j, b)) : (∃ e ∈ o.after, Region.binds .any e = true ∧ e.on = j) ∧ ((l[j]?).bind fun q : Oper => q.dst) = some (sl.getD j 0) := by
  have h1 := List.all_eq_true.1 h i (List.mem_range.2 (List.getElem?_eq_some_iff.1 ho).1)
  simp only [ho, hg, Bool.and_eq_true, beq_iff_eq] at h1
  obtain ⟨e, he1, he2⟩ := Array.any_eq_true'.1 h1.1
  simp only [Bool.and_eq_true, beq_iff_eq] at he2
  exact ⟨⟨e, he1, he2⟩, h1.2⟩
variable {P : Program} {Q : Exit → Act → World → Prop}
def NextG (N s : Nat) (d : Option Tmp) (t : Told) (a : Act) (w : World) (a' : Act) (w' : World) : Prop :=
  ∃ v, a' = a.put d v ∧ t.p (a'.eval (.tmp s)) w' ∧ Below w.heap.size w w'
theorem wanted_of {l : List Oper} {a : Act} {o : Oper} {j s : Nat} {b : Bool} (hg : o.guard = some (j, b)) (hs : ((l[j]?).bind fun q : Oper => q.dst) = some s) (hv : a.eval (.tmp s) = .bool b) : Region.wanted o (yielded l.toArray a.tmps) = true := by
  unfold Region.wanted yielded
  rw [hg]
  have h1 : ((l.toArray[j]?).bind fun q : Oper => q.dst) = some s := by simpa using hs
  have h2 : a.tmps[s]? = some (.bool b) := by
    cases h : a.tmps[s]? with
    | none => simp [Act.eval, h, undef] at hv
    | some v => simp [Act.eval, h] at hv; rw [hv]
  simp only
  rw [show (l.toArray[j]?).bind (·.dst) = some s from h1]
  simp [h2]
theorem wpAny_toldG {l : List Oper} {a : Act} {w0 : World} (ts : List Told) (sl : List Nat) (hl : ts.length = l.length) (hh : headG l l.length = true) (hsl : slotsB l sl = true) (hgb : guardsB l sl = true)
    (hgt : ∀ (i : Nat) (o : Oper) (j : Nat) (b : Bool), l[i]? = some o → o.guard = some (j, b) → ∀ v w, (ts.getD j Told.any).p v w → v = .bool b)
    (hstep : ∀ i o, i < l.length → l[i]? = some o → ∀ a' w', FrameOf2 l l.length a a' → Below w0.heap.size w0 w' → (∀ e ∈ o.after, Region.binds .any e = true → (ts.getD e.on Told.any).p (a'.eval (.tmp (sl.getD e.on 0))) w') →
      o.wp P a' w' (NextG w0.heap.size (sl.getD i 0) o.dst (ts.getD i Told.any) a' w') Q)
    (hend : ∀ a' w', FrameOf2 l l.length a a' → Below w0.heap.size w0 w' → (∀ i, i < l.length → (ts.getD i Told.any).p (a'.eval (.tmp (sl.getD i 0))) w') → Q .normal a' w') :
    ∀ (f : Nat) (listed : Array Bool) (a' : Act) (w' : World), listed.size = l.length → FrameOf2 l l.length a a' → Below w0.heap.size w0 w' → listed.toList.countP (fun b => !b) = f →
      (∀ j o, l[j]? = some o → listed.getD j false = true → ∀ e ∈ o.after, Region.binds .any e = true → listed.getD e.on false = true) →
      (∀ i, i < l.length → listed.getD i false = true → (ts.getD i Told.any).p (a'.eval (.tmp (sl.getD i 0))) w') → wpAny P .any l.toArray Q f listed a' w' := by
  intro f
  induction f with
  | zero =>
    intro listed a' w' hsz hfr hb hcnt hcl hF
    have hall : ∀ i, i < l.length → listed.getD i false = true := by
      intro i hi
      have h1 := List.countP_eq_zero.1 hcnt (listed[i]'(by omega)) (by simp)
      simpa [hsz, hi] using h1
    refine ⟨?_, hend a' w' hfr hb (fun i hi => hF i hi (hall i hi))⟩
    rw [List.eq_nil_iff_forall_not_mem]
    intro i hi
    obtain ⟨h1, o, ho, _⟩ := mem_ready.1 hi
    have hlt : i < l.length := by simpa using (Array.getElem?_eq_some_iff.1 ho).1
    have h2 := hall i hlt
    simp [hsz, hlt] at h1 h2
    rw [h1] at h2; cases h2
  | succ f ih =>
    intro listed a' w' hsz hfr hb hcnt hcl hF
    have hun : ∃ i, i < l.length ∧ listed.getD i true = false := by
      obtain ⟨b, hb1, hb2⟩ := List.countP_pos_iff.1 (show 0 < listed.toList.countP (fun b => !b) by omega)
      obtain ⟨i, hi, rfl⟩ := List.mem_iff_getElem.1 hb1
      have hi' : i < listed.size := by simpa using hi
      exact ⟨i, by omega, by simpa [hi'] using hb2⟩
    obtain ⟨i0, hi0, hu0⟩ := hun
    have hne : Region.ready .any l.toArray listed ≠ [] := by
      have key : ∀ (k i : Nat), i ≤ k → i < l.length → listed.getD i true = false → Region.ready .any l.toArray listed ≠ [] := by
        intro k
        induction k with
        | zero =>
          intro i hik hin hu h0
          obtain ⟨o, ho, _, hord⟩ := headG_spec hh hin
          have : i ∈ Region.ready .any l.toArray listed := mem_ready.2 ⟨hu, o, by simpa using ho, fun e he hb => by have := hord e he hb; omega⟩
          rw [h0] at this; cases this
        | succ k ihk =>
          intro i hik hin hu h0
          obtain ⟨o, ho, _, hord⟩ := headG_spec hh hin
          by_cases hd : ∀ e ∈ o.after, Region.binds .any e = true → listed.getD e.on false = true
          · have : i ∈ Region.ready .any l.toArray listed := mem_ready.2 ⟨hu, o, by simpa using ho, hd⟩
            rw [h0] at this; cases this
          · obtain ⟨e, he⟩ := Classical.not_forall.1 hd
            obtain ⟨he1, he⟩ := Classical.not_forall.1 he
            obtain ⟨he2, he⟩ := Classical.not_forall.1 he
            have hlt2 := hord e he1 he2
            refine ihk e.on (by omega) (by omega) (getD_in (by omega) (by simpa using he)) h0
      exact key l.length i0 (by omega) hi0 hu0
    refine ⟨fun h0 => absurd h0 hne, fun i hi => ?_⟩
    obtain ⟨hju, o, ho, hall⟩ := mem_ready.1 hi
    have ho' : l[i]? = some o := by simpa using ho
    have hin : i < l.length := (List.getElem?_eq_some_iff.1 ho').1
    obtain ⟨o2, ho2, _, hord⟩ := headG_spec hh hin
    obtain rfl : o2 = o := Option.some.inj (ho2.symm.trans ho')
    have hw := hstep i o2 hin ho' a' w' hfr hb (fun e he hbnd => hF e.on (by have := hord e he hbnd; omega) (hall e he hbnd))
    unfold wpOp
    simp only [ho]
    have hwant : Region.wanted o2 (yielded l.toArray a'.tmps) = true := by
      cases hgd : o2.guard with
      | none => simp [Region.wanted, hgd]
      | some g =>
        obtain ⟨j, b⟩ := g
        obtain ⟨⟨e, he1, he2, rfl⟩, hs⟩ := guards_spec hgb ho' hgd
        exact wanted_of hgd hs (hgt i o2 _ b ho' hgd _ _ (hF e.on (by have := hord e he1 he2; omega) (hall e he1 he2)))
    rw [if_pos hwant]
    refine .inl (Oper.wp_mono ?_ hw)
    rintro a2 w2 ⟨v, rfl, hFi, hmove⟩
    have hilt : i < listed.size := by omega
    have hb2 : Below w0.heap.size w0 w2 := hb.trans (hmove.mono hb.size)
    have hui : listed.getD i false = false := getD_both hju
    refine ih (listed.setIfInBounds i true) _ w2 (by simpa using hsz) (hfr.put hin ho' v) hb2 ?_ ?_ ?_
    · have h6 : listed.toList[i]'(by simpa using hilt) = false := by simp [hilt] at hju; simpa using hju
      rw [Array.toList_setIfInBounds, List.countP_set (by simpa using hilt)]
      rw [h6]
      simp only [Bool.not_false, if_true, Bool.not_true, Bool.false_eq_true, if_false]
      omega
    · intro j oj hoj hlj e he hbnd
      by_cases hji : j = i
      · subst hji
        obtain rfl : o2 = oj := Option.some.inj (ho'.symm.trans hoj)
        have h7 := hall e he hbnd
        by_cases hei : e.on = j
        · rw [hei] at h7; rw [h7] at hui; cases hui
        · rw [getD_set_ne false (Ne.symm hei)]; exact h7
      · rw [getD_set_ne false (Ne.symm hji)] at hlj
        have h7 := hcl j oj hoj hlj e he hbnd
        by_cases hei : e.on = i
        · rw [hei] at h7; rw [h7] at hui; cases hui
        · rw [getD_set_ne false (Ne.symm hei)]; exact h7
    · intro j hj hlj
      by_cases hji : j = i
      · subst hji
        exact hFi
      · rw [getD_set_ne false (Ne.symm hji)] at hlj
        have hold := hF j hj hlj
        -- the slot of j is not what i writes
        have hslot : (a'.put o2.dst v).eval (.tmp (sl.getD j 0)) = a'.eval (.tmp (sl.getD j 0)) := by
          cases hd : o2.dst with
          | none => rfl
          | some d =>
            have h8 := (Bool.and_eq_true _ _ ▸ hsl).2
            have h9 := List.all_eq_true.1 h8 i (List.mem_range.2 hin)
            simp only [ho', hd] at h9
            have h10 := List.all_eq_true.1 h9 j (List.mem_range.2 hj)
            simp only [Bool.or_eq_true, beq_iff_eq, bne_iff_ne] at h10
            rcases h10 with (h10 | h10) | h10
            · exact absurd h10.symm hji
            · exfalso
              unfold depB at h10
              have hoj : l[j]? = some l[j] := List.getElem?_eq_getElem hj
              rw [hoj] at h10
              obtain ⟨e, he1, he2⟩ := Array.any_eq_true'.1 h10
              simp only [Bool.and_eq_true, beq_iff_eq] at he2
              have h11 := hcl j _ hoj hlj e he1 he2.1
              rw [he2.2, hui] at h11; cases h11
            · exact eval_put_other (Ne.symm h10)
        rw [hslot]
        exact (ts.getD j Told.any).mono _ _ _ hmove hold
def StepsG (P : Program) (Q : Exit → Act → World → Prop) (a : Act) (w0 : World) (l : List Oper) (ts0 : List Told) (sl : List Nat) : List Oper → List Told → Nat → Prop
  | o :: os, t :: ts, k => (∀ a' w', FrameOf2 l l.length a a' → Below w0.heap.size w0 w' → (∀ j ∈ depsOf o, (ts0.getD j Told.any).p (a'.eval (.tmp (sl.getD j 0))) w') → o.wp P a' w' (NextG w0.heap.size (sl.getD k 0) o.dst t a' w') Q) ∧ StepsG P Q a w0 l ts0 sl os ts (k + 1)
  | _, _, _ => True
theorem stepsG_get {a : Act} {w0 : World} {l : List Oper} {ts0 : List Told} {sl : List Nat} : ∀ (os : List Oper) (ts : List Told) (k : Nat), StepsG P Q a w0 l ts0 sl os ts k → ∀ i o t, os[i]? = some o → ts[i]? = some t → ∀ a' w', FrameOf2 l l.length a a' → Below w0.heap.size w0 w' → (∀ j ∈ depsOf o, (ts0.getD j Told.any).p (a'.eval (.tmp (sl.getD j 0))) w') → o.wp P a' w' (NextG w0.heap.size (sl.getD (k + i) 0) o.dst t a' w') Q
  | [], _, _, _, i, o, t, ho, _ => by simp at ho
  | _ :: _, [], _, _, i, o, t, _, ht => by simp at ht
  | o :: os, t :: ts, k, h, i, o', t', ho, ht => by
    cases i with
    | zero =>
      obtain rfl : o = o' := by simpa using ho
      obtain rfl : t = t' := by simpa using ht
      exact h.1
    | succ i =>
      have := stepsG_get os ts (k + 1) h.2 i o' t' (by simpa using ho) (by simpa using ht)
      rwa [show k + 1 + i = k + (i + 1) by omega] at this
theorem wp_region_toldG {id : Nat} {l : List Oper} {a : Act} {w : World} (ts : List Told) (sl : List Nat) (hm : P.follows .mixedOrders = true) (hl : ts.length = l.length) (hh : headG l l.length = true) (hsl : slotsB l sl = true) (hgb : guardsB l sl = true)
    (hgt : ∀ (i : Nat) (o : Oper) (j : Nat) (b : Bool), l[i]? = some o → o.guard = some (j, b) → ∀ v w, (ts.getD j Told.any).p v w → v = .bool b)
    (hstep : StepsG P Q a w l ts sl l ts 0)
    (hend : ∀ a' w', FrameOf2 l l.length a a' → Below w.heap.size w w' → (∀ i, i < l.length → (ts.getD i Told.any).p (a'.eval (.tmp (sl.getD i 0))) w') → Q .normal a' w') :
    (Code.region id l.toArray true).wp P Q a w := by
  refine wp_region_any hm ?_
  have h1 := wpAny_toldG (P := P) (Q := Q) (w0 := w) (a := a) ts sl hl hh hsl hgb hgt (fun i o hi ho a' w' hf hb hd => by
      have ht : ts[i]? = some (ts.getD i Told.any) := by have : i < ts.length := by omega
                                                         simp [List.getD, this]
      have := stepsG_get l ts 0 hstep i o _ ho ht a' w' hf hb (fun j hj => by
        obtain ⟨e, he, rfl⟩ := List.mem_map.1 hj
        obtain ⟨he1, he2⟩ := List.mem_filter.1 he
        exact hd e (by simpa using he1) he2)
      rwa [Nat.zero_add] at this) hend l.length (Array.replicate l.length false) a { w with drawn := w.drawn + 1 } (by simp) ⟨rfl, rfl, fun _ _ => rfl⟩ ⟨rfl, rfl, rfl, Nat.le_refl _, fun _ _ => rfl⟩
    (by simp [List.countP_replicate]) (fun j o _ hl => by rw [getD_replicate_false] at hl; cases hl) (fun i _ hl => by rw [getD_replicate_false] at hl; cases hl)
  simpa using h1
end Go.Proofs.Ytocdpledkmmomaa.P
