import Derived.Test.YtocdpledkmmomaaHARegTold
import Derived.Test.YtocdpledkmmomaaHASep
namespace Go.Proofs.Ytocdpledkmmomaa.P
open Go.RowKit Go.Proofs.YtocdpledkmmomaaW.PrintWords Go.Proofs.YtocdpledkmmomaaW.PrintLast Go.Proofs.YtocdpledkmmomaaW.PrintMore
set_option linter.unusedVariables false
set_option linter.unusedSimpArgs false
structure TQ (N T : Nat) where
  p : Value → Value → World → Prop
  grow : ∀ v q w w', Below w.heap.size w w' → p v q w → p v q w'
  fresh : ∀ v q w w', Below w.heap.size w w' → p v q w → p v (.pointer (some ⟨w.heap.size, 0, none⟩)) w'
def FarQ {N T : Nat} (t : TQ N T) : Prop := ∀ v w w' g, StoreAt N T g w w' → t.p v (.pointer (some ⟨g, 0, none⟩)) w → t.p v (.pointer (some ⟨g, 0, none⟩)) w'
def TQ.of {N T : Nat} (t : Told) : TQ N T := ⟨fun v _ w => t.p v w, fun v _ w w' hb h => t.mono v w w' hb h, fun v _ w w' hb h => t.mono v w w' hb h⟩
theorem FarQ.of {N T : Nat} {t : Told} (h : Far N T t) : FarQ (TQ.of t : TQ N T) := fun v w w' g hs hp => h v w w' g hs hp
def TQ.val {N T : Nat} (v0 : Value) : TQ N T := TQ.of (Told.val v0)
theorem far_valq {N T : Nat} (v0 : Value) : FarQ (TQ.val v0 : TQ N T) := FarQ.of (far_val N T v0)
def TQ.ptr {N T : Nat} (m : Nat) : TQ N T := TQ.of (Told.ptr N T m)
theorem far_ptrq {N T m : Nat} : FarQ (TQ.ptr m : TQ N T) := FarQ.of (far_ptr N T m)
def TQ.made {N T : Nat} (p : Value → (Nat → Prop) → World → Prop) (hp : ∀ v ok w w', (∀ k, ok k → k < w.heap.size → w'.heap[k]? = w.heap[k]?) → w.heap.size ≤ w'.heap.size → p v ok w → p v ok w') : TQ N T where
  p := fun v q w => ∃ M M', M' ≤ w.heap.size ∧ (∀ b, q = .pointer (some ⟨b, 0, none⟩) → b < M ∨ M' ≤ b) ∧ p v (fun k => M ≤ k ∧ k < M') w
  grow := fun v q w w' hb ⟨M, M', h1, h2, h3⟩ => ⟨M, M', Nat.le_trans h1 hb.size, h2, hp _ _ _ _ (fun k _ hk => hb.block k hk) hb.size h3⟩
  fresh := fun v q w w' hb ⟨M, M', h1, h2, h3⟩ => ⟨M, M', Nat.le_trans h1 hb.size, fun b hq => by
    injection hq with hq
    injection hq with hq
    injection hq with hq
    exact .inr (by omega), hp _ _ _ _ (fun k _ hk => hb.block k hk) hb.size h3⟩

def TQ.any {N T : Nat} : TQ N T := TQ.of Told.any
def slotsQ (l : List Oper) (sl : List Nat) (ps ai : Nat) : Bool :=
  slotsB l sl && (List.range l.length).all fun i => match l[i]? with
    | some o => (i == ai) || (o.dst != some ps)
    | none => false
variable {P : Program} {Q : Exit → Act → World → Prop}
def NextQ (N T : Nat) (k : Nat) (s ps : Nat) (d : Option Tmp) (t : TQ N T) (a : Act) (w : World) (a' : Act) (w' : World) : Prop :=
  ∃ v, a' = a.put d v ∧ t.p (a'.eval (.tmp s)) (a'.eval (.tmp ps)) w' ∧
    ((k ≠ 1 ∧ Below w.heap.size w w') ∨ (k = 1 ∧ Below w.heap.size w w' ∧ a'.eval (.tmp ps) = .pointer (some ⟨w.heap.size, 0, none⟩) ∧ w.heap.size < w'.heap.size) ∨ (k = 2 ∧ ∃ g, a.eval (.tmp ps) = .pointer (some ⟨g, 0, none⟩) ∧ StoreAt N T g w w'))
def kOf (ai si i : Nat) : Nat := if i == ai then 1 else if i == si then 2 else 0
def PlaceOk (ps : Nat) (a : Act) (w : World) : Prop := ∀ b, a.eval (.tmp ps) = .pointer (some ⟨b, 0, none⟩) → b < w.heap.size
theorem wpAny_toldQ {l : List Oper} {a : Act} {w0 : World} {T : Nat} (ps ai si : Nat) (ts : List (TQ w0.heap.size T)) (sl : List Nat) (hl : ts.length = l.length) (hh : headB2 l l.length = true) (hsl : slotsQ l sl ps ai = true)
    (hfar : ∀ j, j < l.length → j ≠ si → FarQ (ts.getD j TQ.any))
    (hstep : ∀ i o, i < l.length → l[i]? = some o → ∀ a' w', FrameOf2 l l.length a a' → Below w0.heap.size w0 w' → PlaceOk ps a' w' → (∀ e ∈ o.after, Region.binds .any e = true → (ts.getD e.on TQ.any).p (a'.eval (.tmp (sl.getD e.on 0))) (a'.eval (.tmp ps)) w') →
      o.wp P a' w' (NextQ w0.heap.size T (kOf ai si i) (sl.getD i 0) ps o.dst (ts.getD i TQ.any) a' w') Q)
    (hend : ∀ a' w', FrameOf2 l l.length a a' → Below w0.heap.size w0 w' → (∀ i, i < l.length → (ts.getD i TQ.any).p (a'.eval (.tmp (sl.getD i 0))) (a'.eval (.tmp ps)) w') → Q .normal a' w') :
    ∀ (f : Nat) (listed : Array Bool) (a' : Act) (w' : World), listed.size = l.length → FrameOf2 l l.length a a' → Below w0.heap.size w0 w' → PlaceOk ps a' w' → listed.toList.countP (fun b => !b) = f →
      (∀ j o, l[j]? = some o → listed.getD j false = true → ∀ e ∈ o.after, Region.binds .any e = true → listed.getD e.on false = true) →
      (∀ i, i < l.length → listed.getD i false = true → (ts.getD i TQ.any).p (a'.eval (.tmp (sl.getD i 0))) (a'.eval (.tmp ps)) w') → wpAny P .any l.toArray Q f listed a' w' := by
  intro f
  induction f with
  | zero =>
    intro listed a' w' hsz hfr hb hpl hcnt hcl hF
    have hall : ∀ i, i < l.length → listed.getD i false = true := by
      intro i hi
      have h1 := List.countP_eq_zero.1 hcnt (listed[i]'(by omega)) (by simp)
      simpa [hsz, hi] using h1
    refine ⟨?_, hend a' w' hfr hb (fun i hi => hF i hi (hall i hi))⟩
    rw [List.eq_nil_iff_forall_not_mem]
    intro i hi
    obtain ⟨h1, o, ho, _⟩ := mem_ready.1 hi
    have hlt : i < l.length := by simpa using (Array.getElem?_eq_some_iff.1 ho).1
    have h2 := hall i hlt
    simp [hsz, hlt] at h1 h2
    rw [h1] at h2; cases h2
  | succ f ih =>
    intro listed a' w' hsz hfr hb hpl hcnt hcl hF
    have hun : ∃ i, i < l.length ∧ listed.getD i true = false := by
      obtain ⟨b, hb1, hb2⟩ := List.countP_pos_iff.1 (show 0 < listed.toList.countP (fun b => !b) by omega)
      obtain ⟨i, hi, rfl⟩ := List.mem_iff_getElem.1 hb1
      have hi' : i < listed.size := by simpa using hi
      exact ⟨i, by omega, by simpa [hi'] using hb2⟩
    obtain ⟨i0, hi0, hu0⟩ := hun
    have hne : Region.ready .any l.toArray listed ≠ [] := by
      have key : ∀ (k i : Nat), i ≤ k → i < l.length → listed.getD i true = false → Region.ready .any l.toArray listed ≠ [] := by
        intro k
        induction k with
        | zero =>
          intro i hik hin hu h0
          obtain ⟨o, ho, _, hord⟩ := headB2_spec hh hin
          have : i ∈ Region.ready .any l.toArray listed := mem_ready.2 ⟨hu, o, by simpa using ho, fun e he hb => by have := hord e he hb; omega⟩
          rw [h0] at this; cases this
        | succ k ihk =>
          intro i hik hin hu h0
          obtain ⟨o, ho, _, hord⟩ := headB2_spec hh hin
          by_cases hd : ∀ e ∈ o.after, Region.binds .any e = true → listed.getD e.on false = true
          · have : i ∈ Region.ready .any l.toArray listed := mem_ready.2 ⟨hu, o, by simpa using ho, hd⟩
            rw [h0] at this; cases this
          · obtain ⟨e, he⟩ := Classical.not_forall.1 hd
            obtain ⟨he1, he⟩ := Classical.not_forall.1 he
            obtain ⟨he2, he⟩ := Classical.not_forall.1 he
            have hlt2 := hord e he1 he2
            refine ihk e.on (by omega) (by omega) (getD_in (by omega) (by simpa using he)) h0
      exact key l.length i0 (by omega) hi0 hu0
    refine ⟨fun h0 => absurd h0 hne, fun i hi => ?_⟩
    obtain ⟨hju, o, ho, hall⟩ := mem_ready.1 hi
    have ho' : l[i]? = some o := by simpa using ho
    have hin : i < l.length := (List.getElem?_eq_some_iff.1 ho').1
    obtain ⟨o2, ho2, hg, hord⟩ := headB2_spec hh hin
    obtain rfl : o2 = o := Option.some.inj (ho2.symm.trans ho')
    have hw := hstep i o2 hin ho' a' w' hfr hb hpl (fun e he hbnd => hF e.on (by have := hord e he hbnd; omega) (hall e he hbnd))
    unfold wpOp
    simp only [ho]
    rw [if_pos (by simp [Region.wanted, hg])]
    refine .inl (Oper.wp_mono ?_ hw)
    rintro a2 w2 ⟨v, rfl, hFi, hmove⟩
    have hilt : i < listed.size := by omega
    have hb2 : Below w0.heap.size w0 w2 := by
      rcases hmove with ⟨_, h⟩ | ⟨_, h, _⟩ | ⟨_, g, _, h⟩
      · exact hb.trans (h.mono hb.size)
      · exact hb.trans (h.mono hb.size)
      · exact hb.trans ⟨h.os, h.tape, h.output, Nat.le_of_eq h.size.symm, fun k hk => h.far k (by have := h.base; omega)⟩
    have hps : i ≠ ai → (a'.put o2.dst v).eval (.tmp ps) = a'.eval (.tmp ps) := by
      intro hne2
      cases hd : o2.dst with
      | none => rfl
      | some d =>
        have h8 := (Bool.and_eq_true _ _ ▸ hsl).2
        have h9 := List.all_eq_true.1 h8 i (List.mem_range.2 hin)
        simp only [ho', Bool.or_eq_true, beq_iff_eq, bne_iff_ne, hd] at h9
        rcases h9 with h9 | h9
        · exact absurd h9 hne2
        · exact eval_put_other (fun he => h9 (by rw [he]))
    have hpl2 : PlaceOk ps (a'.put o2.dst v) w2 := by
      intro b hb3
      rcases hmove with ⟨hk, h⟩ | ⟨_, h, he, hlt⟩ | ⟨hk, g, _, h⟩
      · rw [hps (fun he => hk (by simp [kOf, he]))] at hb3
        exact Nat.lt_of_lt_of_le (hpl b hb3) h.size
      · rw [he] at hb3
        injection hb3 with hb3
        injection hb3 with hb3
        injection hb3 with hb3
        omega
      · rw [hps (fun he => by simp [kOf, he] at hk)] at hb3
        rw [h.size]
        exact hpl b hb3
    have hui : listed.getD i false = false := getD_both hju
    refine ih (listed.setIfInBounds i true) _ w2 (by simpa using hsz) (hfr.put hin ho' v) hb2 hpl2 ?_ ?_ ?_
    · have h6 : listed.toList[i]'(by simpa using hilt) = false := by simp [hilt] at hju; simpa using hju
      rw [Array.toList_setIfInBounds, List.countP_set (by simpa using hilt)]
      rw [h6]
      simp only [Bool.not_false, if_true, Bool.not_true, Bool.false_eq_true, if_false]
      omega
    · intro j oj hoj hlj e he hbnd
      by_cases hji : j = i
      · subst hji
        obtain rfl : o2 = oj := Option.some.inj (ho'.symm.trans hoj)
        have h7 := hall e he hbnd
        by_cases hei : e.on = j
        · rw [hei] at h7; rw [h7] at hui; cases hui
        · rw [getD_set_ne false (Ne.symm hei)]; exact h7
      · rw [getD_set_ne false (Ne.symm hji)] at hlj
        have h7 := hcl j oj hoj hlj e he hbnd
        by_cases hei : e.on = i
        · rw [hei] at h7; rw [h7] at hui; cases hui
        · rw [getD_set_ne false (Ne.symm hei)]; exact h7
    · intro j hj hlj
      by_cases hji : j = i
      · subst hji
        exact hFi
      · rw [getD_set_ne false (Ne.symm hji)] at hlj
        have hold := hF j hj hlj
        -- the slot of j is not what i writes
        have hslot : (a'.put o2.dst v).eval (.tmp (sl.getD j 0)) = a'.eval (.tmp (sl.getD j 0)) := by
          cases hd : o2.dst with
          | none => rfl
          | some d =>
            have h8 := (Bool.and_eq_true _ _ ▸ (Bool.and_eq_true _ _ ▸ hsl).1).2
            have h9 := List.all_eq_true.1 h8 i (List.mem_range.2 hin)
            simp only [ho', hd] at h9
            have h10 := List.all_eq_true.1 h9 j (List.mem_range.2 hj)
            simp only [Bool.or_eq_true, beq_iff_eq, bne_iff_ne] at h10
            rcases h10 with (h10 | h10) | h10
            · exact absurd h10.symm hji
            · exfalso
              unfold depB at h10
              have hoj : l[j]? = some l[j] := List.getElem?_eq_getElem hj
              rw [hoj] at h10
              obtain ⟨e, he1, he2⟩ := Array.any_eq_true'.1 h10
              simp only [Bool.and_eq_true, beq_iff_eq] at he2
              have h11 := hcl j _ hoj hlj e he1 he2.1
              rw [he2.2, hui] at h11; cases h11
            · exact eval_put_other (Ne.symm h10)
        rw [hslot]
        rcases hmove with ⟨hk, h⟩ | ⟨_, h, he, _⟩ | ⟨hk, g, hg2, h⟩
        · rw [hps (fun he => hk (by simp [kOf, he]))]
          exact (ts.getD j TQ.any).grow _ _ _ _ h hold
        · rw [he]
          exact (ts.getD j TQ.any).fresh _ _ _ _ h hold
        · have hai : i ≠ ai := fun he => by simp [kOf, he] at hk
          have hsi : i = si := by
            by_cases h12 : i = si
            · exact h12
            · simp [kOf, hai, h12] at hk
          rw [hps hai]
          rw [hg2] at hold ⊢
          exact hfar j hj (by rw [← hsi]; exact hji) _ _ _ g h hold
def StepsQ (P : Program) (Q : Exit → Act → World → Prop) (T ps ai si : Nat) (a : Act) (w0 : World) (l : List Oper) (ts0 : List (TQ w0.heap.size T)) (sl : List Nat) : List Oper → List (TQ w0.heap.size T) → Nat → Prop
  | o :: os, t :: ts, k => (∀ a' w', FrameOf2 l l.length a a' → Below w0.heap.size w0 w' → PlaceOk ps a' w' → (∀ j ∈ depsOf o, (ts0.getD j TQ.any).p (a'.eval (.tmp (sl.getD j 0))) (a'.eval (.tmp ps)) w') → o.wp P a' w' (NextQ w0.heap.size T (kOf ai si k) (sl.getD k 0) ps o.dst t a' w') Q) ∧ StepsQ P Q T ps ai si a w0 l ts0 sl os ts (k + 1)
  | _, _, _ => True
theorem stepsQ_get {T ps ai si : Nat} {a : Act} {w0 : World} {l : List Oper} {ts0 : List (TQ w0.heap.size T)} {sl : List Nat} : ∀ (os : List Oper) (ts : List (TQ w0.heap.size T)) (k : Nat), StepsQ P Q T ps ai si a w0 l ts0 sl os ts k → ∀ i o t, os[i]? = some o → ts[i]? = some t → ∀ a' w', FrameOf2 l l.length a a' → Below w0.heap.size w0 w' → PlaceOk ps a' w' → (∀ j ∈ depsOf o, (ts0.getD j TQ.any).p (a'.eval (.tmp (sl.getD j 0))) (a'.eval (.tmp ps)) w') → o.wp P a' w' (NextQ w0.heap.size T (kOf ai si (k + i)) (sl.getD (k + i) 0) ps o.dst t a' w') Q
  | [], _, _, _, i, o, t, ho, _ => by simp at ho
  | _ :: _, [], _, _, i, o, t, _, ht => by simp at ht
  | o :: os, t :: ts, k, h, i, o', t', ho, ht => by
    cases i with
    | zero =>
      obtain rfl : o = o' := by simpa using ho
      obtain rfl : t = t' := by simpa using ht
      exact h.1
    | succ i =>
      have := stepsQ_get os ts (k + 1) h.2 i o' t' (by simpa using ho) (by simpa using ht)
      rwa [show k + 1 + i = k + (i + 1) by omega] at this
def FarL {N T : Nat} (si : Nat) : List (TQ N T) → Nat → Prop
  | [], _ => True
  | t :: ts, k => (k ≠ si → FarQ t) ∧ FarL si ts (k + 1)
theorem farL_get {N T si : Nat} : ∀ (ts : List (TQ N T)) (k : Nat), FarL si ts k → ∀ j, j < ts.length → k + j ≠ si → FarQ (ts.getD j TQ.any)
  | [], _, _, j, hj, _ => by simp at hj
  | t :: ts, k, h, 0, _, hne => h.1 hne
  | t :: ts, k, h, j + 1, hj, hne => by
    have := farL_get ts (k + 1) h.2 j (by simpa using hj) (by omega)
    simpa using this
theorem wp_region_toldQ {id : Nat} {l : List Oper} {a : Act} {w : World} (T ps ai si : Nat) (ts : List (TQ w.heap.size T)) (sl : List Nat) (hm : P.follows .mixedOrders = true) (hl : ts.length = l.length) (hh : headB2 l l.length = true) (hsl : slotsQ l sl ps ai = true) (h0 : PlaceOk ps a w)
    (hfar : FarL si ts 0) (hstep : StepsQ P Q T ps ai si a w l ts sl l ts 0)
    (hend : ∀ a' w', FrameOf2 l l.length a a' → Below w.heap.size w w' → (∀ i, i < l.length → (ts.getD i TQ.any).p (a'.eval (.tmp (sl.getD i 0))) (a'.eval (.tmp ps)) w') → Q .normal a' w') :
    (Code.region id l.toArray true).wp P Q a w := by
  refine wp_region_any hm ?_
  have h1 := wpAny_toldQ (P := P) (Q := Q) (w0 := w) (a := a) ps ai si ts sl hl hh hsl (fun j hj hne => farL_get ts 0 hfar j (by omega) (by omega)) (fun i o hi ho a' w' hf hb hp hd => by
      have ht : ts[i]? = some (ts.getD i TQ.any) := by have : i < ts.length := by omega
                                                       simp [List.getD, this]
      have := stepsQ_get l ts 0 hstep i o _ ho ht a' w' hf hb hp (fun j hj => by
        obtain ⟨e, he, rfl⟩ := List.mem_map.1 hj
        obtain ⟨he1, he2⟩ := List.mem_filter.1 he
        exact hd e (by simpa using he1) he2)
      rwa [Nat.zero_add] at this) hend l.length (Array.replicate l.length false) a { w with drawn := w.drawn + 1 } (by simp) ⟨rfl, rfl, fun _ _ => rfl⟩ ⟨rfl, rfl, rfl, Nat.le_refl _, fun _ _ => rfl⟩ h0
    (by simp [List.countP_replicate]) (fun j o _ hl => by rw [getD_replicate_false] at hl; cases hl) (fun i _ hl => by rw [getD_replicate_false] at hl; cases hl)
  simpa using h1
theorem q_run {N T k s ps : Nat} {o : Oper} {t : TQ N T} {a : Act} {w w' : World} {v : Value} (hd : o.dst = some s) (hs : s < a.tmps.size) (hk : k ≠ 1) (hp : s ≠ ps) (hr : (execOp a.eval o).run P w = .ok (.value v) w') (hb : Below w.heap.size w w') (ht : t.p v (a.eval (.tmp ps)) w') : o.wp P a w (NextQ N T k s ps o.dst t a w) Q := by
  unfold Oper.wp
  rw [hr]
  show NextQ N T k s ps o.dst t a w (a.put o.dst v) w'
  refine ⟨v, rfl, ?_, .inl ⟨hk, hb⟩⟩
  rw [hd, eval_put_same hs, eval_put_other hp]
  exact ht
theorem q_call {N T k s ps f : Nat} {args : Array Value} {o : Oper} {t : TQ N T} {a : Act} {w : World} (hd : o.dst = some s) (hs : s < a.tmps.size) (hk : k ≠ 1) (hp : s ≠ ps) (hr : (execOp a.eval o).run P w = .ok (.enter f args) w)
    (hc : Calls P f args w fun e w' => ∃ v, e = .returned v ∧ Below w.heap.size w w' ∧ t.p v (a.eval (.tmp ps)) w') : o.wp P a w (NextQ N T k s ps o.dst t a w) Q := by
  unfold Oper.wp
  rw [hr]
  refine Calls.mono hc fun e w' ⟨v, he, hb, ht⟩ => ?_
  subst he
  show NextQ N T k s ps o.dst t a w (a.put o.dst v) w'
  refine ⟨v, rfl, ?_, .inl ⟨hk, hb⟩⟩
  rw [hd, eval_put_same hs, eval_put_other hp]
  exact ht
theorem q_alloc {N T s m : Nat} {o : Oper} {a : Act} {w : World} {cs : Array Value} (hm : cs.size = m) (hd : o.dst = some s) (hs : s < a.tmps.size) (hN : N ≤ w.heap.size) (hr : (execOp a.eval o).run P w = .ok (.value (.pointer (some ⟨w.heap.size, 0, none⟩))) (w.alloc (.cells cs T))) : o.wp P a w (NextQ N T 1 s s o.dst (TQ.ptr m) a w) Q := by
  unfold Oper.wp
  rw [hr]
  show NextQ N T 1 s s o.dst (TQ.ptr m) a w (a.put o.dst _) _
  refine ⟨_, rfl, ?_, .inr (.inl ⟨rfl, below_alloc (Below.refl _ _) _, ?_, by simp⟩)⟩
  · rw [hd, eval_put_same hs]
    exact ⟨w.heap.size, rfl, hN, by simp, cs, hm, blk_new w _⟩
  · rw [hd, eval_put_same hs]
theorem q_store {N T s : Nat} {o : Oper} {t : TQ N T} {a : Act} {w : World} (hN : o.dst = none) (tt : TypeId) (p x : Operand) (ho : o.op = .store tt p x) {b : Nat} {cs : Array Value} (hp : a.eval p = .pointer (some ⟨b, 0, none⟩)) (hs : a.eval (.tmp s) = .pointer (some ⟨b, 0, none⟩)) (hNb : N ≤ b)
    (hblk : w.heap[b]? = some (.cells cs T (0, 0))) (u : Value) (seg : List Value) (hx : a.eval x = u) (hu : u.cells.toList = seg) (ht : (P.info? tt).map (·.size) = some seg.length) (h1 : (seg.all fun q => q.oneCell') = true) (hj : seg.length = cs.size)
    (hT : ∀ w', StoreAt N T b w w' → w'.heap[b]? = some (.cells seg.toArray T (0, 0)) → t.p (.pointer (some ⟨b, 0, none⟩)) (.pointer (some ⟨b, 0, none⟩)) w') : o.wp P a w (NextQ N T 2 s s o.dst t a w) Q := by
  have hrun : (Instr.storeAt tt (.pointer (some ⟨b, 0, none⟩)) u).run P w = .ok () (w.setCells b 0 seg) := run_store_run tt u seg hblk hu ht (by simp [hj]) (fun q hq => List.all_eq_true.1 h1 q hq)
  obtain ⟨e1, e2, e3, e4⟩ := setCells_same b seg 0 w
  obtain ⟨cur, h2, h3, h4⟩ := setCells_row (g := b) (e := T) seg 0 w cs hblk (by simp [hj])
  have hnew : (w.setCells b 0 seg).heap[b]? = some (.cells seg.toArray T (0, 0)) := by
    rw [h2]
    congr 2
    apply Array.toList_inj.1
    have h5 : cur.toList = seg ++ List.drop cs.size cs.toList := by simpa [hj] using h4
    rw [List.drop_of_length_le (by simp), List.append_nil] at h5
    simpa using h5
  have hst : StoreAt N T b w (w.setCells b 0 seg) := ⟨e1, e2, e3, e4, hNb, ⟨_, _, hblk, hnew, by simpa using hj⟩, fun k hk => setCells_far seg 0 k hk⟩
  unfold Oper.wp execOp
  simp only [ho, hp, hx, Sem.run_bind, Sem.run_pure, Result.andThen_ok, hrun]
  show NextQ N T 2 s s o.dst t a w (a.put o.dst undef) _
  rw [hN]
  refine ⟨undef, rfl, ?_, .inr (.inr ⟨rfl, b, hs, hst⟩)⟩
  show t.p (a.eval (.tmp s)) (a.eval (.tmp s)) _
  rw [hs]
  exact hT _ hst hnew
theorem size_lt {l : List Oper} {n s : Nat} {a a' : Act} (h : FrameOf2 l n a a') (hs : decide (s < a.tmps.size) = true) : s < a'.tmps.size := by rw [h.size]; exact of_decide_eq_true hs
theorem frame_at2 {l : List Oper} {n : Nat} {a a' : Act} (h : FrameOf2 l n a a') (t : Nat) (v : Value) (hd : (l.all fun o => o.dst != some t) = true) (hv : a.eval (.tmp t) = v) : a'.eval (.tmp t) = v := by
  have := h.same t (fun i o _ ho he => by
    have h1 := List.all_eq_true.1 hd o (List.mem_of_getElem? ho)
    simp [he] at h1)
  rw [← hv]
  simp only [Act.eval]
  rw [Array.getD_eq_getD_getElem?, Array.getD_eq_getD_getElem?, this]
theorem act_of_frame2 {l : List Oper} {a a' : Act} (h : FrameOf2 l l.length a a') (ds : List Nat) (hds : l.filterMap (·.dst) = ds) (hlt : (ds.all fun d => decide (d < a.tmps.size)) = true) :
    a' = { tmps := ds.foldl (fun t d => t.setIfInBounds d (a'.eval (.tmp d))) a.tmps, defers := a.defers } := by
  have key : ∀ (ds : List Nat) (t : Array Value), (ds.foldl (fun t d => t.setIfInBounds d (a'.eval (.tmp d))) t).size = t.size ∧ ∀ i : Nat, (ds.foldl (fun t d => t.setIfInBounds d (a'.eval (.tmp d))) t)[i]? = if i ∈ ds ∧ i < t.size then some (a'.eval (.tmp i)) else t[i]? := by
    intro ds
    induction ds with
    | nil => intro t; simp
    | cons d ds ih =>
      intro t
      obtain ⟨h1, h2⟩ := ih (t.setIfInBounds d (a'.eval (.tmp d)))
      refine ⟨by simpa using h1, fun i => ?_⟩
      rw [List.foldl_cons, h2 i]
      simp only [Array.size_setIfInBounds, List.mem_cons]
      by_cases hi : i ∈ ds ∧ i < t.size
      · rw [if_pos hi, if_pos ⟨.inr hi.1, hi.2⟩]
      · rw [if_neg hi]
        by_cases he : i = d
        · subst he
          by_cases hs : i < t.size
          · rw [if_pos ⟨.inl rfl, hs⟩]; simp [hs]
          · rw [if_neg (fun h => hs h.2)]; simp [hs]
        · rw [Array.getElem?_setIfInBounds_ne (Ne.symm he)]
          rw [if_neg]
          rintro ⟨h3 | h3, h4⟩
          · exact he h3
          · exact hi ⟨h3, h4⟩
  obtain ⟨h1, h2⟩ := key ds a.tmps
  have e : a'.tmps = ds.foldl (fun t d => t.setIfInBounds d (a'.eval (.tmp d))) a.tmps := by
    apply Array.ext_getElem?
    intro i
    rw [h2 i]
    by_cases hi : i ∈ ds
    · have hs : i < a.tmps.size := by simpa using List.all_eq_true.1 hlt i hi
      rw [if_pos ⟨hi, hs⟩]
      have hs' : i < a'.tmps.size := by rw [h.size]; exact hs
      simp [Act.eval, hs']
    · rw [if_neg (fun h => hi h.1)]
      refine h.same i fun j o hj ho he => hi ?_
      rw [← hds, List.mem_filterMap]
      exact ⟨o, List.mem_of_getElem? ho, he⟩
  cases a' with
  | mk tmps defers =>
    have h3 := h.defers
    simp only at e h3
    simp only [Act.mk.injEq]
    exact ⟨e, h3⟩
def Told.pure (p : Value → Prop) : Told := ⟨fun v _ => p v, fun _ _ _ _ h => h⟩
end Go.Proofs.Ytocdpledkmmomaa.P
