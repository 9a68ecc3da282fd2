import Derived.StillTail
namespace Go
section
variable {P : Program} {ops : Array Oper} {Q : Exit → Act → World → Prop} {md : Region.Mode}

def dstOf (l : List Oper) (i : Nat) : Nat := ((l[i]?).bind (·.dst)).getD 0

def headB (l : List Oper) (n sz : Nat) : Bool :=
  (List.range n).all fun i => (match l[i]? with
    | some o => o.guard.isNone && (match o.dst with
      | some d => decide (d < sz)
      | none => false) && o.after.all (fun e => !Region.binds .any e || decide (e.on < i))
    | none => false) && (List.range n).all fun j => i == j || dstOf l i != dstOf l j

def fullTo (m n : Nat) : Array Bool := ((List.range m).map fun j => decide (j < n)).toArray

def factsB (l : List Oper) (n sz : Nat) : Bool :=
  decide (n < l.length) && Region.sinkB .any l.toArray n && Region.chainB .any l.toArray n && Region.seqB .any l.toArray (l.length - n) n (fullTo l.length n) && headB l n sz

theorem headB_spec {l : List Oper} {n sz : Nat} (h : headB l n sz = true) {i : Nat} (hi : i < n) : ∃ o, l[i]? = some o ∧ o.guard = none ∧ o.dst = some (dstOf l i) ∧ dstOf l i < sz ∧ (∀ j, j < n → j ≠ i → dstOf l j ≠ dstOf l i) ∧ ∀ e ∈ o.after, Region.binds .any e = true → e.on < i := by
  have h1 := List.all_eq_true.1 h i (List.mem_range.2 hi)
  simp only [Bool.and_eq_true] at h1
  obtain ⟨h1, h2⟩ := h1
  cases ho : l[i]? with
  | none => rw [ho] at h1; simp at h1
  | some o =>
    rw [ho] at h1
    simp only [Bool.and_eq_true, Option.isNone_iff_eq_none] at h1
    obtain ⟨⟨hg, h1⟩, hord⟩ := h1
    cases hd : o.dst with
    | none => rw [hd] at h1; simp at h1
    | some d =>
      rw [hd] at h1
      have e : dstOf l i = d := by simp [dstOf, ho, hd]
      refine ⟨o, rfl, hg, by rw [e]; exact hd, by rw [e]; simpa using h1, fun j hj hji he => ?_, fun e he hb => ?_⟩
      rotate_left
      · have h4 := Array.all_eq_true'.1 hord e he
        simpa [hb] using h4
      have h3 := List.all_eq_true.1 h2 j (List.mem_range.2 hj)
      simp only [Bool.or_eq_true, beq_iff_eq, bne_iff_ne] at h3
      rcases h3 with h3 | h3
      · exact hji h3.symm
      · exact h3 he.symm

theorem eval_put_same {a : Act} {d : Nat} {v : Value} (h : d < a.tmps.size) : (a.put (some d) v).eval (.tmp d) = v := by
  simp [Act.put, Act.eval, h]
theorem eval_put_other {a : Act} {d t : Nat} {v : Value} (h : d ≠ t) : (a.put (some d) v).eval (.tmp t) = a.eval (.tmp t) := by
  simp [Act.put, Act.eval, Array.getElem?_setIfInBounds_ne h]

structure FrameOf (l : List Oper) (n : Nat) (a a' : Act) : Prop where
  size : a'.tmps.size = a.tmps.size
  defers : a'.defers = a.defers
  same : ∀ t, (∀ i, i < n → dstOf l i ≠ t) → a'.tmps[t]? = a.tmps[t]?

theorem FrameOf.put {l : List Oper} {n : Nat} {a a' : Act} (h : FrameOf l n a a') {i : Nat} (hi : i < n) (v : Value) : FrameOf l n a (a'.put (some (dstOf l i)) v) :=
  ⟨by simpa [Act.put] using h.size, by simpa [Act.put] using h.defers, fun t ht => by
    have := h.same t ht
    simp only [Act.put]
    rw [Array.getElem?_setIfInBounds_ne (ht i hi)]
    exact this⟩

def NextOf (l : List Oper) (n : Nat) (F : Nat → Value → World → Prop) (B : World → Prop) (i : Nat) (a : Act) (w : World) (a' : Act) (w' : World) : Prop :=
  ∃ v, a' = a.put (some (dstOf l i)) v ∧ F i v w' ∧ B w' ∧ ∀ j u, j < n → F j u w → F j u w'

theorem wpAny_facts {l : List Oper} {n : Nat} {a : Act} {F : Nat → Value → World → Prop} {B : World → Prop} (hB : factsB l n a.tmps.size = true)
    (hstep : ∀ i o, i < n → l[i]? = some o → ∀ a' w', FrameOf l n a a' → B w' → (∀ e ∈ o.after, Region.binds .any e = true → F e.on (a'.eval (.tmp (dstOf l e.on))) w') → o.wp P a' w' (NextOf l n F B i a' w') Q)
    (hend : ∀ a' w', FrameOf l n a a' → B w' → (∀ i, i < n → F i (a'.eval (.tmp (dstOf l i))) w') → wpList P l.toArray Q (l.drop n) a' w') :
    ∀ (f : Nat) (listed : Array Bool) (a' : Act) (w' : World), HeadInv .any l.toArray n listed → FrameOf l n a a' → B w' → (listed.toList.countP (fun b => !b)) = f + (l.length - n) →
      (∀ i, i < n → listed.getD i false = true → F i (a'.eval (.tmp (dstOf l i))) w') → wpAny P .any l.toArray Q (f + (l.length - n)) listed a' w' := by
  simp only [factsB, Bool.and_eq_true, decide_eq_true_eq] at hB
  obtain ⟨⟨⟨⟨hn, hs⟩, hc⟩, hq⟩, hh⟩ := hB
  intro f
  induction f with
  | zero =>
    intro listed a' w' inv hfr hb hcnt hF
    have hall : ∀ i, i < n → listed.getD i false = true := by
      intro i hi
      cases hl : listed.getD i false with
      | true => rfl
      | false =>
        exfalso
        have hsz : listed.size = l.length := by simpa using inv.size
        have h1 : l.length - n < listed.toList.countP (fun b => !b) := by
          have hsp : listed.toList = listed.toList.take n ++ listed.toList.drop n := (List.take_append_drop n _).symm
          rw [hsp, List.countP_append]
          have h2 : (listed.toList.drop n).countP (fun b => !b) = l.length - n := by
            rw [List.countP_eq_length.2, List.length_drop, Array.length_toList, hsz]
            intro b hb2
            obtain ⟨k, hk, rfl⟩ := List.mem_iff_getElem.1 hb2
            rw [List.length_drop, Array.length_toList, hsz] at hk
            have := getD_both (inv.tail (n + k) (by omega) (by simp; omega))
            rw [List.getElem_drop]
            simp [show n + k < listed.size by omega] at this
            simp [this]
          have h3 : 0 < (listed.toList.take n).countP (fun b => !b) := by
            refine List.countP_pos_iff.2 ⟨false, ?_, rfl⟩
            have : i < listed.size := by omega
            simp [this] at hl
            rw [List.mem_iff_getElem]
            exact ⟨i, by simp; omega, by simp [hl]⟩
          omega
        omega
    have hlist : listed = fullTo l.length n := by
      have hsz : listed.size = l.length := by simpa using inv.size
      apply Array.ext
      · simp [fullTo, hsz]
      · intro i h1 h2
        simp only [fullTo, List.getElem_toArray, List.getElem_map, List.getElem_range]
        rcases Nat.lt_or_ge i n with hi | hi
        · have := hall i hi
          simp [h1] at this
          simp [this, hi]
        · have := getD_both (inv.tail i hi (by simp; omega))
          simp [h1] at this
          simp [this]; omega
    have h4 := wpAny_of_seq (md := .any) (P := P) (ops := l.toArray) (Q' := Q) (l.drop n) n listed a' w' (fun j => by simp [List.getElem?_drop]) (by rw [List.length_drop, hlist]; exact hq) (hend a' w' hfr hb (fun i hi => hF i hi (hall i hi)))
    rw [List.length_drop] at h4
    rw [Nat.zero_add]
    exact h4
  | succ f ih =>
    intro listed a' w' inv hfr hb hcnt hF
    have hsz : listed.size = l.length := by simpa using inv.size
    -- some operation of the head has not come up
    have hun : ∃ i, i < n ∧ listed.getD i true = false := by
      refine Classical.byContradiction fun hno => ?_
      have hall : ∀ i, i < n → listed.getD i true = true := fun i hi => by
        cases h5 : listed.getD i true with
        | true => rfl
        | false => exact absurd ⟨i, hi, h5⟩ hno
      have h1 : listed.toList.countP (fun b => !b) ≤ l.length - n := by
        have hsp : listed.toList = listed.toList.take n ++ listed.toList.drop n := (List.take_append_drop n _).symm
        rw [hsp, List.countP_append]
        have h3 : (listed.toList.take n).countP (fun b => !b) = 0 := by
          refine List.countP_eq_zero.2 fun b hb2 => ?_
          obtain ⟨k, hk, rfl⟩ := List.mem_iff_getElem.1 hb2
          rw [List.length_take, Array.length_toList] at hk
          have hk1 : k < n := by omega
          have hk2 : k < listed.size := by omega
          have := hall k hk1
          simp [hk2] at this
          simp [this]
        have h2 := List.countP_le_length (p := fun b => !b) (l := listed.toList.drop n)
        rw [List.length_drop, Array.length_toList, hsz] at h2
        omega
      omega
    obtain ⟨i0, hi0, hu0⟩ := hun
    have hlt : ∀ t ∈ Region.ready .any l.toArray listed, t < n := fun t ht => by
      rcases Nat.lt_or_ge t n with h | h
      · exact h
      · exact absurd ht (tail_waits hs hc (by simpa using hn) inv _ i0 rfl hi0 hu0 t h)
    rw [show f + 1 + (l.length - n) = (f + (l.length - n)) + 1 by omega]
    -- the first that has not come up may come up
    have hne : Region.ready .any l.toArray listed ≠ [] := by
      have key : ∀ (k i : Nat), i ≤ k → i < n → listed.getD i true = false → Region.ready .any l.toArray listed ≠ [] := by
        intro k
        induction k with
        | zero =>
          intro i hik hin hu h0
          obtain ⟨o, ho, _, _, _, _, hord⟩ := headB_spec hh hin
          have : i ∈ Region.ready .any l.toArray listed := mem_ready.2 ⟨hu, o, by simpa using ho, fun e he hb => by have := hord e he hb; omega⟩
          rw [h0] at this; cases this
        | succ k ihk =>
          intro i hik hin hu h0
          obtain ⟨o, ho, _, _, _, _, hord⟩ := headB_spec hh hin
          by_cases hd : ∀ e ∈ o.after, Region.binds .any e = true → listed.getD e.on false = true
          · have : i ∈ Region.ready .any l.toArray listed := mem_ready.2 ⟨hu, o, by simpa using ho, hd⟩
            rw [h0] at this; cases this
          · obtain ⟨e, he⟩ := Classical.not_forall.1 hd
            obtain ⟨he1, he⟩ := Classical.not_forall.1 he
            obtain ⟨he2, he⟩ := Classical.not_forall.1 he
            have hlt2 := hord e he1 he2
            refine ihk e.on (by omega) (by omega) (getD_in (by omega) (by simpa using he)) h0
      exact key n i0 (by omega) hi0 hu0
    refine ⟨fun h0 => absurd h0 hne, fun i hi => ?_⟩
    have hin := hlt i hi
    obtain ⟨hju, o, ho, hall⟩ := mem_ready.1 hi
    have ho' : l[i]? = some o := by simpa using ho
    obtain ⟨o2, ho2, hg, hd, hdlt, hdist, hord⟩ := headB_spec hh hin
    obtain rfl : o2 = o := Option.some.inj (ho2.symm.trans ho')
    have hw := hstep i o2 hin ho' a' w' hfr hb (fun e he hbnd => hF e.on (by have := hord e he hbnd; omega) (hall e he hbnd))
    unfold wpOp
    simp only [ho]
    rw [if_pos (by simp [Region.wanted, hg])]
    refine .inl (Oper.wp_mono ?_ hw)
    rintro a2 w2 ⟨v, rfl, hFi, hb2, hkeep⟩
    have hilt : i < listed.size := by omega
    refine ih (listed.setIfInBounds i true) _ w2 (inv.set hi hin) (hfr.put hin v) hb2 ?_ ?_
    · have h6 : listed.toList[i]'(by simpa using hilt) = false := by simp [hilt] at hju; simpa using hju
      rw [Array.toList_setIfInBounds, List.countP_set (by simpa using hilt)]
      rw [h6]
      simp only [Bool.not_false, if_true, Bool.not_true, Bool.false_eq_true, if_false]
      omega
    · intro j hj hlj
      by_cases hji : j = i
      · subst hji
        rw [eval_put_same (by rw [hfr.size]; exact hdlt)]
        exact hFi
      · rw [eval_put_other (fun e => hdist j hj hji e.symm)]
        refine hkeep j _ hj (hF j hj ?_)
        rwa [getD_set_ne false (Ne.symm hji)] at hlj

theorem wp_region_facts {id : Nat} {l : List Oper} (n : Nat) {a : Act} {w : World} (F : Nat → Value → World → Prop) (B : World → Prop) (hm : P.follows .mixedOrders = true) (hB : factsB l n a.tmps.size = true)
    (h0 : B { w with drawn := w.drawn + 1 })
    (hstep : ∀ i o, i < n → l[i]? = some o → ∀ a' w', FrameOf l n a a' → B w' → (∀ e ∈ o.after, Region.binds .any e = true → F e.on (a'.eval (.tmp (dstOf l e.on))) w') → o.wp P a' w' (NextOf l n F B i a' w') Q)
    (hend : ∀ a' w', FrameOf l n a a' → B w' → (∀ i, i < n → F i (a'.eval (.tmp (dstOf l i))) w') → wpList P l.toArray Q (l.drop n) a' w') :
    (Code.region id l.toArray true).wp P Q a w := by
  have hn : n < l.length := by simp only [factsB, Bool.and_eq_true, decide_eq_true_eq] at hB; exact hB.1.1.1.1
  refine wp_region_any hm ?_
  have inv0 : HeadInv .any l.toArray n (Array.replicate l.toArray.size false) :=
    ⟨by simp, fun j oj _ hl => (by rw [getD_replicate_false] at hl; cases hl), fun t _ ht => getD_in (by simpa using ht) (getD_replicate_false _ _)⟩
  have h1 := wpAny_facts (P := P) (Q := Q) hB hstep hend n (Array.replicate l.toArray.size false) a { w with drawn := w.drawn + 1 } inv0 ⟨rfl, rfl, fun _ _ => rfl⟩ h0
    (by simp [List.countP_replicate]; omega) (fun i _ hl => by rw [getD_replicate_false] at hl; cases hl)
  rw [show n + (l.length - n) = l.toArray.size by simp; omega] at h1
  exact h1
end
end Go
