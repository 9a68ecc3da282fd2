import Derived.Test.YtocdpledkmmomaaHAGCommon
import Derived.OwnWalkIn
import Derived.RangeFuncBox
namespace Go.Proofs.Ytocdpledkmmomaa.P
open Go.RowKit Go.Shelf Go.Proofs.YtocdpledkmmomaaW.PrintWords Go.Proofs.YtocdpledkmmomaaW.PrintLast Go.Proofs.YtocdpledkmmomaaW.PrintMore
set_option linter.unusedVariables false
set_option linter.unusedSimpArgs false
attribute [local go_sem] Oper.semAt_some
structure AppI (w0 : World) (s base b : Nat) (bs : List (Nat × Nat × List Value)) (xs : List Int) (W : World) : Prop where
  below : Below w0.heap.size w0 W
  size : s ≤ W.heap.size
  box : ∃ v, W.heap[b]? = some (.cells #[v] 23 (0, 0)) ∧ W.ownsRow base 3 1 v xs.length (nums .i64 xs)
  blk : ∀ p ∈ bs, W.heap[p.1]? = some (.cells p.2.2.toArray p.2.1 (0, 0))
theorem ownsRow_kept {W W' : World} {row : Option Nat} {base n : Nat} {v : Value} {xs : List Value} (h : W.ownsRow base 3 1 v n xs) (hg : W.grownBy W' row) (hr : ∀ r, row = some r → r < base ∨ ∀ cur, W.heap[r]? ≠ some (.cells cur 3 (0, 0))) : W'.ownsRow base 3 1 v n xs := by
  refine h.kept hg ?_
  rcases h.2 with ⟨rfl, _⟩ | ⟨g, cap, cur, rfl, hb, hgb, _⟩
  · exact .inl rfl
  · refine .inr fun e' => ?_
    rcases hr g (by simpa [Value.ownBlock] using e'.symm) with h1 | h1
    · omega
    · exact h1 _ hgb
theorem AppI.own {w0 W W' : World} {s base b : Nat} {bs : List (Nat × Nat × List Value)} {xs : List Int} {row : Option Nat} {Ba B : Nat} (h : AppI w0 s base b bs xs W) (hg : W.grownBy W' row) (hr : ∀ r, row = some r → r = Ba ∨ (B ≤ r ∧ ∃ o : Obj, W.heap[r]? = some o ∧ o.isCells = false)) (hB : w0.heap.size ≤ B) (hBa : w0.heap.size ≤ Ba) (hbase : Ba < base) (hb : b ≠ Ba) (hne : ∀ p ∈ bs, p.1 ≠ Ba) : AppI w0 s base b bs xs W' := by
  obtain ⟨v, hv, hrow⟩ := h.box
  have keep : ∀ k t cs, W.heap[k]? = some (.cells cs t (0, 0)) → k ≠ Ba → W'.heap[k]? = some (.cells cs t (0, 0)) := fun k t cs hk hn => by
    refine (hg.block k (Array.getElem?_eq_some_iff.1 hk).1 (fun e => ?_)).trans hk
    rcases hr k e.symm with h2 | ⟨_, o, h2, h3⟩
    · exact hn h2
    · rw [hk] at h2
      cases h2
      cases h3
  refine ⟨h.below.grown hg h.below.size (fun k e => by rcases hr k e with h1 | ⟨h1, _⟩ <;> omega), Nat.le_trans h.size hg.size, ⟨v, keep _ _ _ hv hb, ownsRow_kept hrow hg fun r e => ?_⟩, fun p hp => keep _ _ _ (h.blk p hp) (hne p hp)⟩
  rcases hr r e with h1 | ⟨_, o, h2, h3⟩
  · exact .inl (by omega)
  · refine .inr fun cur h4 => ?_
    rw [h2] at h4
    cases h4
    cases h3
theorem info3s : ∃ i0, Try.prog.info? 3 = some i0 ∧ i0.zero = some (.int .i64 0) ∧ i0.size = 1 ∧ i0.bytes = 8 := by
  obtain ⟨i0, hi, hzz⟩ := Option.map_eq_some_iff.1 (show (Try.prog.info? 3).map (fun i => (i.zero, i.size, i.bytes)) = some (some (.int .i64 0), 1, 8) by kernel_rfl)
  simp only [Prod.mk.injEq] at hzz
  exact ⟨i0, hi, hzz⟩
theorem AppI.push {w0 W w3 : World} {s base b : Nat} {bs : List (Nat × Nat × List Value)} {xs : List Int} {v v' : Value} {x : Int} (hb0 : w0.heap.size ≤ b) (hbase0 : w0.heap.size ≤ base) (h : AppI w0 s base b bs xs W) (hv : W.heap[b]? = some (.cells #[v] 23 (0, 0))) (hrow : W.ownsRow base 3 1 v xs.length (nums .i64 xs))
    (hown : w3.ownsRow base 3 1 v' (xs.length + 1) (nums .i64 xs ++ [.int .i64 x])) (hg : (W.alloc (.cells #[.int .i64 x] 3)).grownBy w3 v.ownBlock) (hbs : ∀ p ∈ bs, p.1 ≠ b ∧ (p.1 < base ∨ p.2.1 ≠ 3)) :
    AppI w0 s base b bs (xs ++ [x]) (w3.setCell ⟨b, 0, none⟩ v') ∧ KeepsOthers W (w3.setCell ⟨b, 0, none⟩ v') ∧ (∀ k, k < base → k ≠ b → k < W.heap.size → (w3.setCell ⟨b, 0, none⟩ v').heap[k]? = W.heap[k]?) := by
  have hg0 : W.grownBy w3 v.ownBlock := World.grownBy.trans (World.grownBy_alloc W _ _) hg
  have hno : ∀ k t cs, W.heap[k]? = some (.cells cs t (0, 0)) → (k < base ∨ t ≠ 3) → v.ownBlock ≠ some k := fun k t cs hk ht e => by
    rcases hrow.2 with ⟨rfl, _⟩ | ⟨g, cap, cur, rfl, hb, hgb, _⟩
    · cases e
    · obtain rfl : g = k := by simpa [Value.ownBlock] using e
      rcases ht with ht | ht
      · omega
      · rw [hk] at hgb
        cases hgb
        exact ht rfl
  have keep : ∀ k t cs, W.heap[k]? = some (.cells cs t (0, 0)) → (k < base ∨ t ≠ 3) → w3.heap[k]? = some (.cells cs t (0, 0)) := fun k t cs hk ht =>
    (hg0.block k (Array.getElem?_eq_some_iff.1 hk).1 (fun e => hno k t cs hk ht e.symm)).trans hk
  have hv3 := keep _ _ _ hv (.inr (by decide))
  have hg4 : w3.grownBy (w3.setCell ⟨b, 0, none⟩ v') (some b) := grownBy_setCell' _ _ _
  have hb3 : Below w0.heap.size w0 w3 := h.below.grown hg0 h.below.size (fun k e => Nat.le_trans hbase0 (hrow.lt k e).1)
  refine ⟨⟨hb3.grown hg4 hb3.size (fun k e => by cases e; exact hb0), Nat.le_trans h.size (Nat.le_trans hg0.size hg4.size), ⟨v', Boxed.set v' hv3, ?_⟩, fun p hp => ?_⟩, ?_, fun k hk hne hlt => ?_⟩
  · have h5 := ownsRow_kept hown hg4 (fun r e => by cases e; exact .inr fun cur h4 => by rw [hv3] at h4; cases h4)
    simpa [nums] using h5
  · exact (hg4.block _ (Array.getElem?_eq_some_iff.1 (keep _ _ _ (h.blk p hp) (hbs p hp).2)).1 (fun e => (hbs p hp).1 (by cases e; rfl))).trans (keep _ _ _ (h.blk p hp) (hbs p hp).2)
  · refine KeepsOthers.trans ⟨hg0.size, fun k o hk ho => ?_⟩ (KeepsOthers.setCell _ _ _)
    refine (hg0.block k (Array.getElem?_eq_some_iff.1 hk).1 (fun e => ?_)).trans hk
    rcases hrow.2 with ⟨rfl, _⟩ | ⟨g, cap, cur, rfl, hb, hgb, _⟩
    · cases e
    · obtain rfl : k = g := by simpa [Value.ownBlock] using e
      rw [hk] at hgb
      cases hgb
      cases ho
  · refine (hg4.block k (Nat.lt_of_lt_of_le hlt hg0.size) (fun e => hne (by cases e; rfl))).trans (hg0.block k hlt (fun e => ?_))
    have := (hrow.lt k e.symm).1
    omega
theorem map_snoc {l0 : List S110} (pre : List (InW l0)) (x : InW l0) : (pre ++ [x]).map (·.1) = pre.map (·.1) ++ [x.1] := by simp
set_option maxHeartbeats 4000000 in
set_option maxRecDepth 100000 in
theorem append_ups (w0 w : World) (Bw Ba : Nat) (hne : Bw ≠ Ba) (hBw0 : w0.heap.size ≤ Bw) (hBa : w0.heap.size ≤ Ba) (A0 : Option Addr) (c0 : Nat) (l0 : List S110) (A1 : Option Addr) (c1 : Nat) (l1 : List S86) (A2 : Option Addr) (c2 : Nat) (l2 : List S185) (A3 : Option Addr) (c3 : Nat) (l3 : List S124) (hW : WorldC w0 A0 c0 l0 A1 c1 l1 A2 c2 l2 A3 c3 l3) (hlen : l0.length < 17592186044000) (a : Int)
    (hB : Below w0.heap.size w0 w) (h1 : w.heap[Bw]? = some (.cells #[.slice A0 l0.length c0, .slice A1 l1.length c1, .slice A2 l2.length c2, .slice A3 l3.length c3] 54 (0, 0))) (h2 : w.heap[Ba]? = some (.cells #[.int .i64 a] 3 (0, 0))) :
    CallsIn Fence.wide 3 Try.prog 75 #[.slice none 0 0, .func (.func 76) #[] #[.pointer (some ⟨Bw, 0, none⟩), .pointer (some ⟨Ba, 0, none⟩)]] w fun e w' => ∃ v, e = .returned v ∧ w'.ownsRow w.heap.size 3 1 v ((upsL l0 (l0.length + 1) a).map (·.1)).length (nums .i64 ((upsL l0 (l0.length + 1) a).map (·.1))) ∧ Below w0.heap.size w0 w' := by
  have h13 : 1 ≤ 3 := by omega
  have hu23 := Try.underlying23
  obtain ⟨i0, hi, hz0, hz1, hz2⟩ := info3s
  have hi' := Aside0.mk hi
  clear hi
  have hBwl : Bw < w.heap.size := (Array.getElem?_eq_some_iff.1 h1).1
  have hBal : Ba < w.heap.size := (Array.getElem?_eq_some_iff.1 h2).1
  have hsz := hB.size
  have HB := Aside0.mk hB
  have HH1 := Aside0.mk h1
  have HH2 := Aside0.mk h2
  clear hB h1 h2
  refine callsIn_of_wp_marks Try.func75 rfl trivial ?_ rfl
  simp only [Try.ntmps75, List.size_toArray, List.length_cons, List.length_nil, Nat.reduceAdd, Nat.reduceSub, Array.replicate_succ, Array.replicate_zero, List.push_toArray, List.append_toArray, List.nil_append, List.cons_append]
  gi_wp2
  refine wpIn_rangeFunc_ownC rfl h13 (gf := 76) (lb := #[.pointer (some ⟨Bw, 0, none⟩), .pointer (some ⟨Ba, 0, none⟩)]) rfl trivial (enters_of Try.func76 (by kernel_rfl) rfl)
    (ups1_seq 2 (by omega) w0 Bw Ba hne hBa A0 c0 l0 A1 c1 l1 A2 c2 l2 A3 c3 l3 hW (by omega) a)
    (by simp; omega) (fun o o' => ⟨((HB.out.alloc hsz _).alloc (by simp; omega) _).alloc (by simp; omega) _, ?pre1, ?pre2⟩) kpU_t (fun W l o o' hl h _ _ => kpU_b (N := w.heap.size + 1) (by omega) (by omega) (by omega) W l o o' (by simpa using hl) h) (fun _ => rfl)
    (fun pre W => AppI w0 (w.heap.size + 1) w.heap.size w.heap.size [] (pre.map (·.1)) W)
    (fun c pre W => False)
    (fun s A B row hs hg hr => AppI.own (show AppI w0 (w.heap.size + 1) w.heap.size w.heap.size [] (s.map (·.1)) A from hs) hg hr (by simp; omega) hBa hBal (by omega) (fun p hp => by cases hp))
    (fun c s A B row hs hg hr => hs)
    ?start
    (fun x => { tmps := #[.slice none 0 0, .func (.func 76) #[] #[.pointer (some ⟨Bw, 0, none⟩), .pointer (some ⟨Ba, 0, none⟩)], .pointer (some ⟨w.heap.size, 0, none⟩), undef, .slice none 0 0, .int .i64 x.1, .func (.func 76) #[] #[.pointer (some ⟨Bw, 0, none⟩), .pointer (some ⟨Ba, 0, none⟩)], .int .i64 x.1, undef, undef, undef, undef, undef], defers := [] }) ?assign ?body ?done ?stop
  case pre1 => exact ((below_alloc (below_alloc (below_alloc (Below.refl w.heap.size w) (.cells #[.slice none 0 0] 23)) o) o').block _ hBwl).trans HH1.out
  case pre2 => exact ((below_alloc (below_alloc (below_alloc (Below.refl w.heap.size w) (.cells #[.slice none 0 0] 23)) o) o').block _ hBal).trans HH2.out
  case start =>
    exact ⟨HB.out.alloc hsz _, by simp, ⟨.slice none 0 0, blk_new w _, rfl, .inl ⟨rfl, rfl⟩⟩, fun p hp => by cases hp⟩
  case assign =>
    intro l x W K hK
    gi_wp2
    exact hK
  case body =>
    rintro l pre x W hI hlt
    have HI := Aside0.mk hI
    obtain ⟨v, hv, hrow⟩ := hI.box
    have hIs := hI.size
    have f2 : W.cell? ⟨w.heap.size, 0, none⟩ = some v := Boxed.cell hv
    have f3 : W.frozen? ⟨w.heap.size, 0, none⟩ = false := Boxed.frozen hv
    have HV := Aside0.mk hv
    have HR := Aside0.mk hrow
    have hpl : (pre.map (·.1)).length < l0.length + 1 := by simpa using hlt
    clear hI hv hrow
    gi_wp2_with (first
      | (gi_at_builtin; refine wpListIn_append_own _ rfl _ _ 23 rfl w.heap.size 3 i0 (.int .i64 0) 1 8 Try.underlying23 hi'.out hz0 hz1 hz2 rfl (by decide) _ _ _ rfl (HR.out.alloc _) ⟨W.heap.size, 0, none⟩ 1 1 [.int .i64 x.1] rfl rfl (cell_one_new _ _ _) (by simp [Value.oneCell']) (by simp only [maxLen]; omega) (by omega) (by simp; omega) ?_; intro v' w3 hown' hg3 hnil3
         obtain ⟨g', cap', rfl⟩ := ownsRow_succ hown'
         have f3' : w3.frozen? ⟨w.heap.size, 0, none⟩ = false := Boxed.frozen (Boxed.kept (Boxed.alloc HV.out _) hg3 (Boxed.not_row HV.out (by decide) HR.out))
         have f2' : w3.cell? ⟨w.heap.size, 0, none⟩ = some v := Boxed.cell (Boxed.kept (Boxed.alloc HV.out _) hg3 (Boxed.not_row HV.out (by decide) HR.out)))
      | fail)
    have hA := Boxed.appended (tmp := .cells #[.int .i64 x.1] 3) HV.out (by decide) HR.out (by omega) (Nat.le_refl _) hown' hg3
    have hP := (AppI.push hsz hsz HI.out HV.out HR.out hown' hg3 (fun p hp => by cases hp)).1
    rw [← map_snoc] at hP
    have hK_ := And.intro hA.2.2.2.1 (And.intro (And.intro (hA.2.2.2.2.mono hsz) (And.intro (hA.2.2.2.2.block _ hBwl) (hA.2.2.2.2.block _ hBal))) hP)
    simp only [List.length_map] at hK_
    exact hK_
  case done =>
    rintro D ys W hD rfl hI hK
    have HI := Aside0.mk hI
    obtain ⟨v, hv, hrow⟩ := hI.box
    have f2 : W.cell? ⟨w.heap.size, 0, none⟩ = some v := Boxed.cell hv
    have HR := Aside0.mk hrow
    clear hI hv hrow
    gi_wp2
    have hD2 : w0.heap.size ≤ D := by simp at hD; omega
    refine ⟨by simp, .inl ⟨_, _, rfl, run_takeDeferred hK, ?_⟩⟩
    refine ⟨v, ?_, ⟨v, rfl, ownsRow_putObj HR.out _ hK rfl, HI.out.below.trans (belowK_b (w := w0) (Nat.le_refl _) W D _ _ hD2 hK rfl rfl)⟩⟩
    simp [results, Try.f75, go_sem]
  case stop =>
    rintro D c pre W hD hp hf hK
    exact hf.elim
theorem R_own {base : Nat} {w : World} {v : Value} {xs : List Int} (h : w.ownsRow base 3 1 v xs.length (nums .i64 xs)) : Kd.R (Kd.int .i64) 3 w base (fun _ => True) v xs := by
  refine ⟨fun _ _ => trivial, nums .i64 xs, h, ?_, fun j p hp => ?_⟩
  · show (nums .i64 xs).length = xs.length * 1
    simp [nums]
  · show List.take 1 (List.drop (j * 1) (nums .i64 xs)) = [.int .i64 p]
    obtain ⟨hj, rfl⟩ := List.getElem?_eq_some_iff.1 hp
    rw [Nat.mul_one, List.drop_eq_getElem_cons (by simpa [nums] using hj)]
    simp [nums]
theorem own_weak {base b2 : Nat} {w : World} {v : Value} {n : Nat} {xs : List Value} (h : w.ownsRow base 3 1 v n xs) (hb : b2 ≤ base) : w.ownsRow b2 3 1 v n xs := by
  refine ⟨h.1, ?_⟩
  rcases h.2 with h1 | ⟨g, cap, cur, hv, hg, hr⟩
  · exact .inl h1
  · exact .inr ⟨g, cap, cur, hv, Nat.le_trans hb hg, hr⟩
set_option maxHeartbeats 1000000 in
set_option maxRecDepth 100000 in
theorem collect_ups (w0 w : World) (Bw Ba : Nat) (hne : Bw ≠ Ba) (hBw0 : w0.heap.size ≤ Bw) (hBa : w0.heap.size ≤ Ba) (A0 : Option Addr) (c0 : Nat) (l0 : List S110) (A1 : Option Addr) (c1 : Nat) (l1 : List S86) (A2 : Option Addr) (c2 : Nat) (l2 : List S185) (A3 : Option Addr) (c3 : Nat) (l3 : List S124) (hW : WorldC w0 A0 c0 l0 A1 c1 l1 A2 c2 l2 A3 c3 l3) (hlen : l0.length < 17592186044000) (a : Int)
    (hB : Below w0.heap.size w0 w) (h1 : w.heap[Bw]? = some (.cells #[.slice A0 l0.length c0, .slice A1 l1.length c1, .slice A2 l2.length c2, .slice A3 l3.length c3] 54 (0, 0))) (h2 : w.heap[Ba]? = some (.cells #[.int .i64 a] 3 (0, 0))) :
    Calls Try.prog 56 #[.func (.func 76) #[] #[.pointer (some ⟨Bw, 0, none⟩), .pointer (some ⟨Ba, 0, none⟩)]] w fun e w' => ∃ v, e = .returned v ∧ w'.ownsRow w.heap.size 3 1 v ((upsL l0 (l0.length + 1) a).map (·.1)).length (nums .i64 ((upsL l0 (l0.length + 1) a).map (·.1))) ∧ Below w0.heap.size w0 w' := by
  have HC := Aside0.mk (callsIn_wide.1 (append_ups w0 w Bw Ba hne hBw0 hBa A0 c0 l0 A1 c1 l1 A2 c2 l2 A3 c3 l3 hW hlen a hB h1 h2))
  clear hB h1 h2 hW
  go_enter Try.func56, Try.ntmps56
  go_wp2_with fail
  refine HC.out.mono ?_
  rintro e w1 ⟨v, rfl, hrow, hb⟩
  go_wp2
  go_ret
  exact ⟨v, rfl, hrow, hb⟩
def hier_Up.f (l0_0 : List (S110)) (l0_1 : List (S86)) (l0_2 : List (S185)) (l0_3 : List (S124)) (a1 : Int) : Option (List Int) := if l0_0.length < 17592186044000 then some ((upsL l0_0 (l0_0.length + 1) a1).map (·.1)) else none
set_option maxHeartbeats 1000000 in
set_option maxRecDepth 100000 in
theorem hier_Up.calls (A0_0 : Option Addr) (c0_0 : Nat) (l0_0 : List (S110)) (A0_1 : Option Addr) (c0_1 : Nat) (l0_1 : List (S86)) (A0_2 : Option Addr) (c0_2 : Nat) (l0_2 : List (S185)) (A0_3 : Option Addr) (c0_3 : Nat) (l0_3 : List (S124)) (a1 : Int) (r : List Int) (w : World) (hr0_0 : Kd.C k110 w A0_0 l0_0.length l0_0) (hc0_0 : l0_0.length ≤ c0_0) (hr0_1 : Kd.C k86 w A0_1 l0_1.length l0_1) (hc0_1 : l0_1.length ≤ c0_1) (hr0_2 : Kd.C k185 w A0_2 l0_2.length l0_2) (hc0_2 : l0_2.length ≤ c0_2) (hr0_3 : Kd.C k124 w A0_3 l0_3.length l0_3) (hc0_3 : l0_3.length ≤ c0_3) (h : hier_Up.f l0_0 l0_1 l0_2 l0_3 a1 = some r) :
    Calls Try.prog 28 #[.agg #[.slice A0_0 l0_0.length c0_0, .slice A0_1 l0_1.length c0_1, .slice A0_2 l0_2.length c0_2, .slice A0_3 l0_3.length c0_3], .int .i64 a1] w fun e w' => ∃ v0_ : Value, e = .returned (v0_) ∧ Kd.R (Kd.int .i64) 3 w' w.heap.size (fun _ => True) v0_ r ∧ Below w.heap.size w w' := by
  unfold hier_Up.f at h
  split at h
  case isFalse => cases h
  case isTrue hlen =>
  obtain rfl := Option.some.inj h
  have HW : Aside0 (WorldC w A0_0 c0_0 l0_0 A0_1 c0_1 l0_1 A0_2 c0_2 l0_2 A0_3 c0_3 l0_3) := ⟨hr0_0, hc0_0, hr0_1, hc0_1, hr0_2, hc0_2, hr0_3, hc0_3⟩
  clear hr0_0 hc0_0 hr0_1 hc0_1 hr0_2 hc0_2 hr0_3 hc0_3 h
  have hu54 := Try.underlying54
  go_enter Try.func28, Try.ntmps28
  obtain ⟨w1, hw1⟩ : ∃ w1, w1 = w.alloc (.cells #[.slice A0_0 l0_0.length c0_0, .slice A0_1 l0_1.length c0_1, .slice A0_2 l0_2.length c0_2, .slice A0_3 l0_3.length c0_3] 54) := ⟨_, rfl⟩
  have hB1 := Aside0.mk (show Below w.heap.size w w1 by rw [hw1]; exact below_alloc (Below.refl _ _) _)
  have hs1 : w.heap.size ≤ w1.heap.size := hB1.out.size
  go_wp2_with fail
  rw [← hw1]
  clear hw1
  refine (ups_calls A0_0 l0_0.length c0_0 A0_1 l0_1.length c0_1 A0_2 l0_2.length c0_2 A0_3 l0_3.length c0_3 a1 w1).mono ?_
  rintro e w2 ⟨rfl, rfl⟩
  go_wp2_with fail
  refine (collect_ups w ((w1.alloc (.cells #[.slice A0_0 l0_0.length c0_0, .slice A0_1 l0_1.length c0_1, .slice A0_2 l0_2.length c0_2, .slice A0_3 l0_3.length c0_3] 54)).alloc (.cells #[.int .i64 a1] 3)) w1.heap.size (w1.heap.size + 1) (by omega) hs1 (by omega) A0_0 c0_0 l0_0 A0_1 c0_1 l0_1 A0_2 c0_2 l0_2 A0_3 c0_3 l0_3 HW.out hlen a1 ((hB1.out.alloc hs1 _).alloc (by simp; omega) _) ?_ ?_).mono ?_
  · exact (Below.heap_alloc (w1.alloc _) _ _ (by simp)).trans (blk_new w1 _)
  · simpa using blk_new (w1.alloc (.cells #[.slice A0_0 l0_0.length c0_0, .slice A0_1 l0_1.length c0_1, .slice A0_2 l0_2.length c0_2, .slice A0_3 l0_3.length c0_3] 54)) (.cells #[.int .i64 a1] 3)
  rintro e w3 ⟨v, rfl, hrow, hb⟩
  have HR := Aside0.mk hrow
  clear hrow
  go_wp2
  go_ret
  exact ⟨v, rfl, R_own (own_weak HR.out (by simp; omega)), hb⟩
end Go.Proofs.Ytocdpledkmmomaa.P
