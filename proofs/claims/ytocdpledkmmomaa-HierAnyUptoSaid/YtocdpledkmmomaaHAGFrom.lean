import Derived.Test.YtocdpledkmmomaaHAGIdx
namespace Go.Proofs.Ytocdpledkmmomaa.P
open Go.RowKit Go.Shelf Go.Proofs.YtocdpledkmmomaaW.PrintWords Go.Proofs.YtocdpledkmmomaaW.PrintLast Go.Proofs.YtocdpledkmmomaaW.PrintMore
set_option linter.unusedVariables false
set_option linter.unusedSimpArgs false
set_option maxHeartbeats 1000000 in
set_option maxRecDepth 100000 in
theorem ups_calls (A0 : Option Addr) (n0 c0 : Nat) (A1 : Option Addr) (n1 c1 : Nat) (A2 : Option Addr) (n2 c2 : Nat) (A3 : Option Addr) (n3 c3 : Nat) (a : Int) (w : World) :
    Calls Try.prog 57 #[.agg #[.slice A0 n0 c0, .slice A1 n1 c1, .slice A2 n2 c2, .slice A3 n3 c3], .int .i64 a] w fun e w' => e = .returned (.func (.func 76) #[] #[.pointer (some ⟨w.heap.size, 0, none⟩), .pointer (some ⟨w.heap.size + 1, 0, none⟩)]) ∧ w' = (w.alloc (.cells #[.slice A0 n0 c0, .slice A1 n1 c1, .slice A2 n2 c2, .slice A3 n3 c3] 54)).alloc (.cells #[.int .i64 a] 3) := by
  have hu54 := Try.underlying54
  go_enter Try.func57, Try.ntmps57
  go_wp2
  go_ret
  exact ⟨rfl, rfl⟩
def isOf (l0 : List S110) (b c : Int) : Bool := c == b || hasIf b (rd_T110 l0 c).f3
def fromB (l0 : List S110) (a b : Int) : Bool := decide (0 ≤ b ∧ b < (l0.length : Int)) && (upsL l0 (l0.length + 1) a).any fun c => isOf l0 b c.1
attribute [local go_sem] Oper.semAt_some
theorem kpU_t {n0 Bw Ba : Nat} {A B C : World} (h : KpU n0 Bw Ba A B) (k : KpU n0 Bw Ba B C) : KpU n0 Bw Ba A C := ⟨h.1.trans k.1, k.2.1.trans h.2.1, k.2.2.trans h.2.2⟩
theorem kpU_b {n0 Bw Ba N : Nat} (h0 : n0 ≤ N) (h1 : Bw < N) (h2 : Ba < N) (W : World) (l : Nat) (o o' : Obj) (hl : N ≤ l) (h : W.heap[l]? = some o) : KpU n0 Bw Ba W (W.putObj l o') :=
  ⟨(Below.refl n0 W).grown (grownBy_putObj' W l o') (by have := (Array.getElem?_eq_some_iff.1 h).1; omega) (fun k e => by cases e; omega), World.putObj_heap_other (by omega), World.putObj_heap_other (by omega)⟩
structure LoopI (w : World) (s : Nat) (bs : List (Nat × Nat × List Value)) (W : World) : Prop where
  below : Below w.heap.size w W
  size : s ≤ W.heap.size
  blk : ∀ p ∈ bs, W.heap[p.1]? = some (.cells p.2.2.toArray p.2.1 (0, 0))
theorem loopI_own {w W W' : World} {s : Nat} {bs : List (Nat × Nat × List Value)} {row : Option Nat} {Ba B : Nat} (h : LoopI w s bs W) (hg : W.grownBy W' row) (hr : ∀ r, row = some r → r = Ba ∨ (B ≤ r ∧ ∃ o : Obj, W.heap[r]? = some o ∧ o.isCells = false)) (hB : w.heap.size ≤ B) (hBa : w.heap.size ≤ Ba) (hne : ∀ p ∈ bs, p.1 ≠ Ba) : LoopI w s bs W' := by
  refine ⟨h.below.grown hg h.below.size (fun k e => by rcases hr k e with h1 | ⟨h1, _⟩ <;> omega), Nat.le_trans h.size hg.size, fun p hp => ?_⟩
  have h1 := h.blk p hp
  refine (hg.block p.1 (Array.getElem?_eq_some_iff.1 h1).1 (fun e => ?_)).trans h1
  rcases hr p.1 e.symm with h2 | ⟨_, o, h2, h3⟩
  · exact hne p hp h2
  · rw [h1] at h2
    cases h2
    cases h3
theorem keepsOthers_below {W W' : World} (h : Below W.heap.size W W') : KeepsOthers W W' := ⟨h.size, fun k o hk _ => (h.block k (Array.getElem?_eq_some_iff.1 hk).1).trans hk⟩
theorem LoopI.step {w W W' : World} {s : Nat} {bs : List (Nat × Nat × List Value)} (h : LoopI w s bs W) (hb : Below W.heap.size W W') : LoopI w s bs W' :=
  ⟨h.below.trans (hb.mono h.below.size), Nat.le_trans h.size hb.size, fun p hp => (hb.block p.1 (Array.getElem?_eq_some_iff.1 (h.blk p hp)).1).trans (h.blk p hp)⟩
theorem any_prefix {α : Type} {f : α → Bool} {l l' : List α} (hp : l <+: l') (h : l.any f = true) : l'.any f = true := by
  obtain ⟨t, rfl⟩ := hp
  rw [List.any_append, h]
  rfl
set_option maxHeartbeats 4000000 in
set_option maxRecDepth 100000 in
theorem from_true (A0 : Option Addr) (c0 : Nat) (l0 : List S110) (A1 : Option Addr) (c1 : Nat) (l1 : List S86) (A2 : Option Addr) (c2 : Nat) (l2 : List S185) (A3 : Option Addr) (c3 : Nat) (l3 : List S124) (a b : Int) (w : World) (hW : WorldC w A0 c0 l0 A1 c1 l1 A2 c2 l2 A3 c3 l3) (hlen : l0.length < 9223372036854775807) (hb : 0 ≤ b ∧ b < (l0.length : Int)) :
    Calls Try.prog 29 #[.agg #[.slice A0 l0.length c0, .slice A1 l1.length c1, .slice A2 l2.length c2, .slice A3 l3.length c3], .int .i64 a, .int .i64 b] w fun e w' => e = .returned (.bool ((upsL l0 (l0.length + 1) a).any fun c => isOf l0 b c.1)) ∧ Below w.heap.size w w' := by
  refine (callsIn_wide (n := 3)).1 ?_
  have hu54 := Try.underlying54
  have h1 : 1 ≤ 3 := by omega
  refine callsIn_of_wp_marks Try.func29 rfl trivial ?_ rfl
  simp only [Try.ntmps29, List.size_toArray, List.length_cons, List.length_nil, Nat.reduceAdd, Nat.reduceSub, Array.replicate_succ, Array.replicate_zero, List.push_toArray, List.append_toArray, List.nil_append, List.cons_append]
  have H := Aside0.mk (((Hold.nil w).allocB [.slice A0 l0.length c0, .slice A1 l1.length c1, .slice A2 l2.length c2, .slice A3 l3.length c3] 54 |>.allocB [.int .i64 b] 3) |>.allocB [.bool false] 4)
  simp only [List.nil_append, List.cons_append, World.size_alloc] at H
  have HW := Aside0.mk hW
  clear hW
  have HW3 := Aside0.mk (HW.out.step H.out.below)
  gi_wp2_with fail
  refine ⟨trivial, ?_⟩
  refine (callsIn_wide.2 (hier_there.calls A0 c0 l0 A1 c1 l1 A2 c2 l2 A3 c3 l3 b true _ HW3.out.r0 HW3.out.h0 HW3.out.r1 HW3.out.h1 HW3.out.r2 HW3.out.h2 HW3.out.r3 HW3.out.h3 (there_true hb))).mono ?_
  rintro e w1 ⟨rfl, hb1⟩
  have H1 := Aside0.mk (H.out.step hb1)
  clear hb1 H HW3
  obtain ⟨k0, k1, k2, k3⟩ := blk54 (H1.out.B 0 rfl)
  gi_wp2_with fail
  refine ⟨trivial, ?_⟩
  refine (callsIn_wide.2 (ups_calls A0 l0.length c0 A1 l1.length c1 A2 l2.length c2 A3 l3.length c3 a w1)).mono ?_
  rintro e w2 ⟨rfl, rfl⟩
  clear k0 k1 k2 k3
  gi_wp2
  have hsz := H1.out.below.size
  have h3sz : w.heap.size + 1 + 1 < w1.heap.size := (H1.out.all 2 _ rfl).1
  refine wpIn_rangeFunc_ownC rfl h1 (gf := 76) (lb := #[.pointer (some ⟨w1.heap.size, 0, none⟩), .pointer (some ⟨w1.heap.size + 1, 0, none⟩)]) rfl trivial (enters_of Try.func76 (by kernel_rfl) rfl)
    (ups1_seq 2 (by omega) w w1.heap.size (w1.heap.size + 1) (by omega) (by omega) A0 c0 l0 A1 c1 l1 A2 c2 l2 A3 c3 l3 HW.out hlen a)
    (by simp) (fun o o' => ⟨((((H1.out.below.alloc hsz _).alloc (by simp; omega) _).alloc (by simp; omega) _).alloc (by simp; omega) _), ?pre1, ?pre2⟩) kpU_t (fun W l o o' hl h _ _ => kpU_b (N := w1.heap.size + 1 + 1) (by omega) (by omega) (by omega) W l o o' (by simpa using hl) h) (fun _ => rfl)
    (fun pre W => LoopI w (w1.heap.size + 1 + 1) [(w.heap.size, 54, [.slice A0 l0.length c0, .slice A1 l1.length c1, .slice A2 l2.length c2, .slice A3 l3.length c3]), (w.heap.size + 1, 3, [.int .i64 b]), (w.heap.size + 1 + 1, 4, [.bool false])] W ∧ (pre.any fun c => isOf l0 b c.1) = false)
    (fun c pre W => c = .ret ∧ LoopI w (w1.heap.size + 1 + 1) [(w.heap.size + 1 + 1, 4, [.bool true])] W ∧ (pre.any fun c => isOf l0 b c.1) = true)
    (fun s A B row hs hg hr => ⟨loopI_own hs.1 hg hr (by simp; omega) (by omega) (by simp; omega), hs.2⟩)
    (fun c s A B row hs hg hr => ⟨hs.1, loopI_own hs.2.1 hg hr (by simp; omega) (by omega) (by simp; omega), hs.2.2⟩)
    ?start
    (fun x => { tmps := #[.agg #[.slice A0 l0.length c0, .slice A1 l1.length c1, .slice A2 l2.length c2, .slice A3 l3.length c3], .int .i64 a, .int .i64 b, .pointer (some ⟨w.heap.size, 0, none⟩), undef, .pointer (some ⟨w.heap.size + 1, 0, none⟩), .pointer (some ⟨w.heap.size + 1 + 1, 0, none⟩), .int .i64 x.1, .agg #[.slice A0 l0.length c0, .slice A1 l1.length c1, .slice A2 l2.length c2, .slice A3 l3.length c3], .int .i64 b, .bool true, .bool false, .agg #[.slice A0 l0.length c0, .slice A1 l1.length c1, .slice A2 l2.length c2, .slice A3 l3.length c3], .int .i64 a, .func (.func 76) #[] #[.pointer (some ⟨w1.heap.size, 0, none⟩), .pointer (some ⟨w1.heap.size + 1, 0, none⟩)], .int .i64 x.1, undef, undef, undef, undef, undef, undef, undef, undef, undef, undef, undef, undef, undef], defers := [] }) ?assign ?body ?done ?stop
  case pre1 => exact ((((below_alloc (Below.refl _ ((w1.alloc _).alloc _)) o).trans (below_alloc (Below.refl _ _) o' |>.mono (by simp))).block _ (by simp; omega)).trans ((Below.heap_alloc (w1.alloc _) _ _ (by simp)).trans (blk_new w1 _)))
  case pre2 => exact ((((below_alloc (Below.refl _ ((w1.alloc _).alloc _)) o).trans (below_alloc (Below.refl _ _) o' |>.mono (by simp))).block _ (by simp)).trans (by simpa using blk_new (w1.alloc (.cells #[.slice A0 l0.length c0, .slice A1 l1.length c1, .slice A2 l2.length c2, .slice A3 l3.length c3] 54)) (.cells #[.int .i64 a] 3)))
  case start =>
    refine ⟨⟨(H1.out.below.alloc hsz _).alloc (by simp; omega) _, by simp, fun p hp => ?_⟩, rfl⟩
    have hb2 := (below_alloc (below_alloc (Below.refl w1.heap.size w1) (.cells #[.slice A0 l0.length c0, .slice A1 l1.length c1, .slice A2 l2.length c2, .slice A3 l3.length c3] 54)) (.cells #[.int .i64 a] 3))
    simp only [List.mem_cons, List.not_mem_nil, or_false] at hp
    rcases hp with rfl | rfl | rfl
    · exact (hb2.block _ (H1.out.all 0 _ rfl).1).trans (H1.out.B 0 rfl)
    · exact (hb2.block _ (H1.out.all 1 _ rfl).1).trans (H1.out.B 1 rfl)
    · exact (hb2.block _ (H1.out.all 2 _ rfl).1).trans (H1.out.B 2 rfl)
  case assign =>
    intro l x W K hK
    gi_wp2
    exact hK
  case body =>
    rintro l pre x W ⟨hI, hn⟩ hlt
    have HI := Aside0.mk hI
    have HN := Aside0.mk hn
    have f1 : W.cell? ⟨w.heap.size + 1, 0, none⟩ = some (.int .i64 b) := blk_cell (hI.blk _ (List.mem_cons_of_mem _ List.mem_cons_self)) 0
    have f2 : W.cell? ⟨w.heap.size + 1 + 1, 0, none⟩ = some (.bool false) := blk_cell (hI.blk (w.heap.size + 1 + 1, 4, [.bool false]) (by simp)) 0
    have f3 : W.frozen? ⟨w.heap.size + 1 + 1, 0, none⟩ = false := blk_frozen (hI.blk (w.heap.size + 1 + 1, 4, [.bool false]) (by simp)) 0
    obtain ⟨f4, f5, f6, f7⟩ := blk54 (hI.blk (w.heap.size, 54, [.slice A0 l0.length c0, .slice A1 l1.length c1, .slice A2 l2.length c2, .slice A3 l3.length c3]) (by simp))
    clear hI hn
    by_cases hx : (x.1 == b) = true
    · have HX := Aside0.mk (show isOf l0 b x.1 = true by unfold isOf; rw [hx]; rfl)
      gi_wp2
      refine ⟨trivial, ?_⟩
      gi_wp2
      refine ⟨KeepsOthers.setCell _ _ _, rfl, ⟨HI.out.below.setCell (p := ⟨w.heap.size + 1 + 1, 0, none⟩) (by simp; omega) _, by simpa using HI.out.size, fun p hp => ?_⟩, by rw [List.any_append, List.any_cons, HX.out]; simp⟩
      obtain rfl : p = _ := List.mem_singleton.1 hp
      simpa using blk_set (HI.out.blk (w.heap.size + 1 + 1, 4, [.bool false]) (by simp)) 0 (.bool true)
    · have hx2 : (x.1 == b) = false := by simpa using hx
      clear hx
      obtain ⟨hx0, hx1⟩ := x.2
      obtain ⟨ad, B3_, b3_, B4_, b4_, B5_, b5_, B6_, b6_, e_, -, -, -, r3_, -, -, -, rest_⟩ := at_T110 (HW.out.step HI.out.below).r0 x.1 hx0 hx1
      subst e_
      have HC := Aside0.mk (hasIf_calls B3_ b3_ (rd_T110 l0 x.1).f3 b (w.heap.size + 1) W rest_.2.1 rest_.1 (by have := HI.out.size; omega) (HI.out.blk (w.heap.size + 1, 3, [.int .i64 b]) (by simp)))
      clear rest_
      gi_wp2_with fail
      refine ⟨trivial, ?_⟩
      refine (CallsIn.inRound l (callsIn_wide.2 HC.out)).mono ?_
      rintro e w3 ⟨rfl, hb3⟩
      have HI3 := Aside0.mk (HI.out.step hb3)
      have HK3 := Aside0.mk (keepsOthers_below hb3)
      have hWsz := HI.out.below.size
      have HK4 := Aside0.mk hb3
      clear f1 f2 f3 f4 f5 f6 f7 r3_ hb3
      have f2 : w3.cell? ⟨w.heap.size + 1 + 1, 0, none⟩ = some (.bool false) := blk_cell (HI3.out.blk (w.heap.size + 1 + 1, 4, [.bool false]) (by simp)) 0
      have f3 : w3.frozen? ⟨w.heap.size + 1 + 1, 0, none⟩ = false := blk_frozen (HI3.out.blk (w.heap.size + 1 + 1, 4, [.bool false]) (by simp)) 0
      by_cases hh : hasIf b (rd_T110 l0 x.1).f3 = true
      · have HX := Aside0.mk (show isOf l0 b x.1 = true by unfold isOf; rw [hx2, hh]; rfl)
        rw [hh]
        clear hh
        gi_wp2
        refine ⟨HK3.out.trans (KeepsOthers.setCell _ _ _), rfl, ⟨HI3.out.below.setCell (p := ⟨w.heap.size + 1 + 1, 0, none⟩) (by simp; omega) _, by simpa using HI3.out.size, fun p hp => ?_⟩, by rw [List.any_append, List.any_cons, HX.out]; simp⟩
        obtain rfl : p = _ := List.mem_singleton.1 hp
        simpa using blk_set (HI3.out.blk (w.heap.size + 1 + 1, 4, [.bool false]) (by simp)) 0 (.bool true)
      · have hh2 : hasIf b (rd_T110 l0 x.1).f3 = false := by simpa using hh
        have HX := Aside0.mk (show isOf l0 b x.1 = false by unfold isOf; rw [hx2, hh2]; rfl)
        rw [hh2]
        clear hh hh2
        gi_wp2
        have hs2 := HI.out.size
        exact ⟨HK3.out, ⟨HK4.out.mono hWsz, HK4.out.block _ (by omega), HK4.out.block _ (by omega)⟩, HI3.out, by rw [List.any_append, List.any_cons, HX.out, HN.out]; rfl⟩
  case done =>
    rintro D ys W hD rfl ⟨hI, hn⟩ hK
    have HI := Aside0.mk hI
    have HN := Aside0.mk hn
    have f2 : W.cell? ⟨w.heap.size + 1 + 1, 0, none⟩ = some (.bool false) := blk_cell (hI.blk (w.heap.size + 1 + 1, 4, [.bool false]) (by simp)) 0
    have f3 : W.frozen? ⟨w.heap.size + 1 + 1, 0, none⟩ = false := blk_frozen (hI.blk (w.heap.size + 1 + 1, 4, [.bool false]) (by simp)) 0
    clear hI hn
    gi_wp2
    have hD2 : w.heap.size ≤ D := by simp at hD; omega
    have hK2 := (KeepsOthers.setCell W ⟨w.heap.size + 1 + 1, 0, none⟩ (.bool false)).same D _ hK rfl
    refine ⟨by simp, .inl ⟨_, _, rfl, run_takeDeferred hK2, ?_⟩⟩
    have hc5 := cell_kept (World.cell?_setCell_same' W ⟨w.heap.size + 1 + 1, 0, none⟩ (.bool false) (by rw [f2]; rfl)) (grownBy_putObj' _ D (.deferred none)) (fun r e => by cases e; exact ⟨_, hK2, rfl⟩)
    refine ⟨.bool false, ?_, by rw [HN.out], (HI.out.below.setCell (p := ⟨w.heap.size + 1 + 1, 0, none⟩) (by simp; omega) _).trans (belowK_b (w := w) (Nat.le_refl _) _ D _ _ hD2 hK2 rfl rfl)⟩
    simp [results, Try.f29, go_sem, hc5]
  case stop =>
    rintro D c pre W hD hp ⟨rfl, hI, hn⟩ hK
    have hD2 : w.heap.size ≤ D := by simp at hD; omega
    gi_wp2
    refine ⟨by simp, .inl ⟨_, _, rfl, run_takeDeferred hK, ?_⟩⟩
    have hcr : W.cell? ⟨w.heap.size + 1 + 1, 0, none⟩ = some (.bool true) := blk_cell (hI.blk (w.heap.size + 1 + 1, 4, [.bool true]) (by simp)) 0
    have hc5 := cell_kept hcr (grownBy_putObj' _ D (.deferred none)) (fun r e => by cases e; exact ⟨_, hK, rfl⟩)
    refine ⟨.bool true, ?_, by rw [any_prefix hp hn], hI.below.trans (belowK_b (w := w) (Nat.le_refl _) W D _ _ hD2 hK rfl rfl)⟩
    simp [results, Try.f29, go_sem, hc5]
set_option maxHeartbeats 4000000 in
set_option maxRecDepth 100000 in
theorem from_false (A0 : Option Addr) (c0 : Nat) (l0 : List S110) (A1 : Option Addr) (c1 : Nat) (l1 : List S86) (A2 : Option Addr) (c2 : Nat) (l2 : List S185) (A3 : Option Addr) (c3 : Nat) (l3 : List S124) (a b : Int) (w : World) (hW : WorldC w A0 c0 l0 A1 c1 l1 A2 c2 l2 A3 c3 l3) (hb : ¬ (0 ≤ b ∧ b < (l0.length : Int))) :
    Calls Try.prog 29 #[.agg #[.slice A0 l0.length c0, .slice A1 l1.length c1, .slice A2 l2.length c2, .slice A3 l3.length c3], .int .i64 a, .int .i64 b] w fun e w' => e = .returned (.bool false) ∧ Below w.heap.size w w' := by
  have hu54 := Try.underlying54
  have H := Aside0.mk (((Hold.nil w).allocB [.slice A0 l0.length c0, .slice A1 l1.length c1, .slice A2 l2.length c2, .slice A3 l3.length c3] 54 |>.allocB [.int .i64 b] 3) |>.allocB [.bool false] 4)
  simp only [List.nil_append, List.cons_append, World.size_alloc] at H
  have HW3 := Aside0.mk (hW.step H.out.below)
  clear hW
  go_enter Try.func29, Try.ntmps29
  go_wp2_with fail
  refine (hier_there.calls A0 c0 l0 A1 c1 l1 A2 c2 l2 A3 c3 l3 b false _ HW3.out.r0 HW3.out.h0 HW3.out.r1 HW3.out.h1 HW3.out.r2 HW3.out.h2 HW3.out.r3 HW3.out.h3 (there_false hb)).mono ?_
  rintro e w1 ⟨rfl, hb1⟩
  have H1 := Aside0.mk (H.out.step hb1)
  clear hb1 H HW3
  have f2 : w1.cell? ⟨w.heap.size + 1 + 1, 0, none⟩ = some (.bool false) := blk_cell (H1.out.B 2 rfl) 0
  have f3 : w1.frozen? ⟨w.heap.size + 1 + 1, 0, none⟩ = false := blk_frozen (H1.out.B 2 rfl) 0
  have f4 := World.cell?_setCell_same' w1 ⟨w.heap.size + 1 + 1, 0, none⟩ (.bool false) (by rw [f2]; rfl)
  go_wp2
  exact bodyPost_ret (v := .bool false) (by simp [results, Try.f29, go_sem, f4]) rfl ⟨rfl, H1.out.below.setCell (p := ⟨w.heap.size + 1 + 1, 0, none⟩) (by simp; omega) _⟩
def hier_From.f (l0_0 : List (S110)) (l0_1 : List (S86)) (l0_2 : List (S185)) (l0_3 : List (S124)) (a1 : Int) (a2 : Int) : Option (Bool) := if l0_0.length < 9223372036854775807 then some (fromB l0_0 a1 a2) else none
theorem hier_From.calls (A0_0 : Option Addr) (c0_0 : Nat) (l0_0 : List (S110)) (A0_1 : Option Addr) (c0_1 : Nat) (l0_1 : List (S86)) (A0_2 : Option Addr) (c0_2 : Nat) (l0_2 : List (S185)) (A0_3 : Option Addr) (c0_3 : Nat) (l0_3 : List (S124)) (a1 : Int) (a2 : Int) (r : Bool) (w : World) (hr0_0 : Kd.C k110 w A0_0 l0_0.length l0_0) (hc0_0 : l0_0.length ≤ c0_0) (hr0_1 : Kd.C k86 w A0_1 l0_1.length l0_1) (hc0_1 : l0_1.length ≤ c0_1) (hr0_2 : Kd.C k185 w A0_2 l0_2.length l0_2) (hc0_2 : l0_2.length ≤ c0_2) (hr0_3 : Kd.C k124 w A0_3 l0_3.length l0_3) (hc0_3 : l0_3.length ≤ c0_3) (h : hier_From.f l0_0 l0_1 l0_2 l0_3 a1 a2 = some r) :
    Calls Try.prog 29 #[.agg #[.slice A0_0 l0_0.length c0_0, .slice A0_1 l0_1.length c0_1, .slice A0_2 l0_2.length c0_2, .slice A0_3 l0_3.length c0_3], .int .i64 a1, .int .i64 a2] w fun e w' => e = .returned (.bool r) ∧ Below w.heap.size w w' := by
  unfold hier_From.f at h
  split at h
  case isFalse => cases h
  case isTrue hlen =>
  obtain rfl := Option.some.inj h
  have hW : WorldC w A0_0 c0_0 l0_0 A0_1 c0_1 l0_1 A0_2 c0_2 l0_2 A0_3 c0_3 l0_3 := ⟨hr0_0, hc0_0, hr0_1, hc0_1, hr0_2, hc0_2, hr0_3, hc0_3⟩
  by_cases hb : 0 ≤ a2 ∧ a2 < (l0_0.length : Int)
  · have := from_true A0_0 c0_0 l0_0 A0_1 c0_1 l0_1 A0_2 c0_2 l0_2 A0_3 c0_3 l0_3 a1 a2 w hW hlen hb
    unfold fromB
    rw [decide_eq_true hb, Bool.true_and]
    exact this
  · have := from_false A0_0 c0_0 l0_0 A0_1 c0_1 l0_1 A0_2 c0_2 l0_2 A0_3 c0_3 l0_3 a1 a2 w hW hb
    unfold fromB
    rw [decide_eq_false hb, Bool.false_and]
    exact this
end Go.Proofs.Ytocdpledkmmomaa.P
