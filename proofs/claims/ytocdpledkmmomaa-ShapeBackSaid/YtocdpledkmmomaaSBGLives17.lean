import Derived.Test.YtocdpledkmmomaaSBPx6
import Derived.Test.YtocdpledkmmomaaSBPx7
import Derived.Test.YtocdpledkmmomaaSBGWorld
import Derived.Test.YtocdpledkmmomaaSBGPush
import Derived.Test.YtocdpledkmmomaaSBHold
import Derived.Test.YtocdpledkmmomaaSBRegTold2
namespace Go.Proofs.Ytocdpledkmmomaa.P
open Go.RowKit Go.Proofs.YtocdpledkmmomaaW.PrintWords Go.Proofs.YtocdpledkmmomaaW.PrintLast Go.Proofs.YtocdpledkmmomaaW.PrintMore
set_option linter.unusedVariables false
set_option linter.unusedSimpArgs false
theorem C_nil {α : Type} (d : Kd α) (w : World) (A : Option Addr) : Kd.C d w A ([] : List α).length [] := ⟨rfl, by simp, fun h => absurd h (by simp)⟩
def shpT (tup : Bool) (v : Value) (ok : Nat → Prop) (w : World) : Prop :=
  ∃ E0 e0 E1 e1 E2 e2, v = (if tup = true then .tuple #[.agg #[.slice E0 2 e0, .slice E1 1 e1, .slice E2 0 e2], .int .i64 0] else .agg #[.slice E0 2 e0, .slice E1 1 e1, .slice E2 0 e2]) ∧ 2 ≤ e0 ∧ 1 ≤ e1 ∧ 0 ≤ e2 ∧
    Kd.F k32 w ok E0 2 [⟨2, ⟨0, 0⟩, 0⟩, ⟨1, ⟨0, 0⟩, 0⟩] ∧ Kd.F k32 w ok E1 1 [⟨2, ⟨0, 0⟩, 0⟩] ∧ Kd.F (Kd.int .i64) w ok E2 0 []
theorem foot_move {p : World → Prop} {w w' : World} {ok : Nat → Prop} (h : Foot p w ok) (hm : ∀ k, ok k → k < w.heap.size → w'.heap[k]? = w.heap[k]?) (hs : w.heap.size ≤ w'.heap.size) : Foot p w' ok :=
  fun W hW => h W (fun k hk hlt => (hW k hk (Nat.lt_of_lt_of_le hlt hs)).trans (hm k hk hlt))
theorem shpT_step {tup : Bool} : ∀ v ok w w', (∀ k, ok k → k < w.heap.size → w'.heap[k]? = w.heap[k]?) → w.heap.size ≤ w'.heap.size → shpT tup v ok w → shpT tup v ok w' := by
  rintro v ok w w' hm hs ⟨E0, e0, E1, e1, E2, e2, hv, l0, l1, l2, g0, g1, g2⟩
  exact ⟨E0, e0, E1, e1, E2, e2, hv, l0, l1, l2, foot_move g0 hm hs, foot_move g1 hm hs, foot_move g2 hm hs⟩
def shpB : Told := ⟨fun v w => ∃ b E0 e0 E1 e1 E2 e2, v = .pointer (some ⟨b, 0, none⟩) ∧ (mB b 25 [.slice E0 2 e0, .slice E1 1 e1, .slice E2 0 e2]).p w ∧ (mC k32 E0 [⟨2, ⟨0, 0⟩, 0⟩, ⟨1, ⟨0, 0⟩, 0⟩] 2 e0).p w ∧ (mC k32 E1 [⟨2, ⟨0, 0⟩, 0⟩] 1 e1).p w ∧ (mC (Kd.int .i64) E2 ([] : List Int) 0 e2).p w, by
  rintro v w w' hb ⟨b, E0, e0, E1, e1, E2, e2, hv, h0, h1, h2, h3⟩
  exact ⟨b, E0, e0, E1, e1, E2, e2, hv, MonoP.mono _ _ _ hb h0, MonoP.mono _ _ _ hb h1, MonoP.mono _ _ _ hb h2, MonoP.mono _ _ _ hb h3⟩⟩
theorem ofL (W1 : List S110) (W2 : List S86) (W3 : List S185) (W4 : List S124) : shape_Of.f 20 W1 W2 W3 W4 0 1 0 [⟨3, 0⟩] 0 0 0 1 [] [] 0 = some ([⟨2, ⟨0, 0⟩, 0⟩, ⟨1, ⟨0, 0⟩, 0⟩], [], []) := by kernel_rfl
set_option maxHeartbeats 4000000 in
set_option maxRecDepth 100000 in
theorem lives17_any (w : World) : Calls Try.prog 10 #[] w fun e w' => e = .returned (.bool true) ∧ Below w.heap.size w w' := by
  have hu25 := Try.underlying25
  have hu30 := Try.underlying30
  have hu82 := Try.underlying82
  have hu86 := Try.underlying86
  obtain ⟨W1, W2, W3, W4, hw⟩ : ∃ a b c d, garderoberef12_World.f = some (a, b, c, d) := ⟨_, _, _, _, rfl⟩
  have HW := Aside0.mk hw
  clear hw
  go_enter Try.func10, Try.ntmps10
  go_wp2_with fail
  refine (garderoberef12_World.calls W1 W2 W3 W4 _ HW.out).mono ?_
  rintro e w1 ⟨v0, v1, v2, v3, rfl, h0, h1, h2, h3, hb⟩
  have H0 := (Hold.nil w).step hb
  obtain ⟨A0, c0, rfl, H1⟩ := H0.addR h0
  obtain ⟨A1, c1, rfl, H2⟩ := H1.addR h1
  obtain ⟨A2, c2, rfl, H3⟩ := H2.addR h2
  obtain ⟨A3, c3, rfl, H4⟩ := H3.addR h3
  simp only [List.nil_append, List.cons_append] at H4
  clear H0 H1 H2 H3 h0 h1 h2 h3 hb
  have H := Aside0.mk H4
  clear H4
  go_wp2_with fail
  have H5 := H.out.allocB [.slice A0 W1.length c0, .slice A1 W2.length c1, .slice A2 W3.length c2, .slice A3 W4.length c3] 54
  have h6 := row_lit k30 30 w.heap.size (w := w1.alloc (.cells #[.slice A0 W1.length c0, .slice A1 W2.length c1, .slice A2 W3.length c2, .slice A3 W4.length c3] 54)) 1 (xs := [⟨3, 0⟩]) rfl (reps_one rfl (k30_mkM _ _ _ ⟨3, 0⟩)) (by have := H.out.below.size; simp; omega) (by simp)
  obtain ⟨A6, c6, e6, H6⟩ := (H5.alloc _).addR h6
  simp at e6
  obtain ⟨rfl, rfl⟩ := e6
  have H7 := H6.alloc (.cells #[.int .i64 0, .int .u8 1, .int .i64 0, .slice (some ⟨w1.heap.size + 1, 0, none⟩) 1 1, .int .u8 0, .int .u16 0, .int .i64 0, .int .i64 1, .slice none 0 0, .slice none 0 0, .int .i64 0] 86)
  simp only [List.nil_append, List.cons_append] at H7
  refine (shape_Of.calls 20 A0 c0 W1 A1 c1 W2 A2 c2 W3 A3 c3 W4 0 1 0 (some ⟨w1.heap.size + 1, 0, none⟩) 1 [⟨3, 0⟩] 0 0 0 1 none 0 [] none 0 [] 0 [⟨2, ⟨0, 0⟩, 0⟩, ⟨1, ⟨0, 0⟩, 0⟩] [] [] _ (H7.C 0 rfl) (H7.all 0 _ rfl).2.1 (H7.C 1 rfl) (H7.all 1 _ rfl).2.1 (H7.C 2 rfl) (H7.all 2 _ rfl).2.1 (H7.C 3 rfl) (H7.all 3 _ rfl).2.1 (H7.C 5 rfl) (Nat.le_refl _) (C_nil _ _ _) (Nat.le_refl _) (C_nil _ _ _) (Nat.le_refl _) (ofL _ _ _ _)).mono ?_
  rintro e w2 ⟨s0, s1, s2, rfl, g0, g1, g2, hb2⟩
  have H8 := H7.step hb2
  obtain ⟨B0, d0, rfl, H9⟩ := H8.addR g0
  obtain ⟨B1, d1, rfl, H10⟩ := H9.addR g1
  obtain ⟨B2, d2, rfl, H11⟩ := H10.addR g2
  simp only [List.nil_append, List.cons_append, List.length_cons, List.length_nil, Nat.reduceAdd] at H11 ⊢
  clear H5 h6 H6 H7 H8 H9 H10 g0 g1 g2 hb2 H
  have H := Aside0.mk H11
  clear H11
  go_wp2_with fail
  have H12 := H.out.allocB [.slice B0 2 d0, .slice B1 0 d1, .slice B2 0 d2] 25
  simp only [List.nil_append, List.cons_append] at H12
  have HN : w.heap.size ≤ w2.heap.size := H.out.below.size
  clear H
  refine wp_region_toldQ 25 4 7 8 [TQ.val (.agg #[.slice B0 2 d0, .slice B1 0 d1, .slice B2 0 d2]), TQ.val (.agg #[.int .u8 2, .int .u8 0, .int .u16 0, .int .i64 0]), TQ.of (Told.row k32 32 w.heap.size [⟨2, ⟨0, 0⟩, 0⟩]), TQ.of (Told.pure fun v => ∃ E0 e0 E1 e1 E2 e2, v = .tuple #[.agg #[.slice E0 0 e0, .slice E1 0 e1, .slice E2 0 e2], .int .i64 9]), TQ.of (Told.pure fun v => ∃ E0 e0 E1 e1 E2 e2, v = .tuple #[.agg #[.slice E0 0 e0, .slice E1 0 e1, .slice E2 0 e2], .int .i64 9]), TQ.of (Told.pure fun v => ∃ E0 e0 E1 e1 E2 e2, v = .agg #[.slice E0 0 e0, .slice E1 0 e1, .slice E2 0 e2]), TQ.val (.int .i64 9), TQ.ptr 3, TQ.of (Told.pure fun v => ∃ b, v = .pointer (some ⟨b, 0, none⟩)), TQ.val (.int .i64 9)] [21, 22, 23, 24, 20, 25, 26, 4, 4, 5] rfl rfl (by kernel_rfl) (by kernel_rfl) (fun b hb => by cases hb) ⟨fun _ => far_valq _, fun _ => far_valq _, fun _ => far_rowq _ _ _ _ rfl, fun _ => far_pure _, fun _ => far_pure _, fun _ => far_pure _, fun _ => far_valq _, fun _ => far_ptrq, fun _ => far_pure _, fun _ => far_valq _, trivial⟩ ?_ ?_
  · refine ⟨?_, ?_, ?_, ?_, ?_, ?_, ?_, ?_, ?_, ?_, trivial⟩
    · intro a' w' hf hb hp hd
      have p0_ := frame_at2 hf 3 (.pointer (some ⟨w2.heap.size, 0, none⟩)) (by kernel_rfl) rfl
      have p02_ : a'.tmps[3]?.getD undef = .pointer (some ⟨w2.heap.size, 0, none⟩) := by simpa [Act.eval] using p0_
      obtain ⟨c0_, c1_, c2_⟩ := blk25 ((H12.step hb).B 9 rfl)
      exact q_run (s := 21) (v := .agg #[.slice B0 2 d0, .slice B1 0 d1, .slice B2 0 d2]) rfl (size_lt hf (by kernel_rfl)) (by decide) (by decide) (by simp [execOp, p0_, p02_]; try go_simp) (Below.refl _ _) rfl
    · intro a' w' hf hb hp hd
      refine q_call (s := 22) rfl (size_lt hf (by kernel_rfl)) (by decide) (by decide) (by go_simp) ((garderoberef16_Num.calls 2 0 0 0 w' rfl).mono ?_)
      rintro e w3 ⟨rfl, hb3⟩
      exact ⟨_, rfl, hb3, rfl⟩
    · intro a' w' hf hb hp hd
      have q0_ : a'.eval (.tmp 22) = .agg #[.int .u8 2, .int .u8 0, .int .u16 0, .int .i64 0] := hd 1 (by decide)
      have q02_ : a'.tmps[22]?.getD undef = .agg #[.int .u8 2, .int .u8 0, .int .u16 0, .int .i64 0] := by simpa [Act.eval] using q0_
      exact q_run (s := 23) (v := .slice (some ⟨w'.heap.size, 0, none⟩) 1 1) (w' := w'.alloc (.cells #[.int .u8 2, .int .u8 0, .int .u16 0, .int .i64 0] 32)) rfl (size_lt hf (by kernel_rfl)) (by decide) (by decide) (by simp [execOp, q0_, q02_]; first | (go_simp; done) | (go_simp; rfl)) (below_alloc (Below.refl _ _) _) (row_lit k32 32 w.heap.size (xs := [⟨2, ⟨0, 0⟩, 0⟩]) 1 rfl (reps_one rfl (k32_mkM _ _ _ ⟨2, ⟨0, 0⟩, 0⟩)) (by have := hb.size; simp at this; omega) (by simp))
    · intro a' w' hf hb hp hd
      have q0_ : a'.eval (.tmp 21) = .agg #[.slice B0 2 d0, .slice B1 0 d1, .slice B2 0 d2] := hd 0 (by decide)
      have q1_ : k32.R 32 w' w.heap.size (fun _ => True) (a'.eval (.tmp 23)) [⟨2, ⟨0, 0⟩, 0⟩] := hd 2 (by decide)
      obtain ⟨A9, c9, e9, hl9, hC9⟩ := Kd.R_reads q1_
      have q02_ : a'.tmps[21]?.getD undef = .agg #[.slice B0 2 d0, .slice B1 0 d1, .slice B2 0 d2] := by simpa [Act.eval] using q0_
      have q12_ : a'.tmps[23]?.getD undef = .slice A9 1 c9 := by simpa [Act.eval] using e9
      have H13 := H12.step hb
      refine q_call (s := 24) rfl (size_lt hf (by kernel_rfl)) (by decide) (by decide) (by simp [execOp, q0_, q02_, e9, q12_]; try go_simp) ((shape_Push.calls B0 d0 [⟨2, ⟨0, 0⟩, 0⟩, ⟨1, ⟨0, 0⟩, 0⟩] B1 d1 [] B2 d2 [] 0 A9 c9 [⟨2, ⟨0, 0⟩, 0⟩] [] [] [] 9 w' (H13.C 6 rfl) (H13.all 6 _ rfl).2.1 (H13.C 7 rfl) (H13.all 7 _ rfl).2.1 (H13.C 8 rfl) (H13.all 8 _ rfl).2.1 hC9 hl9 (by kernel_rfl)).mono ?_)
      rintro e w3 ⟨u0, u1, u2, rfl, x0, x1, x2, hb3⟩
      obtain ⟨E0, e0, rfl⟩ := Kd.R_slice x0
      obtain ⟨E1, e1, rfl⟩ := Kd.V_slice x1
      obtain ⟨E2, e2, rfl⟩ := Kd.R_slice x2
      exact ⟨_, rfl, hb3, ⟨E0, e0, E1, e1, E2, e2, rfl⟩⟩
    · intro a' w' hf hb hp hd
      obtain ⟨E0, e0, E1, e1, E2, e2, q0_⟩ : ∃ E0 e0 E1 e1 E2 e2, a'.eval (.tmp 24) = .tuple #[.agg #[.slice E0 0 e0, .slice E1 0 e1, .slice E2 0 e2], .int .i64 9] := hd 3 (by decide)
      have q02_ : a'.tmps[24]?.getD undef = .tuple #[.agg #[.slice E0 0 e0, .slice E1 0 e1, .slice E2 0 e2], .int .i64 9] := by simpa [Act.eval] using q0_
      exact q_run (s := 20) (v := .tuple #[.agg #[.slice E0 0 e0, .slice E1 0 e1, .slice E2 0 e2], .int .i64 9]) rfl (size_lt hf (by kernel_rfl)) (by decide) (by decide) (by simp [execOp, q0_, q02_]; try go_simp) (Below.refl _ _) ⟨E0, e0, E1, e1, E2, e2, rfl⟩
    · intro a' w' hf hb hp hd
      obtain ⟨E0, e0, E1, e1, E2, e2, q0_⟩ : ∃ E0 e0 E1 e1 E2 e2, a'.eval (.tmp 20) = .tuple #[.agg #[.slice E0 0 e0, .slice E1 0 e1, .slice E2 0 e2], .int .i64 9] := hd 4 (by decide)
      have q02_ : a'.tmps[20]?.getD undef = .tuple #[.agg #[.slice E0 0 e0, .slice E1 0 e1, .slice E2 0 e2], .int .i64 9] := by simpa [Act.eval] using q0_
      exact q_run (s := 25) (v := .agg #[.slice E0 0 e0, .slice E1 0 e1, .slice E2 0 e2]) rfl (size_lt hf (by kernel_rfl)) (by decide) (by decide) (by simp [execOp, q0_, q02_]; try go_simp) (Below.refl _ _) ⟨E0, e0, E1, e1, E2, e2, rfl⟩
    · intro a' w' hf hb hp hd
      obtain ⟨E0, e0, E1, e1, E2, e2, q0_⟩ : ∃ E0 e0 E1 e1 E2 e2, a'.eval (.tmp 20) = .tuple #[.agg #[.slice E0 0 e0, .slice E1 0 e1, .slice E2 0 e2], .int .i64 9] := hd 4 (by decide)
      have q02_ : a'.tmps[20]?.getD undef = .tuple #[.agg #[.slice E0 0 e0, .slice E1 0 e1, .slice E2 0 e2], .int .i64 9] := by simpa [Act.eval] using q0_
      exact q_run (s := 26) (v := .int .i64 9) rfl (size_lt hf (by kernel_rfl)) (by decide) (by decide) (by simp [execOp, q0_, q02_]; try go_simp) (Below.refl _ _) rfl
    · intro a' w' hf hb hp hd
      exact q_alloc (s := 4) (cs := #[.slice none 0 0, .slice none 0 0, .slice none 0 0]) rfl rfl (size_lt hf (by kernel_rfl)) hb.size (by go_simp)
    · intro a' w' hf hb hp hd
      obtain ⟨b, q0_, hNb, hlt, cells, hcs, hblk⟩ : ∃ b, a'.eval (.tmp 4) = .pointer (some ⟨b, 0, none⟩) ∧ _ ≤ b ∧ b < w'.heap.size ∧ ∃ cells : Array Value, cells.size = 3 ∧ w'.heap[b]? = some (.cells cells 25 (0, 0)) := hd 7 (by decide)
      obtain ⟨E0, e0, E1, e1, E2, e2, q1_⟩ : ∃ E0 e0 E1 e1 E2 e2, a'.eval (.tmp 25) = .agg #[.slice E0 0 e0, .slice E1 0 e1, .slice E2 0 e2] := hd 5 (by decide)
      exact q_store (s := 4) rfl 25 (.tmp 4) (.tmp 25) rfl q0_ q0_ hNb hblk (.agg #[.slice E0 0 e0, .slice E1 0 e1, .slice E2 0 e2]) [.slice E0 0 e0, .slice E1 0 e1, .slice E2 0 e2] q1_ rfl (show _ = some 3 by kernel_rfl) rfl hcs.symm (fun w'' _ _ => ⟨b, rfl⟩)
    · intro a' w' hf hb hp hd
      have q0_ : a'.eval (.tmp 26) = .int .i64 9 := hd 6 (by decide)
      have q02_ : a'.tmps[26]?.getD undef = .int .i64 9 := by simpa [Act.eval] using q0_
      exact q_run (s := 5) (v := .int .i64 9) rfl (size_lt hf (by kernel_rfl)) (by decide) (by decide) (by simp [execOp, q0_, q02_]; try go_simp) (Below.refl _ _) rfl
  · intro a' w' hf hb hd
    have ha := act_of_frame2 hf [21, 22, 23, 24, 20, 25, 26, 4, 5] (by kernel_rfl) (by kernel_rfl)
    have e21 : a'.eval (.tmp 21) = _ := hd 0 (by decide)
    have e22 : a'.eval (.tmp 22) = _ := hd 1 (by decide)
    have r23 : k32.R 32 w' w.heap.size (fun _ => True) (a'.eval (.tmp 23)) [⟨2, ⟨0, 0⟩, 0⟩] := hd 2 (by decide)
    obtain ⟨A9, c9, e23⟩ := Kd.R_slice r23
    obtain ⟨E0, z0, E1, z1, E2, z2, e24⟩ : ∃ E0 e0 E1 e1 E2 e2, a'.eval (.tmp 24) = .tuple #[.agg #[.slice E0 0 e0, .slice E1 0 e1, .slice E2 0 e2], .int .i64 9] := hd 3 (by decide)
    obtain ⟨F0, y0, F1, y1, F2, y2, e20⟩ : ∃ E0 e0 E1 e1 E2 e2, a'.eval (.tmp 20) = .tuple #[.agg #[.slice E0 0 e0, .slice E1 0 e1, .slice E2 0 e2], .int .i64 9] := hd 4 (by decide)
    obtain ⟨D0, x0, D1, x1, D2, x2, e25⟩ : ∃ E0 e0 E1 e1 E2 e2, a'.eval (.tmp 25) = .agg #[.slice E0 0 e0, .slice E1 0 e1, .slice E2 0 e2] := hd 5 (by decide)
    have e26 : a'.eval (.tmp 26) = _ := hd 6 (by decide)
    obtain ⟨b4, e4⟩ : ∃ b, a'.eval (.tmp 4) = .pointer (some ⟨b, 0, none⟩) := hd 8 (by decide)
    have e5 : a'.eval (.tmp 5) = _ := hd 9 (by decide)
    simp only [List.foldl_cons, List.foldl_nil, List.setIfInBounds_toArray, List.set_cons_succ, List.set_cons_zero, e21, e22, e23, e24, e20, e25, e26, e4, e5] at ha
    have H14 := Aside0.mk (H12.step hb)
    clear hf hd e21 e22 e23 e24 e20 e25 e26 e4 e5 r23 H12 hb HN
    subst ha
    go_wp2_with fail
    have HN2 : w.heap.size ≤ w'.heap.size := H14.out.below.size
    have H15 := H14.out
    refine wp_region_toldQ 25 6 7 8 [TQ.val (.agg #[.slice B0 2 d0, .slice B1 0 d1, .slice B2 0 d2]), TQ.val (.agg #[.int .u8 2, .int .u8 0, .int .u16 0, .int .i64 0]), TQ.of (Told.row k32 32 w.heap.size [⟨2, ⟨0, 0⟩, 0⟩]), TQ.made (shpT true) shpT_step, TQ.made (shpT true) shpT_step, TQ.made (shpT false) shpT_step, TQ.val (.int .i64 0), TQ.ptr 3, TQ.of shpB, TQ.val (.int .i64 0)] [28, 29, 30, 31, 27, 32, 33, 6, 6, 7] rfl rfl (by kernel_rfl) (by kernel_rfl) (fun b hb => by cases hb) ⟨fun _ => far_valq _, fun _ => far_valq _, fun _ => far_rowq _ _ _ _ rfl, fun _ => far_made, fun _ => far_made, fun _ => far_made, fun _ => far_valq _, fun _ => far_ptrq, fun h => absurd rfl h, fun _ => far_valq _, trivial⟩ ?_ ?_
    · refine ⟨?_, ?_, ?_, ?_, ?_, ?_, ?_, ?_, ?_, ?_, trivial⟩
      · intro a' w'' hf hb hp hd
        have p0_ := frame_at2 hf 3 (.pointer (some ⟨w2.heap.size, 0, none⟩)) (by kernel_rfl) rfl
        have p02_ : a'.tmps[3]?.getD undef = .pointer (some ⟨w2.heap.size, 0, none⟩) := by simpa [Act.eval] using p0_
        obtain ⟨c0_, c1_, c2_⟩ := blk25 ((H15.step hb).B 9 rfl)
        exact q_run (s := 28) (v := .agg #[.slice B0 2 d0, .slice B1 0 d1, .slice B2 0 d2]) rfl (size_lt hf (by kernel_rfl)) (by decide) (by decide) (by simp [execOp, p0_, p02_]; try go_simp) (Below.refl _ _) rfl
      · intro a' w'' hf hb hp hd
        refine q_call (s := 29) rfl (size_lt hf (by kernel_rfl)) (by decide) (by decide) (by go_simp) ((garderoberef16_Num.calls 2 0 0 0 w'' rfl).mono ?_)
        rintro e w3 ⟨rfl, hb3⟩
        exact ⟨_, rfl, hb3, rfl⟩
      · intro a' w'' hf hb hp hd
        have q0_ : a'.eval (.tmp 29) = .agg #[.int .u8 2, .int .u8 0, .int .u16 0, .int .i64 0] := hd 1 (by decide)
        have q02_ : a'.tmps[29]?.getD undef = .agg #[.int .u8 2, .int .u8 0, .int .u16 0, .int .i64 0] := by simpa [Act.eval] using q0_
        exact q_run (s := 30) (v := .slice (some ⟨w''.heap.size, 0, none⟩) 1 1) (w' := w''.alloc (.cells #[.int .u8 2, .int .u8 0, .int .u16 0, .int .i64 0] 32)) rfl (size_lt hf (by kernel_rfl)) (by decide) (by decide) (by simp [execOp, q0_, q02_]; first | (go_simp; done) | (go_simp; rfl)) (below_alloc (Below.refl _ _) _) (row_lit k32 32 w.heap.size (xs := [⟨2, ⟨0, 0⟩, 0⟩]) 1 rfl (reps_one rfl (k32_mkM _ _ _ ⟨2, ⟨0, 0⟩, 0⟩)) (by have := hb.size; omega) (by simp))
      · intro a' w'' hf hb hp hd
        have q0_ : a'.eval (.tmp 28) = .agg #[.slice B0 2 d0, .slice B1 0 d1, .slice B2 0 d2] := hd 0 (by decide)
        have q1_ : k32.R 32 w'' w.heap.size (fun _ => True) (a'.eval (.tmp 30)) [⟨2, ⟨0, 0⟩, 0⟩] := hd 2 (by decide)
        obtain ⟨A9, c9, e9, hl9, hC9⟩ := Kd.R_reads q1_
        have q02_ : a'.tmps[28]?.getD undef = .agg #[.slice B0 2 d0, .slice B1 0 d1, .slice B2 0 d2] := by simpa [Act.eval] using q0_
        have q12_ : a'.tmps[30]?.getD undef = .slice A9 1 c9 := by simpa [Act.eval] using e9
        have H16 := H15.step hb
        refine q_call (s := 31) rfl (size_lt hf (by kernel_rfl)) (by decide) (by decide) (by simp [execOp, q0_, q02_, e9, q12_]; try go_simp) ((shape_Push.calls B0 d0 [⟨2, ⟨0, 0⟩, 0⟩, ⟨1, ⟨0, 0⟩, 0⟩] B1 d1 [] B2 d2 [] 1 A9 c9 [⟨2, ⟨0, 0⟩, 0⟩] [⟨2, ⟨0, 0⟩, 0⟩, ⟨1, ⟨0, 0⟩, 0⟩] [⟨2, ⟨0, 0⟩, 0⟩] [] 0 w'' (H16.C 6 rfl) (H16.all 6 _ rfl).2.1 (H16.C 7 rfl) (H16.all 7 _ rfl).2.1 (H16.C 8 rfl) (H16.all 8 _ rfl).2.1 hC9 hl9 (by kernel_rfl)).mono ?_)
        rintro e w3 ⟨u0, u1, u2, rfl, x0, x1, x2, hb3⟩
        refine ⟨_, rfl, hb3, w''.heap.size, w3.heap.size, Nat.le_refl _, fun b hq => .inl (hp b hq), ?_⟩
        obtain ⟨E0, e0, rfl⟩ := Kd.R_slice x0
        obtain ⟨E1, e1, rfl⟩ := Kd.V_slice x1
        obtain ⟨E2, e2, rfl⟩ := Kd.R_slice x2
        exact ⟨E0, e0, E1, e1, E2, e2, rfl, (Kd.R_reads' x0).2.1, (Kd.V_reads' x1).2.1, (Kd.R_reads' x2).2.1, Kd.F_mono (Kd.V_F (Kd.R_V (e := 32) (base' := 0) (Kd.R_bound x0))) (fun k hk => ⟨hk.1, hk.2.2.1⟩), Kd.F_mono (Kd.V_F (Kd.V_bound x1)) (fun k hk => ⟨hk.1.1, hk.2⟩), Kd.F_mono (Kd.V_F (Kd.R_V (e := 3) (base' := 0) (Kd.R_bound x2))) (fun k hk => ⟨hk.1, hk.2.2.1⟩)⟩
      · intro a' w'' hf hb hp hd
        obtain ⟨M, M', h1, h2, E0, e0, E1, e1, E2, e2, q0_, hr⟩ : (TQ.made (shpT true) shpT_step : TQ w'.heap.size 25).p (a'.eval (.tmp 31)) (a'.eval (.tmp 6)) w'' := hd 3 (by decide)
        simp only [if_true] at q0_
        have q02_ : a'.tmps[31]?.getD undef = .tuple #[.agg #[.slice E0 2 e0, .slice E1 1 e1, .slice E2 0 e2], .int .i64 0] := by simpa [Act.eval] using q0_
        exact q_run (s := 27) (v := .tuple #[.agg #[.slice E0 2 e0, .slice E1 1 e1, .slice E2 0 e2], .int .i64 0]) rfl (size_lt hf (by kernel_rfl)) (by decide) (by decide) (by simp [execOp, q0_, q02_]; try go_simp) (Below.refl _ _) ⟨M, M', h1, h2, E0, e0, E1, e1, E2, e2, rfl, hr⟩
      · intro a' w'' hf hb hp hd
        obtain ⟨M, M', h1, h2, E0, e0, E1, e1, E2, e2, q0_, hr⟩ : (TQ.made (shpT true) shpT_step : TQ w'.heap.size 25).p (a'.eval (.tmp 27)) (a'.eval (.tmp 6)) w'' := hd 4 (by decide)
        simp only [if_true] at q0_
        have q02_ : a'.tmps[27]?.getD undef = .tuple #[.agg #[.slice E0 2 e0, .slice E1 1 e1, .slice E2 0 e2], .int .i64 0] := by simpa [Act.eval] using q0_
        exact q_run (s := 32) (v := .agg #[.slice E0 2 e0, .slice E1 1 e1, .slice E2 0 e2]) rfl (size_lt hf (by kernel_rfl)) (by decide) (by decide) (by simp [execOp, q0_, q02_]; try go_simp) (Below.refl _ _) ⟨M, M', h1, h2, E0, e0, E1, e1, E2, e2, rfl, hr⟩
      · intro a' w'' hf hb hp hd
        obtain ⟨M, M', h1, h2, E0, e0, E1, e1, E2, e2, q0_, hr⟩ : (TQ.made (shpT true) shpT_step : TQ w'.heap.size 25).p (a'.eval (.tmp 27)) (a'.eval (.tmp 6)) w'' := hd 4 (by decide)
        simp only [if_true] at q0_
        have q02_ : a'.tmps[27]?.getD undef = .tuple #[.agg #[.slice E0 2 e0, .slice E1 1 e1, .slice E2 0 e2], .int .i64 0] := by simpa [Act.eval] using q0_
        exact q_run (s := 33) (v := .int .i64 0) rfl (size_lt hf (by kernel_rfl)) (by decide) (by decide) (by simp [execOp, q0_, q02_]; try go_simp) (Below.refl _ _) rfl
      · intro a' w'' hf hb hp hd
        exact q_alloc (s := 6) (cs := #[.slice none 0 0, .slice none 0 0, .slice none 0 0]) rfl rfl (size_lt hf (by kernel_rfl)) hb.size (by go_simp)
      · intro a' w'' hf hb hp hd
        obtain ⟨b, q0_, hNb, hlt, cells, hcs, hblk⟩ : ∃ b, a'.eval (.tmp 6) = .pointer (some ⟨b, 0, none⟩) ∧ _ ≤ b ∧ b < w''.heap.size ∧ ∃ cells : Array Value, cells.size = 3 ∧ w''.heap[b]? = some (.cells cells 25 (0, 0)) := hd 7 (by decide)
        obtain ⟨M, M', h1, h2, E0, e0, E1, e1, E2, e2, q1_, l0, l1, l2, g0, g1, g2⟩ : (TQ.made (shpT false) shpT_step : TQ w'.heap.size 25).p (a'.eval (.tmp 32)) (a'.eval (.tmp 6)) w'' := hd 5 (by decide)
        simp only [Bool.false_eq_true, if_false] at q1_
        refine q_store (s := 6) rfl 25 (.tmp 6) (.tmp 32) rfl q0_ q0_ hNb hblk (.agg #[.slice E0 2 e0, .slice E1 1 e1, .slice E2 0 e2]) [.slice E0 2 e0, .slice E1 1 e1, .slice E2 0 e2] q1_ rfl (show _ = some 3 by kernel_rfl) rfl hcs.symm (fun w3 hst hnew => ?_)
        have hm : ∀ k, (M ≤ k ∧ k < M') → k < w''.heap.size → w3.heap[k]? = w''.heap[k]? := fun k hk _ => hst.far k (fun he => by have := h2 b q0_; omega)
        exact ⟨b, E0, e0, E1, e1, E2, e2, rfl, ⟨by rw [hst.size]; exact hlt, hnew⟩, ⟨rfl, l0, g0 _ hm⟩, ⟨rfl, l1, g1 _ hm⟩, ⟨rfl, l2, g2 _ hm⟩⟩
      · intro a' w'' hf hb hp hd
        have q0_ : a'.eval (.tmp 33) = .int .i64 0 := hd 6 (by decide)
        have q02_ : a'.tmps[33]?.getD undef = .int .i64 0 := by simpa [Act.eval] using q0_
        exact q_run (s := 7) (v := .int .i64 0) rfl (size_lt hf (by kernel_rfl)) (by decide) (by decide) (by simp [execOp, q0_, q02_]; try go_simp) (Below.refl _ _) rfl
    · intro a' w'' hf hb hd
      have ha := act_of_frame2 hf [28, 29, 30, 31, 27, 32, 33, 6, 7] (by kernel_rfl) (by kernel_rfl)
      have e28 : a'.eval (.tmp 28) = _ := hd 0 (by decide)
      have e29 : a'.eval (.tmp 29) = _ := hd 1 (by decide)
      have e33 : a'.eval (.tmp 33) = _ := hd 6 (by decide)
      obtain ⟨b6, E0, e0, E1, e1, E2, e2, e6, m0, m1, m2, m3⟩ : shpB.p (a'.eval (.tmp 6)) w'' := hd 8 (by decide)
      have e7 : a'.eval (.tmp 7) = _ := hd 9 (by decide)
      simp only [List.foldl_cons, List.foldl_nil, List.setIfInBounds_toArray, List.set_cons_succ, List.set_cons_zero, e28, e29, e33, e6, e7] at ha
      generalize a'.eval (.tmp 30) = X30 at ha
      generalize a'.eval (.tmp 31) = X31 at ha
      generalize a'.eval (.tmp 27) = X27 at ha
      generalize a'.eval (.tmp 32) = X32 at ha
      have H16 := ((((H15.step hb).add _ m0).add _ m1).add _ m2).add _ m3
      simp only [List.nil_append, List.cons_append] at H16
      have H17 := Aside0.mk H16
      clear hf hd e28 e29 e33 e6 e7 H14 H15 H16 hb HN2 m0 m1 m2 m3
      subst ha
      obtain ⟨k0, k1, k2⟩ := blk25 (H17.out.B 10 rfl)
      go_wp2_with fail
      refine (shape_Get.calls E0 e0 [⟨2, ⟨0, 0⟩, 0⟩, ⟨1, ⟨0, 0⟩, 0⟩] E1 e1 [⟨2, ⟨0, 0⟩, 0⟩] E2 e2 [] 1 1 0 0 0 0 _ (H17.out.C 11 rfl) (H17.out.all 11 _ rfl).2.1 (H17.out.C 12 rfl) (H17.out.all 12 _ rfl).2.1 (H17.out.C 13 rfl) (H17.out.all 13 _ rfl).2.1 (by kernel_rfl)).mono ?_
      rintro e w5 ⟨rfl, hb5⟩
      have H18 := Aside0.mk ((H17.out.step hb5).allocB [.int .u8 1, .int .u8 0, .int .u16 0, .int .i64 0] 32)
      clear H17 k0 k1 k2 hb5
      obtain ⟨k0, k1, k2⟩ := blk25 (H18.out.B 10 rfl)
      go_wp2_with fail
      refine (shape_Get.calls E0 e0 [⟨2, ⟨0, 0⟩, 0⟩, ⟨1, ⟨0, 0⟩, 0⟩] E1 e1 [⟨2, ⟨0, 0⟩, 0⟩] E2 e2 [] 2 0 0 0 0 9 _ (H18.out.C 11 rfl) (H18.out.all 11 _ rfl).2.1 (H18.out.C 12 rfl) (H18.out.all 12 _ rfl).2.1 (H18.out.C 13 rfl) (H18.out.all 13 _ rfl).2.1 (by kernel_rfl)).mono ?_
      rintro e w6 ⟨rfl, hb6⟩
      have H19 := Aside0.mk ((H18.out.step hb6).allocB [.int .u8 0, .int .u8 0, .int .u16 0, .int .i64 0] 32)
      simp only [List.nil_append, List.cons_append] at H19
      clear H18 k0 k1 k2 hb6
      go_wp2_with fail
      have HF := Aside0.mk H19.out.below
      obtain ⟨W, hW⟩ : ∃ W, W = w6.alloc (.cells #[.int .u8 0, .int .u8 0, .int .u16 0, .int .i64 0] 32) := ⟨_, rfl⟩
      have B3 := Aside0.mk (H19.out.B 9 rfl)
      have B6 := Aside0.mk (H19.out.B 10 rfl)
      have B8 := Aside0.mk (H19.out.B 14 rfl)
      clear H19
      rw [← hW] at B3 B6 B8 HF ⊢
      clear hW
      have f30 : ∀ p : GrownOf W, p.w.cell? ⟨w2.heap.size, 0, none⟩ = some (.slice B0 2 d0) := fun p => blk_cell (p.block B3.out) 0
      have f61 : ∀ p : GrownOf W, p.w.cell? ⟨b6, 1, none⟩ = some (.slice E1 1 e1) := fun p => blk_cell (p.block B6.out) 1
      have f80 : ∀ p : GrownOf W, p.w.cell? ⟨w5.heap.size, 0, none⟩ = some (.int .u8 1) := fun p => blk_cell (p.block B8.out) 0
      have f81 : ∀ p : GrownOf W, p.w.cell? ⟨w5.heap.size, 1, none⟩ = some (.int .u8 0) := fun p => blk_cell (p.block B8.out) 1
      have f82 : ∀ p : GrownOf W, p.w.cell? ⟨w5.heap.size, 2, none⟩ = some (.int .u16 0) := fun p => blk_cell (p.block B8.out) 2
      have f83 : ∀ p : GrownOf W, p.w.cell? ⟨w5.heap.size, 3, none⟩ = some (.int .i64 0) := fun p => blk_cell (p.block B8.out) 3
      clear B3 B6 B8
      refine wp_region_grown rfl (by kernel_rfl) ?_
      repeat (quiet_step ((go_at_call 20; exact calls_grown _ (garderoberef16_None.calls 1 0 0 0 _ rfl))))
      refine wpQuiet_nil ?_
      rintro _ ⟨p, rfl⟩
      have hfin := HF.out.trans (p.h.mono HF.out.size)
      go_wp2
      go_ret
      exact ⟨rfl, hfin⟩
def garderobelaw17_lives.f : Option (Bool) := some true
theorem garderobelaw17_lives.calls  (r : Bool) (w : World) (h : garderobelaw17_lives.f  = some r) :
    Calls Try.prog 10 #[] w fun e w' => e = .returned (.bool r) ∧ Below w.heap.size w w' := by
  obtain rfl := Option.some.inj h
  exact lives17_any w
end Go.Proofs.Ytocdpledkmmomaa.P
