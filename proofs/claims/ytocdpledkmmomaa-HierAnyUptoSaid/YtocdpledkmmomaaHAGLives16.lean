import Derived.Test.YtocdpledkmmomaaHAPxFits
import Derived.Test.YtocdpledkmmomaaHAPx7
import Derived.Test.YtocdpledkmmomaaHAGWorld
import Derived.Test.YtocdpledkmmomaaHAHold
import Derived.Test.YtocdpledkmmomaaHARegTold2
namespace Go.Proofs.Ytocdpledkmmomaa.P
open Go.RowKit Go.Proofs.YtocdpledkmmomaaW.PrintWords Go.Proofs.YtocdpledkmmomaaW.PrintLast Go.Proofs.YtocdpledkmmomaaW.PrintMore
set_option linter.unusedVariables false
set_option linter.unusedSimpArgs false
attribute [local go_sem high] eqA32
def varB (cs : List Value) : Told := ⟨fun v w => ∃ b, v = .pointer (some ⟨b, 0, none⟩) ∧ (mB b 32 cs).p w, by
  rintro v w w' hb ⟨b, hv, h0⟩
  exact ⟨b, hv, MonoP.mono _ _ _ hb h0⟩⟩
theorem l16_pure {W1 : List S110} {W2 : List S86} {W3 : List S185} {W4 : List S124} (hw : garderoberef12_World.f = some (W1, W2, W3, W4)) :
    vals_Join.f 20 W1 W2 W3 W4 3 0 0 0 4 6 0 0 = some (4, 6, 0, 0) ∧ vals_Join.f 20 W1 W2 W3 W4 4 4 2 0 4 4 11 0 = some (4, 4, 1, 0) ∧ vals_Join.f 20 W1 W2 W3 W4 2 0 0 0 3 0 0 0 = some (1, 0, 0, 0) ∧ vals_Fits.f 20 W1 W2 W3 W4 4 4 11 0 4 1 = some true := by
  have h1 : (garderoberef12_World.f.bind fun r => vals_Join.f 20 r.1 r.2.1 r.2.2.1 r.2.2.2 3 0 0 0 4 6 0 0) = some (4, 6, 0, 0) := by kernel_rfl
  have h2 : (garderoberef12_World.f.bind fun r => vals_Join.f 20 r.1 r.2.1 r.2.2.1 r.2.2.2 4 4 2 0 4 4 11 0) = some (4, 4, 1, 0) := by kernel_rfl
  have h3 : (garderoberef12_World.f.bind fun r => vals_Join.f 20 r.1 r.2.1 r.2.2.1 r.2.2.2 2 0 0 0 3 0 0 0) = some (1, 0, 0, 0) := by kernel_rfl
  have h4 : (garderoberef12_World.f.bind fun r => vals_Fits.f 20 r.1 r.2.1 r.2.2.1 r.2.2.2 4 4 11 0 4 1) = some true := by kernel_rfl
  rw [hw] at h1 h2 h3 h4
  exact ⟨h1, h2, h3, h4⟩
set_option maxHeartbeats 4000000 in
set_option maxRecDepth 100000 in
theorem lives16_any (w : World) : Calls Try.prog 21 #[] w fun e w' => e = .returned (.bool true) ∧ Below w.heap.size w w' := by
  have hu54 := Try.underlying54
  have hu32 := Try.underlying32
  have hu30 := Try.underlying30
  obtain ⟨W1, W2, W3, W4, hw⟩ : ∃ a b c d, garderoberef12_World.f = some (a, b, c, d) := ⟨_, _, _, _, rfl⟩
  have HP := Aside0.mk (l16_pure hw)
  have HW := Aside0.mk hw
  clear hw
  go_enter Try.func21, Try.ntmps21
  go_wp2_with fail
  refine (garderoberef12_World.calls W1 W2 W3 W4 _ HW.out).mono ?_
  rintro e w1 ⟨v0, v1, v2, v3, rfl, h0, h1, h2, h3, hb⟩
  have H0 := (Hold.nil w).step hb
  obtain ⟨A0, c0, rfl, H1⟩ := H0.addR h0
  obtain ⟨A1, c1, rfl, H2⟩ := H1.addR h1
  obtain ⟨A2, c2, rfl, H3⟩ := H2.addR h2
  obtain ⟨A3, c3, rfl, H4⟩ := H3.addR h3
  simp only [List.nil_append, List.cons_append] at H4
  clear H0 H1 H2 H3 h0 h1 h2 h3 hb
  have H5 := H4.allocB [.slice A0 W1.length c0, .slice A1 W2.length c1, .slice A2 W3.length c2, .slice A3 W4.length c3] 54
  simp only [List.nil_append, List.cons_append] at H5
  have H := Aside0.mk H5
  clear H4 H5
  go_wp2_with fail
  have HN_ : w.heap.size ≤ (w1.alloc (.cells #[.slice A0 W1.length c0, .slice A1 W2.length c1, .slice A2 W3.length c2, .slice A3 W4.length c3] 54)).heap.size := by simpa using H.out.below.size
  have HH := H.out
  refine wp_region_toldQ 32 2 4 5 [TQ.val (.agg #[.slice A0 W1.length c0, .slice A1 W2.length c1, .slice A2 W3.length c2, .slice A3 W4.length c3]), TQ.val (.agg #[.int .u8 3, .int .u8 0, .int .u16 0, .int .i64 0]), TQ.val (.agg #[.int .u8 4, .int .u8 6, .int .u16 0, .int .i64 0]), TQ.val (.agg #[.int .u8 4, .int .u8 6, .int .u16 0, .int .i64 0]), TQ.ptr 4, TQ.of (varB [.int .u8 4, .int .u8 6, .int .u16 0, .int .i64 0])] [6, 7, 8, 9, 2, 2] rfl rfl (by kernel_rfl) (by kernel_rfl) (fun b hb => by cases hb) ⟨fun _ => far_valq _, fun _ => far_valq _, fun _ => far_valq _, fun _ => far_valq _, fun _ => far_ptrq, fun h => absurd rfl h, trivial⟩ ?_ ?_
  · refine ⟨?_, ?_, ?_, ?_, ?_, ?_, trivial⟩
    · intro a' w' hf hb hp hd
      have p0_ := frame_at2 hf 1 (.pointer (some ⟨w1.heap.size, 0, none⟩)) (by kernel_rfl) rfl
      have p02_ : a'.tmps[1]?.getD undef = .pointer (some ⟨w1.heap.size, 0, none⟩) := by simpa [Act.eval] using p0_
      obtain ⟨c0_, c1_, c2_, c3_⟩ := blk54 ((HH.step hb).B 4 rfl)
      exact q_run (s := 6) (v := .agg #[.slice A0 W1.length c0, .slice A1 W2.length c1, .slice A2 W3.length c2, .slice A3 W4.length c3]) rfl (size_lt hf (by kernel_rfl)) (by decide) (by decide) (by simp [execOp, p0_, p02_]; try go_simp) (Below.refl _ _) rfl
    · intro a' w' hf hb hp hd
      refine q_call (s := 7) rfl (size_lt hf (by kernel_rfl)) (by decide) (by decide) (by go_simp) ((garderoberef16_Null.calls 3 0 0 0 w' rfl).mono ?_)
      rintro e w3 ⟨rfl, hb3⟩
      exact ⟨_, rfl, hb3, rfl⟩
    · intro a' w' hf hb hp hd
      refine q_call (s := 8) rfl (size_lt hf (by kernel_rfl)) (by decide) (by decide) (by go_simp) ((garderoberef16_Ref.calls 6 0 4 6 0 0 w' rfl).mono ?_)
      rintro e w3 ⟨rfl, hb3⟩
      exact ⟨_, rfl, hb3, rfl⟩
    · intro a' w' hf hb hp hd
      have q0_ : a'.eval (.tmp 6) = .agg #[.slice A0 W1.length c0, .slice A1 W2.length c1, .slice A2 W3.length c2, .slice A3 W4.length c3] := hd 0 (by decide)
      have q1_ : a'.eval (.tmp 7) = .agg #[.int .u8 3, .int .u8 0, .int .u16 0, .int .i64 0] := hd 1 (by decide)
      have q2_ : a'.eval (.tmp 8) = .agg #[.int .u8 4, .int .u8 6, .int .u16 0, .int .i64 0] := hd 2 (by decide)
      have q02_ : a'.tmps[6]?.getD undef = .agg #[.slice A0 W1.length c0, .slice A1 W2.length c1, .slice A2 W3.length c2, .slice A3 W4.length c3] := by simpa [Act.eval] using q0_
      have q12_ : a'.tmps[7]?.getD undef = .agg #[.int .u8 3, .int .u8 0, .int .u16 0, .int .i64 0] := by simpa [Act.eval] using q1_
      have q22_ : a'.tmps[8]?.getD undef = .agg #[.int .u8 4, .int .u8 6, .int .u16 0, .int .i64 0] := by simpa [Act.eval] using q2_
      have H13 := HH.step hb
      refine q_call (s := 9) rfl (size_lt hf (by kernel_rfl)) (by decide) (by decide) (by simp [execOp, q0_, q02_, q1_, q12_, q2_, q22_]; try go_simp) ((vals_Join.calls 20 A0 c0 W1 A1 c1 W2 A2 c2 W3 A3 c3 W4 3 0 0 0 4 6 0 0 4 6 0 0 w' (H13.C 0 rfl) (H13.all 0 _ rfl).2.1 (H13.C 1 rfl) (H13.all 1 _ rfl).2.1 (H13.C 2 rfl) (H13.all 2 _ rfl).2.1 (H13.C 3 rfl) (H13.all 3 _ rfl).2.1 HP.out.1).mono ?_)
      rintro e w3 ⟨rfl, hb3⟩
      exact ⟨_, rfl, hb3, rfl⟩
    · intro a' w' hf hb hp hd
      exact q_alloc (s := 2) (cs := #[.int .u8 0, .int .u8 0, .int .u16 0, .int .i64 0]) rfl rfl (size_lt hf (by kernel_rfl)) hb.size (by go_simp)
    · intro a' w' hf hb hp hd
      obtain ⟨b, q0_, hNb, hlt, cells, hcs, hblk⟩ : ∃ b, a'.eval (.tmp 2) = .pointer (some ⟨b, 0, none⟩) ∧ _ ≤ b ∧ b < w'.heap.size ∧ ∃ cells : Array Value, cells.size = 4 ∧ w'.heap[b]? = some (.cells cells 32 (0, 0)) := hd 4 (by decide)
      have q1_ : a'.eval (.tmp 9) = .agg #[.int .u8 4, .int .u8 6, .int .u16 0, .int .i64 0] := hd 3 (by decide)
      exact q_store (s := 2) rfl 32 (.tmp 2) (.tmp 9) rfl q0_ q0_ hNb hblk (.agg #[.int .u8 4, .int .u8 6, .int .u16 0, .int .i64 0]) [.int .u8 4, .int .u8 6, .int .u16 0, .int .i64 0] q1_ rfl (show _ = some 4 by kernel_rfl) rfl hcs.symm (fun w'' hst hnew => ⟨b, rfl, by rw [hst.size]; exact hlt, hnew⟩)
  intro a' w2 hf hb hd
  have ha := act_of_frame2 hf [6, 7, 8, 9, 2] (by kernel_rfl) (by kernel_rfl)
  have e0_ : a'.eval (.tmp 6) = _ := hd 0 (by decide)
  have e1_ : a'.eval (.tmp 7) = _ := hd 1 (by decide)
  have e2_ : a'.eval (.tmp 8) = _ := hd 2 (by decide)
  have e3_ : a'.eval (.tmp 9) = _ := hd 3 (by decide)
  obtain ⟨b2, e4_, m_⟩ : (varB [.int .u8 4, .int .u8 6, .int .u16 0, .int .i64 0]).p (a'.eval (.tmp 2)) w2 := hd 5 (by decide)
  simp only [List.foldl_cons, List.foldl_nil, List.setIfInBounds_toArray, List.set_cons_succ, List.set_cons_zero, e0_, e1_, e2_, e3_, e4_] at ha
  have H16 := (HH.step hb).add _ m_
  simp only [List.nil_append, List.cons_append] at H16
  clear hf hd e0_ e1_ e2_ e3_ e4_ m_ hb HH H HN_
  have H := Aside0.mk H16
  clear H16
  subst ha
  go_wp2_with fail
  have HN_ : w.heap.size ≤ w2.heap.size := by simpa using H.out.below.size
  have HH := H.out
  refine wp_region_toldQ 32 3 4 5 [TQ.val (.agg #[.slice A0 W1.length c0, .slice A1 W2.length c1, .slice A2 W3.length c2, .slice A3 W4.length c3]), TQ.val (.agg #[.int .u8 4, .int .u8 4, .int .u16 2, .int .i64 0]), TQ.val (.agg #[.int .u8 4, .int .u8 4, .int .u16 11, .int .i64 0]), TQ.val (.agg #[.int .u8 4, .int .u8 4, .int .u16 1, .int .i64 0]), TQ.ptr 4, TQ.of (varB [.int .u8 4, .int .u8 4, .int .u16 1, .int .i64 0])] [10, 11, 12, 13, 3, 3] rfl rfl (by kernel_rfl) (by kernel_rfl) (fun b hb => by cases hb) ⟨fun _ => far_valq _, fun _ => far_valq _, fun _ => far_valq _, fun _ => far_valq _, fun _ => far_ptrq, fun h => absurd rfl h, trivial⟩ ?_ ?_
  · refine ⟨?_, ?_, ?_, ?_, ?_, ?_, trivial⟩
    · intro a' w' hf hb hp hd
      have p0_ := frame_at2 hf 1 (.pointer (some ⟨w1.heap.size, 0, none⟩)) (by kernel_rfl) rfl
      have p02_ : a'.tmps[1]?.getD undef = .pointer (some ⟨w1.heap.size, 0, none⟩) := by simpa [Act.eval] using p0_
      obtain ⟨c0_, c1_, c2_, c3_⟩ := blk54 ((HH.step hb).B 4 rfl)
      exact q_run (s := 10) (v := .agg #[.slice A0 W1.length c0, .slice A1 W2.length c1, .slice A2 W3.length c2, .slice A3 W4.length c3]) rfl (size_lt hf (by kernel_rfl)) (by decide) (by decide) (by simp [execOp, p0_, p02_]; try go_simp) (Below.refl _ _) rfl
    · intro a' w' hf hb hp hd
      refine q_call (s := 11) rfl (size_lt hf (by kernel_rfl)) (by decide) (by decide) (by go_simp) ((garderoberef16_Ref.calls 4 2 4 4 2 0 w' rfl).mono ?_)
      rintro e w3 ⟨rfl, hb3⟩
      exact ⟨_, rfl, hb3, rfl⟩
    · intro a' w' hf hb hp hd
      refine q_call (s := 12) rfl (size_lt hf (by kernel_rfl)) (by decide) (by decide) (by go_simp) ((garderoberef16_Ref.calls 4 11 4 4 11 0 w' rfl).mono ?_)
      rintro e w3 ⟨rfl, hb3⟩
      exact ⟨_, rfl, hb3, rfl⟩
    · intro a' w' hf hb hp hd
      have q0_ : a'.eval (.tmp 10) = .agg #[.slice A0 W1.length c0, .slice A1 W2.length c1, .slice A2 W3.length c2, .slice A3 W4.length c3] := hd 0 (by decide)
      have q1_ : a'.eval (.tmp 11) = .agg #[.int .u8 4, .int .u8 4, .int .u16 2, .int .i64 0] := hd 1 (by decide)
      have q2_ : a'.eval (.tmp 12) = .agg #[.int .u8 4, .int .u8 4, .int .u16 11, .int .i64 0] := hd 2 (by decide)
      have q02_ : a'.tmps[10]?.getD undef = .agg #[.slice A0 W1.length c0, .slice A1 W2.length c1, .slice A2 W3.length c2, .slice A3 W4.length c3] := by simpa [Act.eval] using q0_
      have q12_ : a'.tmps[11]?.getD undef = .agg #[.int .u8 4, .int .u8 4, .int .u16 2, .int .i64 0] := by simpa [Act.eval] using q1_
      have q22_ : a'.tmps[12]?.getD undef = .agg #[.int .u8 4, .int .u8 4, .int .u16 11, .int .i64 0] := by simpa [Act.eval] using q2_
      have H13 := HH.step hb
      refine q_call (s := 13) rfl (size_lt hf (by kernel_rfl)) (by decide) (by decide) (by simp [execOp, q0_, q02_, q1_, q12_, q2_, q22_]; try go_simp) ((vals_Join.calls 20 A0 c0 W1 A1 c1 W2 A2 c2 W3 A3 c3 W4 4 4 2 0 4 4 11 0 4 4 1 0 w' (H13.C 0 rfl) (H13.all 0 _ rfl).2.1 (H13.C 1 rfl) (H13.all 1 _ rfl).2.1 (H13.C 2 rfl) (H13.all 2 _ rfl).2.1 (H13.C 3 rfl) (H13.all 3 _ rfl).2.1 HP.out.2.1).mono ?_)
      rintro e w3 ⟨rfl, hb3⟩
      exact ⟨_, rfl, hb3, rfl⟩
    · intro a' w' hf hb hp hd
      exact q_alloc (s := 3) (cs := #[.int .u8 0, .int .u8 0, .int .u16 0, .int .i64 0]) rfl rfl (size_lt hf (by kernel_rfl)) hb.size (by go_simp)
    · intro a' w' hf hb hp hd
      obtain ⟨b, q0_, hNb, hlt, cells, hcs, hblk⟩ : ∃ b, a'.eval (.tmp 3) = .pointer (some ⟨b, 0, none⟩) ∧ _ ≤ b ∧ b < w'.heap.size ∧ ∃ cells : Array Value, cells.size = 4 ∧ w'.heap[b]? = some (.cells cells 32 (0, 0)) := hd 4 (by decide)
      have q1_ : a'.eval (.tmp 13) = .agg #[.int .u8 4, .int .u8 4, .int .u16 1, .int .i64 0] := hd 3 (by decide)
      exact q_store (s := 3) rfl 32 (.tmp 3) (.tmp 13) rfl q0_ q0_ hNb hblk (.agg #[.int .u8 4, .int .u8 4, .int .u16 1, .int .i64 0]) [.int .u8 4, .int .u8 4, .int .u16 1, .int .i64 0] q1_ rfl (show _ = some 4 by kernel_rfl) rfl hcs.symm (fun w'' hst hnew => ⟨b, rfl, by rw [hst.size]; exact hlt, hnew⟩)
  intro a' w3 hf hb hd
  have ha := act_of_frame2 hf [10, 11, 12, 13, 3] (by kernel_rfl) (by kernel_rfl)
  have e0_ : a'.eval (.tmp 10) = _ := hd 0 (by decide)
  have e1_ : a'.eval (.tmp 11) = _ := hd 1 (by decide)
  have e2_ : a'.eval (.tmp 12) = _ := hd 2 (by decide)
  have e3_ : a'.eval (.tmp 13) = _ := hd 3 (by decide)
  obtain ⟨b3, e4_, m_⟩ : (varB [.int .u8 4, .int .u8 4, .int .u16 1, .int .i64 0]).p (a'.eval (.tmp 3)) w3 := hd 5 (by decide)
  simp only [List.foldl_cons, List.foldl_nil, List.setIfInBounds_toArray, List.set_cons_succ, List.set_cons_zero, e0_, e1_, e2_, e3_, e4_] at ha
  have H16 := (HH.step hb).add _ m_
  simp only [List.nil_append, List.cons_append] at H16
  clear hf hd e0_ e1_ e2_ e3_ e4_ m_ hb HH H HN_
  have H := Aside0.mk H16
  clear H16
  subst ha
  go_wp2_with fail
  have HN_ : w.heap.size ≤ w3.heap.size := by simpa using H.out.below.size
  have HH := H.out
  refine wp_region_toldQ 32 4 4 5 [TQ.val (.agg #[.slice A0 W1.length c0, .slice A1 W2.length c1, .slice A2 W3.length c2, .slice A3 W4.length c3]), TQ.val (.agg #[.int .u8 2, .int .u8 0, .int .u16 0, .int .i64 0]), TQ.val (.agg #[.int .u8 3, .int .u8 0, .int .u16 0, .int .i64 0]), TQ.val (.agg #[.int .u8 1, .int .u8 0, .int .u16 0, .int .i64 0]), TQ.ptr 4, TQ.of (varB [.int .u8 1, .int .u8 0, .int .u16 0, .int .i64 0])] [14, 15, 16, 17, 4, 4] rfl rfl (by kernel_rfl) (by kernel_rfl) (fun b hb => by cases hb) ⟨fun _ => far_valq _, fun _ => far_valq _, fun _ => far_valq _, fun _ => far_valq _, fun _ => far_ptrq, fun h => absurd rfl h, trivial⟩ ?_ ?_
  · refine ⟨?_, ?_, ?_, ?_, ?_, ?_, trivial⟩
    · intro a' w' hf hb hp hd
      have p0_ := frame_at2 hf 1 (.pointer (some ⟨w1.heap.size, 0, none⟩)) (by kernel_rfl) rfl
      have p02_ : a'.tmps[1]?.getD undef = .pointer (some ⟨w1.heap.size, 0, none⟩) := by simpa [Act.eval] using p0_
      obtain ⟨c0_, c1_, c2_, c3_⟩ := blk54 ((HH.step hb).B 4 rfl)
      exact q_run (s := 14) (v := .agg #[.slice A0 W1.length c0, .slice A1 W2.length c1, .slice A2 W3.length c2, .slice A3 W4.length c3]) rfl (size_lt hf (by kernel_rfl)) (by decide) (by decide) (by simp [execOp, p0_, p02_]; try go_simp) (Below.refl _ _) rfl
    · intro a' w' hf hb hp hd
      refine q_call (s := 15) rfl (size_lt hf (by kernel_rfl)) (by decide) (by decide) (by go_simp) ((garderoberef16_Num.calls 2 0 0 0 w' rfl).mono ?_)
      rintro e w3 ⟨rfl, hb3⟩
      exact ⟨_, rfl, hb3, rfl⟩
    · intro a' w' hf hb hp hd
      refine q_call (s := 16) rfl (size_lt hf (by kernel_rfl)) (by decide) (by decide) (by go_simp) ((garderoberef16_Null.calls 3 0 0 0 w' rfl).mono ?_)
      rintro e w3 ⟨rfl, hb3⟩
      exact ⟨_, rfl, hb3, rfl⟩
    · intro a' w' hf hb hp hd
      have q0_ : a'.eval (.tmp 14) = .agg #[.slice A0 W1.length c0, .slice A1 W2.length c1, .slice A2 W3.length c2, .slice A3 W4.length c3] := hd 0 (by decide)
      have q1_ : a'.eval (.tmp 15) = .agg #[.int .u8 2, .int .u8 0, .int .u16 0, .int .i64 0] := hd 1 (by decide)
      have q2_ : a'.eval (.tmp 16) = .agg #[.int .u8 3, .int .u8 0, .int .u16 0, .int .i64 0] := hd 2 (by decide)
      have q02_ : a'.tmps[14]?.getD undef = .agg #[.slice A0 W1.length c0, .slice A1 W2.length c1, .slice A2 W3.length c2, .slice A3 W4.length c3] := by simpa [Act.eval] using q0_
      have q12_ : a'.tmps[15]?.getD undef = .agg #[.int .u8 2, .int .u8 0, .int .u16 0, .int .i64 0] := by simpa [Act.eval] using q1_
      have q22_ : a'.tmps[16]?.getD undef = .agg #[.int .u8 3, .int .u8 0, .int .u16 0, .int .i64 0] := by simpa [Act.eval] using q2_
      have H13 := HH.step hb
      refine q_call (s := 17) rfl (size_lt hf (by kernel_rfl)) (by decide) (by decide) (by simp [execOp, q0_, q02_, q1_, q12_, q2_, q22_]; try go_simp) ((vals_Join.calls 20 A0 c0 W1 A1 c1 W2 A2 c2 W3 A3 c3 W4 2 0 0 0 3 0 0 0 1 0 0 0 w' (H13.C 0 rfl) (H13.all 0 _ rfl).2.1 (H13.C 1 rfl) (H13.all 1 _ rfl).2.1 (H13.C 2 rfl) (H13.all 2 _ rfl).2.1 (H13.C 3 rfl) (H13.all 3 _ rfl).2.1 HP.out.2.2.1).mono ?_)
      rintro e w3 ⟨rfl, hb3⟩
      exact ⟨_, rfl, hb3, rfl⟩
    · intro a' w' hf hb hp hd
      exact q_alloc (s := 4) (cs := #[.int .u8 0, .int .u8 0, .int .u16 0, .int .i64 0]) rfl rfl (size_lt hf (by kernel_rfl)) hb.size (by go_simp)
    · intro a' w' hf hb hp hd
      obtain ⟨b, q0_, hNb, hlt, cells, hcs, hblk⟩ : ∃ b, a'.eval (.tmp 4) = .pointer (some ⟨b, 0, none⟩) ∧ _ ≤ b ∧ b < w'.heap.size ∧ ∃ cells : Array Value, cells.size = 4 ∧ w'.heap[b]? = some (.cells cells 32 (0, 0)) := hd 4 (by decide)
      have q1_ : a'.eval (.tmp 17) = .agg #[.int .u8 1, .int .u8 0, .int .u16 0, .int .i64 0] := hd 3 (by decide)
      exact q_store (s := 4) rfl 32 (.tmp 4) (.tmp 17) rfl q0_ q0_ hNb hblk (.agg #[.int .u8 1, .int .u8 0, .int .u16 0, .int .i64 0]) [.int .u8 1, .int .u8 0, .int .u16 0, .int .i64 0] q1_ rfl (show _ = some 4 by kernel_rfl) rfl hcs.symm (fun w'' hst hnew => ⟨b, rfl, by rw [hst.size]; exact hlt, hnew⟩)
  intro a' w4 hf hb hd
  have ha := act_of_frame2 hf [14, 15, 16, 17, 4] (by kernel_rfl) (by kernel_rfl)
  have e0_ : a'.eval (.tmp 14) = _ := hd 0 (by decide)
  have e1_ : a'.eval (.tmp 15) = _ := hd 1 (by decide)
  have e2_ : a'.eval (.tmp 16) = _ := hd 2 (by decide)
  have e3_ : a'.eval (.tmp 17) = _ := hd 3 (by decide)
  obtain ⟨b4, e4_, m_⟩ : (varB [.int .u8 1, .int .u8 0, .int .u16 0, .int .i64 0]).p (a'.eval (.tmp 4)) w4 := hd 5 (by decide)
  simp only [List.foldl_cons, List.foldl_nil, List.setIfInBounds_toArray, List.set_cons_succ, List.set_cons_zero, e0_, e1_, e2_, e3_, e4_] at ha
  have H16 := (HH.step hb).add _ m_
  simp only [List.nil_append, List.cons_append] at H16
  clear hf hd e0_ e1_ e2_ e3_ e4_ m_ hb HH H HN_
  have H := Aside0.mk H16
  clear H16
  subst ha
  go_wp2_with fail
  have HF := Aside0.mk H.out.below
  have HC := Aside0.mk (fun p : GrownOf w4 => Hold.step H.out p.h)
  have f50 : ∀ p : GrownOf w4, p.w.cell? ⟨b2, 0, none⟩ = some (.int .u8 4) := fun p => blk_cell ((HC.out p).B 5 rfl) 0
  have f51 : ∀ p : GrownOf w4, p.w.cell? ⟨b2, 1, none⟩ = some (.int .u8 6) := fun p => blk_cell ((HC.out p).B 5 rfl) 1
  have f52 : ∀ p : GrownOf w4, p.w.cell? ⟨b2, 2, none⟩ = some (.int .u16 0) := fun p => blk_cell ((HC.out p).B 5 rfl) 2
  have f53 : ∀ p : GrownOf w4, p.w.cell? ⟨b2, 3, none⟩ = some (.int .i64 0) := fun p => blk_cell ((HC.out p).B 5 rfl) 3
  have f60 : ∀ p : GrownOf w4, p.w.cell? ⟨b3, 0, none⟩ = some (.int .u8 4) := fun p => blk_cell ((HC.out p).B 6 rfl) 0
  have f61 : ∀ p : GrownOf w4, p.w.cell? ⟨b3, 1, none⟩ = some (.int .u8 4) := fun p => blk_cell ((HC.out p).B 6 rfl) 1
  have f62 : ∀ p : GrownOf w4, p.w.cell? ⟨b3, 2, none⟩ = some (.int .u16 1) := fun p => blk_cell ((HC.out p).B 6 rfl) 2
  have f63 : ∀ p : GrownOf w4, p.w.cell? ⟨b3, 3, none⟩ = some (.int .i64 0) := fun p => blk_cell ((HC.out p).B 6 rfl) 3
  have f70 : ∀ p : GrownOf w4, p.w.cell? ⟨b4, 0, none⟩ = some (.int .u8 1) := fun p => blk_cell ((HC.out p).B 7 rfl) 0
  have f71 : ∀ p : GrownOf w4, p.w.cell? ⟨b4, 1, none⟩ = some (.int .u8 0) := fun p => blk_cell ((HC.out p).B 7 rfl) 1
  have f72 : ∀ p : GrownOf w4, p.w.cell? ⟨b4, 2, none⟩ = some (.int .u16 0) := fun p => blk_cell ((HC.out p).B 7 rfl) 2
  have f73 : ∀ p : GrownOf w4, p.w.cell? ⟨b4, 3, none⟩ = some (.int .i64 0) := fun p => blk_cell ((HC.out p).B 7 rfl) 3
  have g0 : ∀ p : GrownOf w4, p.w.cell? ⟨w1.heap.size, 0, none⟩ = some (.slice A0 W1.length c0) := fun p => blk_cell ((HC.out p).B 4 rfl) 0
  have g1 : ∀ p : GrownOf w4, p.w.cell? ⟨w1.heap.size, 1, none⟩ = some (.slice A1 W2.length c1) := fun p => blk_cell ((HC.out p).B 4 rfl) 1
  have g2 : ∀ p : GrownOf w4, p.w.cell? ⟨w1.heap.size, 2, none⟩ = some (.slice A2 W3.length c2) := fun p => blk_cell ((HC.out p).B 4 rfl) 2
  have g3 : ∀ p : GrownOf w4, p.w.cell? ⟨w1.heap.size, 3, none⟩ = some (.slice A3 W4.length c3) := fun p => blk_cell ((HC.out p).B 4 rfl) 3
  have HFI := Aside0.mk (fun p : GrownOf w4 => calls_grown p (vals_Fits.calls 20 A0 c0 W1 A1 c1 W2 A2 c2 W3 A3 c3 W4 4 4 11 0 4 1 true p.w ((HC.out p).C 0 rfl) ((HC.out p).all 0 _ rfl).2.1 ((HC.out p).C 1 rfl) ((HC.out p).all 1 _ rfl).2.1 ((HC.out p).C 2 rfl) ((HC.out p).all 2 _ rfl).2.1 ((HC.out p).C 3 rfl) ((HC.out p).all 3 _ rfl).2.1 HP.out.2.2.2))
  clear H
  refine wp_region_grown rfl (by kernel_rfl) ?_
  iterate 1 (quiet_step (fail))
  quiet_step ((go_at_call 47; exact calls_grown _ (garderoberef16_Ref.calls 6 0 4 6 0 0 _ rfl)))
  iterate 3 (quiet_step (fail))
  quiet_step ((go_at_call 47; exact calls_grown _ (garderoberef16_Ref.calls 4 1 4 4 1 0 _ rfl)))
  iterate 4 (quiet_step (fail))
  quiet_step ((go_at_call 20; exact calls_grown _ (garderoberef16_None.calls 1 0 0 0 _ rfl)))
  iterate 4 (quiet_step (fail))
  quiet_step ((go_at_call 47; exact calls_grown _ (garderoberef16_Ref.calls 4 11 4 4 11 0 _ rfl)))
  iterate 1 (quiet_step (fail))
  quiet_step ((go_at_call 23; exact HFI.out _))
  iterate 2 (quiet_step (fail))
  refine wpQuiet_nil ?_
  rintro _ ⟨p, rfl⟩
  have hfin := HF.out.trans (p.h.mono HF.out.size)
  go_wp2
  go_ret
  exact ⟨rfl, hfin⟩
def garderobelaw16_lives.f : Option (Bool) := some true
theorem garderobelaw16_lives.calls  (r : Bool) (w : World) (h : garderobelaw16_lives.f  = some r) :
    Calls Try.prog 21 #[] w fun e w' => e = .returned (.bool r) ∧ Below w.heap.size w w' := by
  obtain rfl := Option.some.inj h
  exact lives16_any w
end Go.Proofs.Ytocdpledkmmomaa.P
