import Derived.Test.YtocdpledkmmomaaHAPx14
import Derived.Test.YtocdpledkmmomaaHAPx25
import Derived.Test.YtocdpledkmmomaaHAGWorld
import Derived.Test.YtocdpledkmmomaaHAHold
import Derived.Test.YtocdpledkmmomaaHARegTold3
import Derived.Test.YtocdpledkmmomaaHARegTold2
namespace Go.Proofs.Ytocdpledkmmomaa.P
open Go.RowKit Go.Proofs.YtocdpledkmmomaaW.PrintWords Go.Proofs.YtocdpledkmmomaaW.PrintLast Go.Proofs.YtocdpledkmmomaaW.PrintMore
set_option linter.unusedVariables false
set_option linter.unusedSimpArgs false
variable {P : Program} {Q : Exit → Act → World → Prop}
theorem g_run {N s : Nat} {o : Oper} {t : Told} {a : Act} {w w' : World} {v : Value} (hd : o.dst = some s) (hs : s < a.tmps.size) (hr : (execOp a.eval o).run P w = .ok (.value v) w') (hb : Below w.heap.size w w') (ht : t.p v w') : o.wp P a w (NextG N s o.dst t a w) Q := by
  unfold Oper.wp
  rw [hr]
  show NextG N s o.dst t a w (a.put o.dst v) w'
  refine ⟨v, rfl, ?_, hb⟩
  rw [hd, eval_put_same hs]
  exact ht
theorem g_call {N s f : Nat} {args : Array Value} {o : Oper} {t : Told} {a : Act} {w : World} (hd : o.dst = some s) (hs : s < a.tmps.size) (hr : (execOp a.eval o).run P w = .ok (.enter f args) w)
    (hc : Calls P f args w fun e w' => ∃ v, e = .returned v ∧ Below w.heap.size w w' ∧ t.p v w') : o.wp P a w (NextG N s o.dst t a w) Q := by
  unfold Oper.wp
  rw [hr]
  refine Calls.mono hc fun e w' ⟨v, he, hb, ht⟩ => ?_
  subst he
  show NextG N s o.dst t a w (a.put o.dst v) w'
  refine ⟨v, rfl, ?_, hb⟩
  rw [hd, eval_put_same hs]
  exact ht
def gsetB (l : List Oper) (G : List Nat) : Bool := l.all fun o => match o.guard with
  | none => true
  | some g => G.contains g.1 && g.2
theorem gset_spec {l : List Oper} {G : List Nat} (h : gsetB l G = true) {i j : Nat} {b : Bool} {o : Oper} (ho : l[i]? = some o) (hg : o.guard = some (j, b)) : j ∈ G ∧ b = true := by
  have h1 := List.all_eq_true.1 h o (List.mem_of_getElem? ho)
  simp only [hg, Bool.and_eq_true] at h1
  exact ⟨by simpa using h1.1, h1.2⟩
def toldI (xs : List Int) : Told := ⟨fun v w => ∃ A c, v = .slice A xs.length c ∧ xs.length ≤ c ∧ (Kd.int .i64).C w A xs.length xs, fun v w w' hb ⟨A, c, h1, h2, h3⟩ => ⟨A, c, h1, h2, Kd.C_below h3 hb⟩⟩
theorem works_pure {W1 : List S110} {W2 : List S86} {W3 : List S185} {W4 : List S124} (hw : garderoberef12_World.f = some (W1, W2, W3, W4)) :
    hier_From.f W1 W2 W3 W4 11 1 = some true ∧ hier_From.f W1 W2 W3 W4 1 11 = some false ∧ hier_Common.f W1 W2 W3 W4 2 11 = some 1 ∧ hier_Common.f W1 W2 W3 W4 2 14 = some 0 ∧ hier_Common.f W1 W2 W3 W4 13 1 = some 0 ∧ hier_Fits.f 9 W1 W2 W3 W4 4 11 4 1 = some true ∧ hier_Fits.f 9 W1 W2 W3 W4 6 0 4 0 = some true ∧ hier_Fits.f 9 W1 W2 W3 W4 6 0 7 0 = some false ∧ hier_Fits.f 9 W1 W2 W3 W4 4 2 4 13 = some true ∧ hier_Up.f W1 W2 W3 W4 11 = some [11, 1, 0] ∧ True := by
  have h0 : (garderoberef12_World.f.bind fun r => hier_From.f r.1 r.2.1 r.2.2.1 r.2.2.2 11 1) = some true := by kernel_rfl
  have h1 : (garderoberef12_World.f.bind fun r => hier_From.f r.1 r.2.1 r.2.2.1 r.2.2.2 1 11) = some false := by kernel_rfl
  have h2 : (garderoberef12_World.f.bind fun r => hier_Common.f r.1 r.2.1 r.2.2.1 r.2.2.2 2 11) = some 1 := by kernel_rfl
  have h3 : (garderoberef12_World.f.bind fun r => hier_Common.f r.1 r.2.1 r.2.2.1 r.2.2.2 2 14) = some 0 := by kernel_rfl
  have h4 : (garderoberef12_World.f.bind fun r => hier_Common.f r.1 r.2.1 r.2.2.1 r.2.2.2 13 1) = some 0 := by kernel_rfl
  have h5 : (garderoberef12_World.f.bind fun r => hier_Fits.f 9 r.1 r.2.1 r.2.2.1 r.2.2.2 4 11 4 1) = some true := by kernel_rfl
  have h6 : (garderoberef12_World.f.bind fun r => hier_Fits.f 9 r.1 r.2.1 r.2.2.1 r.2.2.2 6 0 4 0) = some true := by kernel_rfl
  have h7 : (garderoberef12_World.f.bind fun r => hier_Fits.f 9 r.1 r.2.1 r.2.2.1 r.2.2.2 6 0 7 0) = some false := by kernel_rfl
  have h8 : (garderoberef12_World.f.bind fun r => hier_Fits.f 9 r.1 r.2.1 r.2.2.1 r.2.2.2 4 2 4 13) = some true := by kernel_rfl
  have h9 : (garderoberef12_World.f.bind fun r => hier_Up.f r.1 r.2.1 r.2.2.1 r.2.2.2 11) = some [11, 1, 0] := by kernel_rfl
  rw [hw] at h0 h1 h2 h3 h4 h5 h6 h7 h8 h9
  exact ⟨h0, h1, h2, h3, h4, h5, h6, h7, h8, h9, trivial⟩
set_option maxHeartbeats 8000000 in
set_option maxRecDepth 100000 in
theorem works13_any (w : World) : Calls Try.prog 34 #[] w fun e w' => e = .returned (.bool true) ∧ Below w.heap.size w w' := by
  have hu54 := Try.underlying54
  have hu30 := Try.underlying30
  have hu23 := Try.underlying23
  obtain ⟨W1, W2, W3, W4, hw⟩ : ∃ a b c d, garderoberef12_World.f = some (a, b, c, d) := ⟨_, _, _, _, rfl⟩
  have HP := Aside0.mk (works_pure hw)
  have HW := Aside0.mk hw
  clear hw
  go_enter Try.func34, Try.ntmps34
  go_wp2_with fail
  refine (garderoberef12_World.calls W1 W2 W3 W4 _ HW.out).mono ?_
  rintro e w1 ⟨v0, v1, v2, v3, rfl, h0, h1, h2, h3, hb⟩
  have H0 := (Hold.nil w).step hb
  obtain ⟨A0, c0, rfl, H1⟩ := H0.addR h0
  obtain ⟨A1, c1, rfl, H2⟩ := H1.addR h1
  obtain ⟨A2, c2, rfl, H3⟩ := H2.addR h2
  obtain ⟨A3, c3, rfl, H4⟩ := H3.addR h3
  simp only [List.nil_append, List.cons_append] at H4
  clear H0 H1 H2 H3 h0 h1 h2 h3 hb
  have H5 := H4.allocB [.slice A0 W1.length c0, .slice A1 W2.length c1, .slice A2 W3.length c2, .slice A3 W4.length c3] 54
  simp only [List.nil_append, List.cons_append] at H5
  have H := Aside0.mk H5
  clear H4 H5
  go_wp2_with fail
  have HH := H.out
  refine wp_region_toldG [Told.val (.agg #[.slice A0 W1.length c0, .slice A1 W2.length c1, .slice A2 W3.length c2, .slice A3 W4.length c3]), Told.val (.bool true), Told.val (.bool true), Told.val (.agg #[.slice A0 W1.length c0, .slice A1 W2.length c1, .slice A2 W3.length c2, .slice A3 W4.length c3]), Told.val (.bool false), Told.val (.bool true), Told.val (.bool true), Told.val (.bool true), Told.val (.agg #[.slice A0 W1.length c0, .slice A1 W2.length c1, .slice A2 W3.length c2, .slice A3 W4.length c3]), Told.val (.int .i64 1), Told.val (.bool true), Told.val (.bool true), Told.val (.bool true), Told.val (.agg #[.slice A0 W1.length c0, .slice A1 W2.length c1, .slice A2 W3.length c2, .slice A3 W4.length c3]), Told.val (.int .i64 0), Told.val (.bool true), Told.val (.bool true), Told.val (.bool true), Told.val (.agg #[.slice A0 W1.length c0, .slice A1 W2.length c1, .slice A2 W3.length c2, .slice A3 W4.length c3]), Told.val (.int .i64 0), Told.val (.bool true), Told.val (.bool true), Told.val (.bool true), Told.val (.agg #[.slice A0 W1.length c0, .slice A1 W2.length c1, .slice A2 W3.length c2, .slice A3 W4.length c3]), toldI [11, 1, 0], toldI [11, 1, 0], Told.val (.bool true), Told.val (.bool true), Told.val (.bool true), Told.val (.agg #[.slice A0 W1.length c0, .slice A1 W2.length c1, .slice A2 W3.length c2, .slice A3 W4.length c3]), Told.val (.agg #[.int .u8 4, .int .u16 11]), Told.val (.agg #[.int .u8 4, .int .u16 1]), Told.val (.bool true), Told.val (.bool true), Told.val (.bool true), Told.val (.agg #[.slice A0 W1.length c0, .slice A1 W2.length c1, .slice A2 W3.length c2, .slice A3 W4.length c3]), Told.val (.agg #[.int .u8 6, .int .u16 0]), Told.val (.agg #[.int .u8 4, .int .u16 0]), Told.val (.bool true), Told.val (.bool true), Told.val (.bool true), Told.val (.agg #[.slice A0 W1.length c0, .slice A1 W2.length c1, .slice A2 W3.length c2, .slice A3 W4.length c3]), Told.val (.agg #[.int .u8 6, .int .u16 0]), Told.val (.agg #[.int .u8 7, .int .u16 0]), Told.val (.bool false), Told.val (.bool true), Told.val (.bool true), Told.val (.bool true), Told.val (.agg #[.slice A0 W1.length c0, .slice A1 W2.length c1, .slice A2 W3.length c2, .slice A3 W4.length c3]), Told.val (.agg #[.int .u8 4, .int .u16 2]), Told.val (.agg #[.int .u8 4, .int .u16 13]), Told.val (.bool true), Told.val (.bool true), Told.val (.bool true)] [3, 4, 5, 6, 7, 8, 9, 10, 11, 12, 13, 14, 15, 16, 17, 18, 19, 20, 21, 22, 23, 24, 25, 26, 27, 28, 29, 30, 31, 32, 33, 34, 35, 36, 37, 38, 39, 40, 41, 42, 43, 44, 45, 46, 47, 48, 49, 50, 51, 52, 53, 54, 55, 0] rfl rfl (by kernel_rfl) (by kernel_rfl) (by kernel_rfl) ?gt ?steps ?fin
  case gt =>
    intro i o j b ho hg v w hp
    obtain ⟨hj, rfl⟩ := gset_spec (G := [2, 7, 12, 17, 22, 28, 34, 40, 47]) (by kernel_rfl) ho hg
    simp only [List.mem_cons, List.not_mem_nil, or_false] at hj
    rcases hj with rfl | rfl | rfl | rfl | rfl | rfl | rfl | rfl | rfl <;> exact hp
  case steps =>
    refine ⟨?_, ?_, ?_, ?_, ?_, ?_, ?_, ?_, ?_, ?_, ?_, ?_, ?_, ?_, ?_, ?_, ?_, ?_, ?_, ?_, ?_, ?_, ?_, ?_, ?_, ?_, ?_, ?_, ?_, ?_, ?_, ?_, ?_, ?_, ?_, ?_, ?_, ?_, ?_, ?_, ?_, ?_, ?_, ?_, ?_, ?_, ?_, ?_, ?_, ?_, ?_, ?_, ?_, ?_, trivial⟩
    · intro a' w' hf hb hd
      have p0_ := frame_at2 hf 1 (.pointer (some ⟨w1.heap.size, 0, none⟩)) (by kernel_rfl) rfl
      have p02_ : a'.tmps[1]?.getD undef = .pointer (some ⟨w1.heap.size, 0, none⟩) := by simpa [Act.eval] using p0_
      obtain ⟨c0_, c1_, c2_, c3_⟩ := blk54 ((HH.step hb).B 4 rfl)
      exact g_run (s := 3) (v := .agg #[.slice A0 W1.length c0, .slice A1 W2.length c1, .slice A2 W3.length c2, .slice A3 W4.length c3]) rfl (size_lt hf (by kernel_rfl)) (by simp [execOp, p0_, p02_]; try go_simp) (Below.refl _ _) rfl
    · intro a' w' hf hb hd
      have q3_ : a'.eval (.tmp 3) = .agg #[.slice A0 W1.length c0, .slice A1 W2.length c1, .slice A2 W3.length c2, .slice A3 W4.length c3] := hd 0 (by decide)
      have r3_ : a'.tmps[3]?.getD undef = .agg #[.slice A0 W1.length c0, .slice A1 W2.length c1, .slice A2 W3.length c2, .slice A3 W4.length c3] := by simpa [Act.eval] using q3_
      have H13 := HH.step hb
      refine g_call (s := 4) rfl (size_lt hf (by kernel_rfl)) (by simp [execOp, q3_, r3_]; try go_simp) ((hier_From.calls A0 c0 W1 A1 c1 W2 A2 c2 W3 A3 c3 W4 11 1 true w' (H13.C 0 rfl) (H13.all 0 _ rfl).2.1 (H13.C 1 rfl) (H13.all 1 _ rfl).2.1 (H13.C 2 rfl) (H13.all 2 _ rfl).2.1 (H13.C 3 rfl) (H13.all 3 _ rfl).2.1 HP.out.1).mono ?_)
      rintro e w3 ⟨rfl, hb3⟩
      exact ⟨_, rfl, hb3, rfl⟩
    · intro a' w' hf hb hd
      have q4_ : a'.eval (.tmp 4) = .bool true := hd 1 (by decide)
      have r4_ : a'.tmps[4]?.getD undef = .bool true := by simpa [Act.eval] using q4_
      exact g_run (s := 5) (v := .bool true) rfl (size_lt hf (by kernel_rfl)) (by simp [execOp, q4_, r4_]; try go_simp) (Below.refl _ _) rfl
    · intro a' w' hf hb hd
      have p0_ := frame_at2 hf 1 (.pointer (some ⟨w1.heap.size, 0, none⟩)) (by kernel_rfl) rfl
      have p02_ : a'.tmps[1]?.getD undef = .pointer (some ⟨w1.heap.size, 0, none⟩) := by simpa [Act.eval] using p0_
      obtain ⟨c0_, c1_, c2_, c3_⟩ := blk54 ((HH.step hb).B 4 rfl)
      exact g_run (s := 6) (v := .agg #[.slice A0 W1.length c0, .slice A1 W2.length c1, .slice A2 W3.length c2, .slice A3 W4.length c3]) rfl (size_lt hf (by kernel_rfl)) (by simp [execOp, p0_, p02_]; try go_simp) (Below.refl _ _) rfl
    · intro a' w' hf hb hd
      have q6_ : a'.eval (.tmp 6) = .agg #[.slice A0 W1.length c0, .slice A1 W2.length c1, .slice A2 W3.length c2, .slice A3 W4.length c3] := hd 3 (by decide)
      have r6_ : a'.tmps[6]?.getD undef = .agg #[.slice A0 W1.length c0, .slice A1 W2.length c1, .slice A2 W3.length c2, .slice A3 W4.length c3] := by simpa [Act.eval] using q6_
      have H13 := HH.step hb
      refine g_call (s := 7) rfl (size_lt hf (by kernel_rfl)) (by simp [execOp, q6_, r6_]; try go_simp) ((hier_From.calls A0 c0 W1 A1 c1 W2 A2 c2 W3 A3 c3 W4 1 11 false w' (H13.C 0 rfl) (H13.all 0 _ rfl).2.1 (H13.C 1 rfl) (H13.all 1 _ rfl).2.1 (H13.C 2 rfl) (H13.all 2 _ rfl).2.1 (H13.C 3 rfl) (H13.all 3 _ rfl).2.1 HP.out.2.1).mono ?_)
      rintro e w3 ⟨rfl, hb3⟩
      exact ⟨_, rfl, hb3, rfl⟩
    · intro a' w' hf hb hd
      have q7_ : a'.eval (.tmp 7) = .bool false := hd 4 (by decide)
      have r7_ : a'.tmps[7]?.getD undef = .bool false := by simpa [Act.eval] using q7_
      exact g_run (s := 8) (v := .bool true) rfl (size_lt hf (by kernel_rfl)) (by simp [execOp, q7_, r7_]; try go_simp) (Below.refl _ _) rfl
    · intro a' w' hf hb hd
      have q5_ : a'.eval (.tmp 5) = .bool true := hd 2 (by decide)
      have r5_ : a'.tmps[5]?.getD undef = .bool true := by simpa [Act.eval] using q5_
      have q8_ : a'.eval (.tmp 8) = .bool true := hd 5 (by decide)
      have r8_ : a'.tmps[8]?.getD undef = .bool true := by simpa [Act.eval] using q8_
      exact g_run (s := 9) (v := .bool true) rfl (size_lt hf (by kernel_rfl)) (by simp [execOp, q5_, r5_, q8_, r8_]; try go_simp) (Below.refl _ _) rfl
    · intro a' w' hf hb hd
      have q9_ : a'.eval (.tmp 9) = .bool true := hd 6 (by decide)
      have r9_ : a'.tmps[9]?.getD undef = .bool true := by simpa [Act.eval] using q9_
      exact g_run (s := 10) (v := .bool true) rfl (size_lt hf (by kernel_rfl)) (by simp [execOp, q9_, r9_]; try go_simp) (Below.refl _ _) rfl
    · intro a' w' hf hb hd
      have p0_ := frame_at2 hf 1 (.pointer (some ⟨w1.heap.size, 0, none⟩)) (by kernel_rfl) rfl
      have p02_ : a'.tmps[1]?.getD undef = .pointer (some ⟨w1.heap.size, 0, none⟩) := by simpa [Act.eval] using p0_
      obtain ⟨c0_, c1_, c2_, c3_⟩ := blk54 ((HH.step hb).B 4 rfl)
      exact g_run (s := 11) (v := .agg #[.slice A0 W1.length c0, .slice A1 W2.length c1, .slice A2 W3.length c2, .slice A3 W4.length c3]) rfl (size_lt hf (by kernel_rfl)) (by simp [execOp, p0_, p02_]; try go_simp) (Below.refl _ _) rfl
    · intro a' w' hf hb hd
      have q11_ : a'.eval (.tmp 11) = .agg #[.slice A0 W1.length c0, .slice A1 W2.length c1, .slice A2 W3.length c2, .slice A3 W4.length c3] := hd 8 (by decide)
      have r11_ : a'.tmps[11]?.getD undef = .agg #[.slice A0 W1.length c0, .slice A1 W2.length c1, .slice A2 W3.length c2, .slice A3 W4.length c3] := by simpa [Act.eval] using q11_
      have H13 := HH.step hb
      refine g_call (s := 12) rfl (size_lt hf (by kernel_rfl)) (by simp [execOp, q11_, r11_]; try go_simp) ((hier_Common.calls A0 c0 W1 A1 c1 W2 A2 c2 W3 A3 c3 W4 2 11 1 w' (H13.C 0 rfl) (H13.all 0 _ rfl).2.1 (H13.C 1 rfl) (H13.all 1 _ rfl).2.1 (H13.C 2 rfl) (H13.all 2 _ rfl).2.1 (H13.C 3 rfl) (H13.all 3 _ rfl).2.1 HP.out.2.2.1).mono ?_)
      rintro e w3 ⟨rfl, hb3⟩
      exact ⟨_, rfl, hb3, rfl⟩
    · intro a' w' hf hb hd
      have q12_ : a'.eval (.tmp 12) = .int .i64 1 := hd 9 (by decide)
      have r12_ : a'.tmps[12]?.getD undef = .int .i64 1 := by simpa [Act.eval] using q12_
      exact g_run (s := 13) (v := .bool true) rfl (size_lt hf (by kernel_rfl)) (by simp [execOp, q12_, r12_]; try go_simp) (Below.refl _ _) rfl
    · intro a' w' hf hb hd
      have q10_ : a'.eval (.tmp 10) = .bool true := hd 7 (by decide)
      have r10_ : a'.tmps[10]?.getD undef = .bool true := by simpa [Act.eval] using q10_
      have q13_ : a'.eval (.tmp 13) = .bool true := hd 10 (by decide)
      have r13_ : a'.tmps[13]?.getD undef = .bool true := by simpa [Act.eval] using q13_
      exact g_run (s := 14) (v := .bool true) rfl (size_lt hf (by kernel_rfl)) (by simp [execOp, q10_, r10_, q13_, r13_]; try go_simp) (Below.refl _ _) rfl
    · intro a' w' hf hb hd
      have q14_ : a'.eval (.tmp 14) = .bool true := hd 11 (by decide)
      have r14_ : a'.tmps[14]?.getD undef = .bool true := by simpa [Act.eval] using q14_
      exact g_run (s := 15) (v := .bool true) rfl (size_lt hf (by kernel_rfl)) (by simp [execOp, q14_, r14_]; try go_simp) (Below.refl _ _) rfl
    · intro a' w' hf hb hd
      have p0_ := frame_at2 hf 1 (.pointer (some ⟨w1.heap.size, 0, none⟩)) (by kernel_rfl) rfl
      have p02_ : a'.tmps[1]?.getD undef = .pointer (some ⟨w1.heap.size, 0, none⟩) := by simpa [Act.eval] using p0_
      obtain ⟨c0_, c1_, c2_, c3_⟩ := blk54 ((HH.step hb).B 4 rfl)
      exact g_run (s := 16) (v := .agg #[.slice A0 W1.length c0, .slice A1 W2.length c1, .slice A2 W3.length c2, .slice A3 W4.length c3]) rfl (size_lt hf (by kernel_rfl)) (by simp [execOp, p0_, p02_]; try go_simp) (Below.refl _ _) rfl
    · intro a' w' hf hb hd
      have q16_ : a'.eval (.tmp 16) = .agg #[.slice A0 W1.length c0, .slice A1 W2.length c1, .slice A2 W3.length c2, .slice A3 W4.length c3] := hd 13 (by decide)
      have r16_ : a'.tmps[16]?.getD undef = .agg #[.slice A0 W1.length c0, .slice A1 W2.length c1, .slice A2 W3.length c2, .slice A3 W4.length c3] := by simpa [Act.eval] using q16_
      have H13 := HH.step hb
      refine g_call (s := 17) rfl (size_lt hf (by kernel_rfl)) (by simp [execOp, q16_, r16_]; try go_simp) ((hier_Common.calls A0 c0 W1 A1 c1 W2 A2 c2 W3 A3 c3 W4 2 14 0 w' (H13.C 0 rfl) (H13.all 0 _ rfl).2.1 (H13.C 1 rfl) (H13.all 1 _ rfl).2.1 (H13.C 2 rfl) (H13.all 2 _ rfl).2.1 (H13.C 3 rfl) (H13.all 3 _ rfl).2.1 HP.out.2.2.2.1).mono ?_)
      rintro e w3 ⟨rfl, hb3⟩
      exact ⟨_, rfl, hb3, rfl⟩
    · intro a' w' hf hb hd
      have q17_ : a'.eval (.tmp 17) = .int .i64 0 := hd 14 (by decide)
      have r17_ : a'.tmps[17]?.getD undef = .int .i64 0 := by simpa [Act.eval] using q17_
      exact g_run (s := 18) (v := .bool true) rfl (size_lt hf (by kernel_rfl)) (by simp [execOp, q17_, r17_]; try go_simp) (Below.refl _ _) rfl
    · intro a' w' hf hb hd
      have q15_ : a'.eval (.tmp 15) = .bool true := hd 12 (by decide)
      have r15_ : a'.tmps[15]?.getD undef = .bool true := by simpa [Act.eval] using q15_
      have q18_ : a'.eval (.tmp 18) = .bool true := hd 15 (by decide)
      have r18_ : a'.tmps[18]?.getD undef = .bool true := by simpa [Act.eval] using q18_
      exact g_run (s := 19) (v := .bool true) rfl (size_lt hf (by kernel_rfl)) (by simp [execOp, q15_, r15_, q18_, r18_]; try go_simp) (Below.refl _ _) rfl
    · intro a' w' hf hb hd
      have q19_ : a'.eval (.tmp 19) = .bool true := hd 16 (by decide)
      have r19_ : a'.tmps[19]?.getD undef = .bool true := by simpa [Act.eval] using q19_
      exact g_run (s := 20) (v := .bool true) rfl (size_lt hf (by kernel_rfl)) (by simp [execOp, q19_, r19_]; try go_simp) (Below.refl _ _) rfl
    · intro a' w' hf hb hd
      have p0_ := frame_at2 hf 1 (.pointer (some ⟨w1.heap.size, 0, none⟩)) (by kernel_rfl) rfl
      have p02_ : a'.tmps[1]?.getD undef = .pointer (some ⟨w1.heap.size, 0, none⟩) := by simpa [Act.eval] using p0_
      obtain ⟨c0_, c1_, c2_, c3_⟩ := blk54 ((HH.step hb).B 4 rfl)
      exact g_run (s := 21) (v := .agg #[.slice A0 W1.length c0, .slice A1 W2.length c1, .slice A2 W3.length c2, .slice A3 W4.length c3]) rfl (size_lt hf (by kernel_rfl)) (by simp [execOp, p0_, p02_]; try go_simp) (Below.refl _ _) rfl
    · intro a' w' hf hb hd
      have q21_ : a'.eval (.tmp 21) = .agg #[.slice A0 W1.length c0, .slice A1 W2.length c1, .slice A2 W3.length c2, .slice A3 W4.length c3] := hd 18 (by decide)
      have r21_ : a'.tmps[21]?.getD undef = .agg #[.slice A0 W1.length c0, .slice A1 W2.length c1, .slice A2 W3.length c2, .slice A3 W4.length c3] := by simpa [Act.eval] using q21_
      have H13 := HH.step hb
      refine g_call (s := 22) rfl (size_lt hf (by kernel_rfl)) (by simp [execOp, q21_, r21_]; try go_simp) ((hier_Common.calls A0 c0 W1 A1 c1 W2 A2 c2 W3 A3 c3 W4 13 1 0 w' (H13.C 0 rfl) (H13.all 0 _ rfl).2.1 (H13.C 1 rfl) (H13.all 1 _ rfl).2.1 (H13.C 2 rfl) (H13.all 2 _ rfl).2.1 (H13.C 3 rfl) (H13.all 3 _ rfl).2.1 HP.out.2.2.2.2.1).mono ?_)
      rintro e w3 ⟨rfl, hb3⟩
      exact ⟨_, rfl, hb3, rfl⟩
    · intro a' w' hf hb hd
      have q22_ : a'.eval (.tmp 22) = .int .i64 0 := hd 19 (by decide)
      have r22_ : a'.tmps[22]?.getD undef = .int .i64 0 := by simpa [Act.eval] using q22_
      exact g_run (s := 23) (v := .bool true) rfl (size_lt hf (by kernel_rfl)) (by simp [execOp, q22_, r22_]; try go_simp) (Below.refl _ _) rfl
    · intro a' w' hf hb hd
      have q20_ : a'.eval (.tmp 20) = .bool true := hd 17 (by decide)
      have r20_ : a'.tmps[20]?.getD undef = .bool true := by simpa [Act.eval] using q20_
      have q23_ : a'.eval (.tmp 23) = .bool true := hd 20 (by decide)
      have r23_ : a'.tmps[23]?.getD undef = .bool true := by simpa [Act.eval] using q23_
      exact g_run (s := 24) (v := .bool true) rfl (size_lt hf (by kernel_rfl)) (by simp [execOp, q20_, r20_, q23_, r23_]; try go_simp) (Below.refl _ _) rfl
    · intro a' w' hf hb hd
      have q24_ : a'.eval (.tmp 24) = .bool true := hd 21 (by decide)
      have r24_ : a'.tmps[24]?.getD undef = .bool true := by simpa [Act.eval] using q24_
      exact g_run (s := 25) (v := .bool true) rfl (size_lt hf (by kernel_rfl)) (by simp [execOp, q24_, r24_]; try go_simp) (Below.refl _ _) rfl
    · intro a' w' hf hb hd
      have p0_ := frame_at2 hf 1 (.pointer (some ⟨w1.heap.size, 0, none⟩)) (by kernel_rfl) rfl
      have p02_ : a'.tmps[1]?.getD undef = .pointer (some ⟨w1.heap.size, 0, none⟩) := by simpa [Act.eval] using p0_
      obtain ⟨c0_, c1_, c2_, c3_⟩ := blk54 ((HH.step hb).B 4 rfl)
      exact g_run (s := 26) (v := .agg #[.slice A0 W1.length c0, .slice A1 W2.length c1, .slice A2 W3.length c2, .slice A3 W4.length c3]) rfl (size_lt hf (by kernel_rfl)) (by simp [execOp, p0_, p02_]; try go_simp) (Below.refl _ _) rfl
    · intro a' w' hf hb hd
      have q26_ : a'.eval (.tmp 26) = .agg #[.slice A0 W1.length c0, .slice A1 W2.length c1, .slice A2 W3.length c2, .slice A3 W4.length c3] := hd 23 (by decide)
      have r26_ : a'.tmps[26]?.getD undef = .agg #[.slice A0 W1.length c0, .slice A1 W2.length c1, .slice A2 W3.length c2, .slice A3 W4.length c3] := by simpa [Act.eval] using q26_
      have H13 := HH.step hb
      refine g_call (s := 27) rfl (size_lt hf (by kernel_rfl)) (by simp [execOp, q26_, r26_]; try go_simp) ((hier_Up.calls A0 c0 W1 A1 c1 W2 A2 c2 W3 A3 c3 W4 11 [11, 1, 0] w' (H13.C 0 rfl) (H13.all 0 _ rfl).2.1 (H13.C 1 rfl) (H13.all 1 _ rfl).2.1 (H13.C 2 rfl) (H13.all 2 _ rfl).2.1 (H13.C 3 rfl) (H13.all 3 _ rfl).2.1 HP.out.2.2.2.2.2.2.2.2.2.1).mono ?_)
      rintro e w3 ⟨v0, rfl, hR, hb3⟩
      exact ⟨_, rfl, hb3, Kd.R_reads hR⟩
    · intro a' w' hf hb hd
      have hR := R_own (own_lit w' w'.heap.size 3 .i64 [11, 1, 0] (Nat.le_refl _) (by simp))
      exact g_run (s := 28) (v := .slice (some ⟨w'.heap.size, 0, none⟩) 3 3) (w' := w'.alloc (.cells #[.int .i64 11, .int .i64 1, .int .i64 0] 3)) rfl (size_lt hf (by kernel_rfl)) (by simp [execOp]; first | (go_simp; done) | (go_simp; rfl)) (below_alloc (Below.refl _ _) _) (Kd.R_reads hR)
    · intro a' w' hf hb hd
      obtain ⟨A5, c5, q27_, l5, C5⟩ : (toldI [11, 1, 0]).p (a'.eval (.tmp 27)) w' := hd 24 (by decide)
      obtain ⟨A6, c6, q28_, l6, C6⟩ : (toldI [11, 1, 0]).p (a'.eval (.tmp 28)) w' := hd 25 (by decide)
      have r27_ : a'.tmps[27]?.getD undef = .slice A5 ([11, 1, 0] : List Int).length c5 := by simpa [Act.eval] using q27_
      have r28_ : a'.tmps[28]?.getD undef = .slice A6 ([11, 1, 0] : List Int).length c6 := by simpa [Act.eval] using q28_
      refine g_call (s := 29) rfl (size_lt hf (by kernel_rfl)) (by simp [execOp, q27_, q28_, r27_, r28_]; try go_simp) ((garderoberef00_Ints.calls 9 A5 c5 [11, 1, 0] A6 c6 [11, 1, 0] true w' C5 l5 C6 l6 (by kernel_rfl)).mono ?_)
      rintro e w3 ⟨rfl, hb3⟩
      exact ⟨_, rfl, hb3.below, rfl⟩
    · intro a' w' hf hb hd
      have q25_ : a'.eval (.tmp 25) = .bool true := hd 22 (by decide)
      have r25_ : a'.tmps[25]?.getD undef = .bool true := by simpa [Act.eval] using q25_
      have q29_ : a'.eval (.tmp 29) = .bool true := hd 26 (by decide)
      have r29_ : a'.tmps[29]?.getD undef = .bool true := by simpa [Act.eval] using q29_
      exact g_run (s := 30) (v := .bool true) rfl (size_lt hf (by kernel_rfl)) (by simp [execOp, q25_, r25_, q29_, r29_]; try go_simp) (Below.refl _ _) rfl
    · intro a' w' hf hb hd
      have q30_ : a'.eval (.tmp 30) = .bool true := hd 27 (by decide)
      have r30_ : a'.tmps[30]?.getD undef = .bool true := by simpa [Act.eval] using q30_
      exact g_run (s := 31) (v := .bool true) rfl (size_lt hf (by kernel_rfl)) (by simp [execOp, q30_, r30_]; try go_simp) (Below.refl _ _) rfl
    · intro a' w' hf hb hd
      have p0_ := frame_at2 hf 1 (.pointer (some ⟨w1.heap.size, 0, none⟩)) (by kernel_rfl) rfl
      have p02_ : a'.tmps[1]?.getD undef = .pointer (some ⟨w1.heap.size, 0, none⟩) := by simpa [Act.eval] using p0_
      obtain ⟨c0_, c1_, c2_, c3_⟩ := blk54 ((HH.step hb).B 4 rfl)
      exact g_run (s := 32) (v := .agg #[.slice A0 W1.length c0, .slice A1 W2.length c1, .slice A2 W3.length c2, .slice A3 W4.length c3]) rfl (size_lt hf (by kernel_rfl)) (by simp [execOp, p0_, p02_]; try go_simp) (Below.refl _ _) rfl
    · intro a' w' hf hb hd
      have H13 := HH.step hb
      refine g_call (s := 33) rfl (size_lt hf (by kernel_rfl)) (by simp [execOp]; try go_simp) ((garderobelaw13_t.calls 4 11 4 11 w' rfl).mono ?_)
      rintro e w3 ⟨rfl, hb3⟩
      exact ⟨_, rfl, hb3, rfl⟩
    · intro a' w' hf hb hd
      have H13 := HH.step hb
      refine g_call (s := 34) rfl (size_lt hf (by kernel_rfl)) (by simp [execOp]; try go_simp) ((garderobelaw13_t.calls 4 1 4 1 w' rfl).mono ?_)
      rintro e w3 ⟨rfl, hb3⟩
      exact ⟨_, rfl, hb3, rfl⟩
    · intro a' w' hf hb hd
      have q32_ : a'.eval (.tmp 32) = .agg #[.slice A0 W1.length c0, .slice A1 W2.length c1, .slice A2 W3.length c2, .slice A3 W4.length c3] := hd 29 (by decide)
      have r32_ : a'.tmps[32]?.getD undef = .agg #[.slice A0 W1.length c0, .slice A1 W2.length c1, .slice A2 W3.length c2, .slice A3 W4.length c3] := by simpa [Act.eval] using q32_
      have q33_ : a'.eval (.tmp 33) = .agg #[.int .u8 4, .int .u16 11] := hd 30 (by decide)
      have r33_ : a'.tmps[33]?.getD undef = .agg #[.int .u8 4, .int .u16 11] := by simpa [Act.eval] using q33_
      have q34_ : a'.eval (.tmp 34) = .agg #[.int .u8 4, .int .u16 1] := hd 31 (by decide)
      have r34_ : a'.tmps[34]?.getD undef = .agg #[.int .u8 4, .int .u16 1] := by simpa [Act.eval] using q34_
      have H13 := HH.step hb
      refine g_call (s := 35) rfl (size_lt hf (by kernel_rfl)) (by simp [execOp, q32_, r32_, q33_, r33_, q34_, r34_]; try go_simp) ((hier_Fits.calls 9 A0 c0 W1 A1 c1 W2 A2 c2 W3 A3 c3 W4 4 11 4 1 true w' (H13.C 0 rfl) (H13.all 0 _ rfl).2.1 (H13.C 1 rfl) (H13.all 1 _ rfl).2.1 (H13.C 2 rfl) (H13.all 2 _ rfl).2.1 (H13.C 3 rfl) (H13.all 3 _ rfl).2.1 HP.out.2.2.2.2.2.1).mono ?_)
      rintro e w3 ⟨rfl, hb3⟩
      exact ⟨_, rfl, hb3, rfl⟩
    · intro a' w' hf hb hd
      have q31_ : a'.eval (.tmp 31) = .bool true := hd 28 (by decide)
      have r31_ : a'.tmps[31]?.getD undef = .bool true := by simpa [Act.eval] using q31_
      have q35_ : a'.eval (.tmp 35) = .bool true := hd 32 (by decide)
      have r35_ : a'.tmps[35]?.getD undef = .bool true := by simpa [Act.eval] using q35_
      exact g_run (s := 36) (v := .bool true) rfl (size_lt hf (by kernel_rfl)) (by simp [execOp, q31_, r31_, q35_, r35_]; try go_simp) (Below.refl _ _) rfl
    · intro a' w' hf hb hd
      have q36_ : a'.eval (.tmp 36) = .bool true := hd 33 (by decide)
      have r36_ : a'.tmps[36]?.getD undef = .bool true := by simpa [Act.eval] using q36_
      exact g_run (s := 37) (v := .bool true) rfl (size_lt hf (by kernel_rfl)) (by simp [execOp, q36_, r36_]; try go_simp) (Below.refl _ _) rfl
    · intro a' w' hf hb hd
      have p0_ := frame_at2 hf 1 (.pointer (some ⟨w1.heap.size, 0, none⟩)) (by kernel_rfl) rfl
      have p02_ : a'.tmps[1]?.getD undef = .pointer (some ⟨w1.heap.size, 0, none⟩) := by simpa [Act.eval] using p0_
      obtain ⟨c0_, c1_, c2_, c3_⟩ := blk54 ((HH.step hb).B 4 rfl)
      exact g_run (s := 38) (v := .agg #[.slice A0 W1.length c0, .slice A1 W2.length c1, .slice A2 W3.length c2, .slice A3 W4.length c3]) rfl (size_lt hf (by kernel_rfl)) (by simp [execOp, p0_, p02_]; try go_simp) (Below.refl _ _) rfl
    · intro a' w' hf hb hd
      have H13 := HH.step hb
      refine g_call (s := 39) rfl (size_lt hf (by kernel_rfl)) (by simp [execOp]; try go_simp) ((garderobelaw13_t.calls 6 0 6 0 w' rfl).mono ?_)
      rintro e w3 ⟨rfl, hb3⟩
      exact ⟨_, rfl, hb3, rfl⟩
    · intro a' w' hf hb hd
      have H13 := HH.step hb
      refine g_call (s := 40) rfl (size_lt hf (by kernel_rfl)) (by simp [execOp]; try go_simp) ((garderobelaw13_t.calls 4 0 4 0 w' rfl).mono ?_)
      rintro e w3 ⟨rfl, hb3⟩
      exact ⟨_, rfl, hb3, rfl⟩
    · intro a' w' hf hb hd
      have q38_ : a'.eval (.tmp 38) = .agg #[.slice A0 W1.length c0, .slice A1 W2.length c1, .slice A2 W3.length c2, .slice A3 W4.length c3] := hd 35 (by decide)
      have r38_ : a'.tmps[38]?.getD undef = .agg #[.slice A0 W1.length c0, .slice A1 W2.length c1, .slice A2 W3.length c2, .slice A3 W4.length c3] := by simpa [Act.eval] using q38_
      have q39_ : a'.eval (.tmp 39) = .agg #[.int .u8 6, .int .u16 0] := hd 36 (by decide)
      have r39_ : a'.tmps[39]?.getD undef = .agg #[.int .u8 6, .int .u16 0] := by simpa [Act.eval] using q39_
      have q40_ : a'.eval (.tmp 40) = .agg #[.int .u8 4, .int .u16 0] := hd 37 (by decide)
      have r40_ : a'.tmps[40]?.getD undef = .agg #[.int .u8 4, .int .u16 0] := by simpa [Act.eval] using q40_
      have H13 := HH.step hb
      refine g_call (s := 41) rfl (size_lt hf (by kernel_rfl)) (by simp [execOp, q38_, r38_, q39_, r39_, q40_, r40_]; try go_simp) ((hier_Fits.calls 9 A0 c0 W1 A1 c1 W2 A2 c2 W3 A3 c3 W4 6 0 4 0 true w' (H13.C 0 rfl) (H13.all 0 _ rfl).2.1 (H13.C 1 rfl) (H13.all 1 _ rfl).2.1 (H13.C 2 rfl) (H13.all 2 _ rfl).2.1 (H13.C 3 rfl) (H13.all 3 _ rfl).2.1 HP.out.2.2.2.2.2.2.1).mono ?_)
      rintro e w3 ⟨rfl, hb3⟩
      exact ⟨_, rfl, hb3, rfl⟩
    · intro a' w' hf hb hd
      have q37_ : a'.eval (.tmp 37) = .bool true := hd 34 (by decide)
      have r37_ : a'.tmps[37]?.getD undef = .bool true := by simpa [Act.eval] using q37_
      have q41_ : a'.eval (.tmp 41) = .bool true := hd 38 (by decide)
      have r41_ : a'.tmps[41]?.getD undef = .bool true := by simpa [Act.eval] using q41_
      exact g_run (s := 42) (v := .bool true) rfl (size_lt hf (by kernel_rfl)) (by simp [execOp, q37_, r37_, q41_, r41_]; try go_simp) (Below.refl _ _) rfl
    · intro a' w' hf hb hd
      have q42_ : a'.eval (.tmp 42) = .bool true := hd 39 (by decide)
      have r42_ : a'.tmps[42]?.getD undef = .bool true := by simpa [Act.eval] using q42_
      exact g_run (s := 43) (v := .bool true) rfl (size_lt hf (by kernel_rfl)) (by simp [execOp, q42_, r42_]; try go_simp) (Below.refl _ _) rfl
    · intro a' w' hf hb hd
      have p0_ := frame_at2 hf 1 (.pointer (some ⟨w1.heap.size, 0, none⟩)) (by kernel_rfl) rfl
      have p02_ : a'.tmps[1]?.getD undef = .pointer (some ⟨w1.heap.size, 0, none⟩) := by simpa [Act.eval] using p0_
      obtain ⟨c0_, c1_, c2_, c3_⟩ := blk54 ((HH.step hb).B 4 rfl)
      exact g_run (s := 44) (v := .agg #[.slice A0 W1.length c0, .slice A1 W2.length c1, .slice A2 W3.length c2, .slice A3 W4.length c3]) rfl (size_lt hf (by kernel_rfl)) (by simp [execOp, p0_, p02_]; try go_simp) (Below.refl _ _) rfl
    · intro a' w' hf hb hd
      have H13 := HH.step hb
      refine g_call (s := 45) rfl (size_lt hf (by kernel_rfl)) (by simp [execOp]; try go_simp) ((garderobelaw13_t.calls 6 0 6 0 w' rfl).mono ?_)
      rintro e w3 ⟨rfl, hb3⟩
      exact ⟨_, rfl, hb3, rfl⟩
    · intro a' w' hf hb hd
      have H13 := HH.step hb
      refine g_call (s := 46) rfl (size_lt hf (by kernel_rfl)) (by simp [execOp]; try go_simp) ((garderobelaw13_t.calls 7 0 7 0 w' rfl).mono ?_)
      rintro e w3 ⟨rfl, hb3⟩
      exact ⟨_, rfl, hb3, rfl⟩
    · intro a' w' hf hb hd
      have q44_ : a'.eval (.tmp 44) = .agg #[.slice A0 W1.length c0, .slice A1 W2.length c1, .slice A2 W3.length c2, .slice A3 W4.length c3] := hd 41 (by decide)
      have r44_ : a'.tmps[44]?.getD undef = .agg #[.slice A0 W1.length c0, .slice A1 W2.length c1, .slice A2 W3.length c2, .slice A3 W4.length c3] := by simpa [Act.eval] using q44_
      have q45_ : a'.eval (.tmp 45) = .agg #[.int .u8 6, .int .u16 0] := hd 42 (by decide)
      have r45_ : a'.tmps[45]?.getD undef = .agg #[.int .u8 6, .int .u16 0] := by simpa [Act.eval] using q45_
      have q46_ : a'.eval (.tmp 46) = .agg #[.int .u8 7, .int .u16 0] := hd 43 (by decide)
      have r46_ : a'.tmps[46]?.getD undef = .agg #[.int .u8 7, .int .u16 0] := by simpa [Act.eval] using q46_
      have H13 := HH.step hb
      refine g_call (s := 47) rfl (size_lt hf (by kernel_rfl)) (by simp [execOp, q44_, r44_, q45_, r45_, q46_, r46_]; try go_simp) ((hier_Fits.calls 9 A0 c0 W1 A1 c1 W2 A2 c2 W3 A3 c3 W4 6 0 7 0 false w' (H13.C 0 rfl) (H13.all 0 _ rfl).2.1 (H13.C 1 rfl) (H13.all 1 _ rfl).2.1 (H13.C 2 rfl) (H13.all 2 _ rfl).2.1 (H13.C 3 rfl) (H13.all 3 _ rfl).2.1 HP.out.2.2.2.2.2.2.2.1).mono ?_)
      rintro e w3 ⟨rfl, hb3⟩
      exact ⟨_, rfl, hb3, rfl⟩
    · intro a' w' hf hb hd
      have q47_ : a'.eval (.tmp 47) = .bool false := hd 44 (by decide)
      have r47_ : a'.tmps[47]?.getD undef = .bool false := by simpa [Act.eval] using q47_
      exact g_run (s := 48) (v := .bool true) rfl (size_lt hf (by kernel_rfl)) (by simp [execOp, q47_, r47_]; try go_simp) (Below.refl _ _) rfl
    · intro a' w' hf hb hd
      have q43_ : a'.eval (.tmp 43) = .bool true := hd 40 (by decide)
      have r43_ : a'.tmps[43]?.getD undef = .bool true := by simpa [Act.eval] using q43_
      have q48_ : a'.eval (.tmp 48) = .bool true := hd 45 (by decide)
      have r48_ : a'.tmps[48]?.getD undef = .bool true := by simpa [Act.eval] using q48_
      exact g_run (s := 49) (v := .bool true) rfl (size_lt hf (by kernel_rfl)) (by simp [execOp, q43_, r43_, q48_, r48_]; try go_simp) (Below.refl _ _) rfl
    · intro a' w' hf hb hd
      have q49_ : a'.eval (.tmp 49) = .bool true := hd 46 (by decide)
      have r49_ : a'.tmps[49]?.getD undef = .bool true := by simpa [Act.eval] using q49_
      exact g_run (s := 50) (v := .bool true) rfl (size_lt hf (by kernel_rfl)) (by simp [execOp, q49_, r49_]; try go_simp) (Below.refl _ _) rfl
    · intro a' w' hf hb hd
      have p0_ := frame_at2 hf 1 (.pointer (some ⟨w1.heap.size, 0, none⟩)) (by kernel_rfl) rfl
      have p02_ : a'.tmps[1]?.getD undef = .pointer (some ⟨w1.heap.size, 0, none⟩) := by simpa [Act.eval] using p0_
      obtain ⟨c0_, c1_, c2_, c3_⟩ := blk54 ((HH.step hb).B 4 rfl)
      exact g_run (s := 51) (v := .agg #[.slice A0 W1.length c0, .slice A1 W2.length c1, .slice A2 W3.length c2, .slice A3 W4.length c3]) rfl (size_lt hf (by kernel_rfl)) (by simp [execOp, p0_, p02_]; try go_simp) (Below.refl _ _) rfl
    · intro a' w' hf hb hd
      have H13 := HH.step hb
      refine g_call (s := 52) rfl (size_lt hf (by kernel_rfl)) (by simp [execOp]; try go_simp) ((garderobelaw13_t.calls 4 2 4 2 w' rfl).mono ?_)
      rintro e w3 ⟨rfl, hb3⟩
      exact ⟨_, rfl, hb3, rfl⟩
    · intro a' w' hf hb hd
      have H13 := HH.step hb
      refine g_call (s := 53) rfl (size_lt hf (by kernel_rfl)) (by simp [execOp]; try go_simp) ((garderobelaw13_t.calls 4 13 4 13 w' rfl).mono ?_)
      rintro e w3 ⟨rfl, hb3⟩
      exact ⟨_, rfl, hb3, rfl⟩
    · intro a' w' hf hb hd
      have q51_ : a'.eval (.tmp 51) = .agg #[.slice A0 W1.length c0, .slice A1 W2.length c1, .slice A2 W3.length c2, .slice A3 W4.length c3] := hd 48 (by decide)
      have r51_ : a'.tmps[51]?.getD undef = .agg #[.slice A0 W1.length c0, .slice A1 W2.length c1, .slice A2 W3.length c2, .slice A3 W4.length c3] := by simpa [Act.eval] using q51_
      have q52_ : a'.eval (.tmp 52) = .agg #[.int .u8 4, .int .u16 2] := hd 49 (by decide)
      have r52_ : a'.tmps[52]?.getD undef = .agg #[.int .u8 4, .int .u16 2] := by simpa [Act.eval] using q52_
      have q53_ : a'.eval (.tmp 53) = .agg #[.int .u8 4, .int .u16 13] := hd 50 (by decide)
      have r53_ : a'.tmps[53]?.getD undef = .agg #[.int .u8 4, .int .u16 13] := by simpa [Act.eval] using q53_
      have H13 := HH.step hb
      refine g_call (s := 54) rfl (size_lt hf (by kernel_rfl)) (by simp [execOp, q51_, r51_, q52_, r52_, q53_, r53_]; try go_simp) ((hier_Fits.calls 9 A0 c0 W1 A1 c1 W2 A2 c2 W3 A3 c3 W4 4 2 4 13 true w' (H13.C 0 rfl) (H13.all 0 _ rfl).2.1 (H13.C 1 rfl) (H13.all 1 _ rfl).2.1 (H13.C 2 rfl) (H13.all 2 _ rfl).2.1 (H13.C 3 rfl) (H13.all 3 _ rfl).2.1 HP.out.2.2.2.2.2.2.2.2.1).mono ?_)
      rintro e w3 ⟨rfl, hb3⟩
      exact ⟨_, rfl, hb3, rfl⟩
    · intro a' w' hf hb hd
      have q50_ : a'.eval (.tmp 50) = .bool true := hd 47 (by decide)
      have r50_ : a'.tmps[50]?.getD undef = .bool true := by simpa [Act.eval] using q50_
      have q54_ : a'.eval (.tmp 54) = .bool true := hd 51 (by decide)
      have r54_ : a'.tmps[54]?.getD undef = .bool true := by simpa [Act.eval] using q54_
      exact g_run (s := 55) (v := .bool true) rfl (size_lt hf (by kernel_rfl)) (by simp [execOp, q50_, r50_, q54_, r54_]; try go_simp) (Below.refl _ _) rfl
    · intro a' w' hf hb hd
      have q55_ : a'.eval (.tmp 55) = .bool true := hd 52 (by decide)
      have r55_ : a'.tmps[55]?.getD undef = .bool true := by simpa [Act.eval] using q55_
      exact g_run (s := 0) (v := .bool true) rfl (size_lt hf (by kernel_rfl)) (by simp [execOp, q55_, r55_]; try go_simp) (Below.refl _ _) rfl
  case fin =>
    intro a' w' hf hb hd
    have e0_ : a'.eval (.tmp 0) = .bool true := hd 53 (by decide)
    have HB := Aside0.mk (HH.step hb).below
    have hdf : a'.defers = [] := hf.defers
    clear hf hd hb
    obtain ⟨tm, dfs⟩ := a'
    obtain rfl : dfs = [] := hdf
    have e1_ : tm[0]?.getD undef = .bool true := by simpa [Act.eval] using e0_
    clear e0_ HH
    go_wp2
    exact bodyPost_ret (v := .bool true) (by simp [results, Try.f34, go_sem, e1_]) rfl ⟨rfl, HB.out⟩
end Go.Proofs.Ytocdpledkmmomaa.P
