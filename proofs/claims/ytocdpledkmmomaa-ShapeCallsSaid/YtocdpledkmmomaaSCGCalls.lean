import Derived.Test.YtocdpledkmmomaaSCPx8
import Derived.Test.YtocdpledkmmomaaSCPx9
import Derived.Test.YtocdpledkmmomaaSCPx10
import Derived.Test.YtocdpledkmmomaaSCGLives17
namespace Go.Proofs.Ytocdpledkmmomaa.P
open Go.RowKit Go.Proofs.YtocdpledkmmomaaW.PrintWords Go.Proofs.YtocdpledkmmomaaW.PrintLast Go.Proofs.YtocdpledkmmomaaW.PrintMore
set_option linter.unusedVariables false
set_option linter.unusedSimpArgs false
theorem blk32 {W : World} {b : Nat} {T : Nat} {v0 v1 v2 v3 : Value} (h : W.heap[b]? = some (.cells [v0, v1, v2, v3].toArray T (0, 0))) : W.cell? ⟨b, 0, none⟩ = some v0 ∧ W.cell? ⟨b, 1, none⟩ = some v1 ∧ W.cell? ⟨b, 2, none⟩ = some v2 ∧ W.cell? ⟨b, 3, none⟩ = some v3 := ⟨blk_cell h 0, blk_cell h 1, blk_cell h 2, blk_cell h 3⟩
structure ScEqs (k : Nat) (L S : List S32) (C : List Int) (place v0 v1 v2 v3 : Int) (c1 c2 : List S32) (c3 : List Int) (a1 a2 : List S32) (a3 : List Int) (ae : Int) (b1 b2 : List S32) (b3 : List Int) (d1 d2 : List S32) (d3 : List Int) (dn dg : Int) (e1 e2 : List S32) (e3 : List Int) : Prop where
  great : garderobelaw17_great.f L S C = some false
  copy : garderoberef17_Copy.f L S C = some (c1, c2, c3)
  a : shape_Call.f k L S C place = some (a1, a2, a3, ae)
  b : garderoberef17_Call.f k L S C place = some (b1, b2, b3, ae)
  ab : garderoberef17_Same.f k a1 a2 a3 b1 b2 b3 = some true
  d : shape_Return.f k L S C v0 v1 v2 v3 = some (d1, d2, d3, dn, dg)
  e : garderoberef17_Return.f k L S C v0 v1 v2 v3 = some (e1, e2, e3, dn, dg)
  de : garderoberef17_Same.f k d1 d2 d3 e1 e2 e3 = some true
  was : garderoberef17_Same.f k L S C c1 c2 c3 = some true
set_option maxHeartbeats 4000000 in
set_option maxRecDepth 100000 in
theorem shapeCalls_walk (k : Nat) (A0 : Option Addr) (z0 : Nat) (L : List S32) (A1 : Option Addr) (z1 : Nat) (S : List S32) (A2 : Option Addr) (z2 : Nat) (C : List Int) (place v0 v1 v2 v3 : Int) (c1 c2 : List S32) (c3 : List Int) (a1 a2 : List S32) (a3 : List Int) (ae : Int) (b1 b2 : List S32) (b3 : List Int) (d1 d2 : List S32) (d3 : List Int) (dn dg : Int) (e1 e2 : List S32) (e3 : List Int)
    (hq : ScEqs k L S C place v0 v1 v2 v3 c1 c2 c3 a1 a2 a3 ae b1 b2 b3 d1 d2 d3 dn dg e1 e2 e3) (w : World) (hL : Kd.C k32 w A0 L.length L) (lL : L.length ≤ z0) (hS : Kd.C k32 w A1 S.length S) (lS : S.length ≤ z1) (hC : Kd.C (Kd.int .i64) w A2 C.length C) (lC : C.length ≤ z2) :
    Calls Try.prog 3 #[.agg #[.slice A0 L.length z0, .slice A1 S.length z1, .slice A2 C.length z2], .int .i64 place, .agg #[.int .u8 v0, .int .u8 v1, .int .u16 v2, .int .i64 v3]] w fun e w' => e = .returned (.bool true) ∧ Below w.heap.size w w' := by
  have hu25 := Try.underlying25
  have hu32 := Try.underlying32
  have HQ := Aside0.mk hq
  have H := Aside0.mk (((((Hold.nil w).add (mC k32 A0 L L.length z0) ⟨rfl, lL, hL⟩).add (mC k32 A1 S S.length z1) ⟨rfl, lS, hS⟩).add (mC (Kd.int .i64) A2 C C.length z2) ⟨rfl, lC, hC⟩).allocB [.slice A0 L.length z0, .slice A1 S.length z1, .slice A2 C.length z2] 25 |>.allocB [.int .u8 v0, .int .u8 v1, .int .u16 v2, .int .i64 v3] 32)
  simp only [List.nil_append, List.cons_append, World.size_alloc] at H
  clear hq hL lL hS lS hC lC
  go_enter Try.func3, Try.ntmps3
  go_wp2_with fail
  refine (garderobelaw17_great.calls A0 z0 L A1 z1 S A2 z2 C false _ (H.out.C 0 rfl) (H.out.all 0 _ rfl).2.1 (H.out.C 1 rfl) (H.out.all 1 _ rfl).2.1 (H.out.C 2 rfl) (H.out.all 2 _ rfl).2.1 HQ.out.great).mono ?_
  rintro e w1 ⟨rfl, hb⟩
  have H1_ := Aside0.mk (H.out.step hb)
  clear hb H
  obtain ⟨k0_0, k0_1, k0_2⟩ := blk25 (H1_.out.B 3 rfl)
  go_wp2_with fail
  refine (garderoberef17_Copy.calls A0 z0 L A1 z1 S A2 z2 C c1 c2 c3 _ (H1_.out.C 0 rfl) (H1_.out.all 0 _ rfl).2.1 (H1_.out.C 1 rfl) (H1_.out.all 1 _ rfl).2.1 (H1_.out.C 2 rfl) (H1_.out.all 2 _ rfl).2.1 HQ.out.copy).mono ?_
  rintro e w2 ⟨x0_, x1_, x2_, rfl, g0_, g1_, g2_, hb⟩
  obtain ⟨P0, yP0, rfl, h1_⟩ := (H1_.out.step hb).addR g0_
  obtain ⟨P1, yP1, rfl, h2_⟩ := h1_.addR g1_
  obtain ⟨P2, yP2, rfl, h3_⟩ := h2_.addR g2_
  have H2_ := Aside0.mk (h3_.allocB [.slice P0 c1.length yP0, .slice P1 c2.length yP1, .slice P2 c3.length yP2] 25)
  simp only [List.nil_append, List.cons_append] at H2_
  clear g0_ g1_ g2_ hb h1_ h2_ h3_ H1_
  clear k0_0 k0_1 k0_2
  obtain ⟨k0_0, k0_1, k0_2⟩ := blk25 (H2_.out.B 3 rfl)
  go_wp2_with fail
  refine (shape_Call.calls k A0 z0 L A1 z1 S A2 z2 C place a1 a2 a3 ae _ (H2_.out.C 0 rfl) (H2_.out.all 0 _ rfl).2.1 (H2_.out.C 1 rfl) (H2_.out.all 1 _ rfl).2.1 (H2_.out.C 2 rfl) (H2_.out.all 2 _ rfl).2.1 HQ.out.a).mono ?_
  rintro e w3 ⟨x0_, x1_, x2_, rfl, g0_, g1_, g2_, hb⟩
  obtain ⟨Q0, yQ0, rfl, h1_⟩ := (H2_.out.step hb).addR g0_
  obtain ⟨Q1, yQ1, rfl, h2_⟩ := h1_.addR g1_
  obtain ⟨Q2, yQ2, rfl, h3_⟩ := h2_.addR g2_
  have H3_ := Aside0.mk (h3_.allocB [.slice Q0 a1.length yQ0, .slice Q1 a2.length yQ1, .slice Q2 a3.length yQ2] 25)
  simp only [List.nil_append, List.cons_append] at H3_
  clear g0_ g1_ g2_ hb h1_ h2_ h3_ H2_
  clear k0_0 k0_1 k0_2
  obtain ⟨k0_0, k0_1, k0_2⟩ := blk25 (H3_.out.B 3 rfl)
  go_wp2_with fail
  refine (garderoberef17_Call.calls k A0 z0 L A1 z1 S A2 z2 C place b1 b2 b3 ae _ (H3_.out.C 0 rfl) (H3_.out.all 0 _ rfl).2.1 (H3_.out.C 1 rfl) (H3_.out.all 1 _ rfl).2.1 (H3_.out.C 2 rfl) (H3_.out.all 2 _ rfl).2.1 HQ.out.b).mono ?_
  rintro e w4 ⟨x0_, x1_, x2_, rfl, g0_, g1_, g2_, hb⟩
  obtain ⟨R0, yR0, rfl, h1_⟩ := (H3_.out.step hb).addR g0_
  obtain ⟨R1, yR1, rfl, h2_⟩ := h1_.addR g1_
  obtain ⟨R2, yR2, rfl, h3_⟩ := h2_.addR g2_
  have H4_ := Aside0.mk (h3_.allocB [.slice R0 b1.length yR0, .slice R1 b2.length yR1, .slice R2 b3.length yR2] 25)
  simp only [List.nil_append, List.cons_append] at H4_
  clear g0_ g1_ g2_ hb h1_ h2_ h3_ H3_
  clear k0_0 k0_1 k0_2
  obtain ⟨k0_0, k0_1, k0_2⟩ := blk25 (H4_.out.B 12 rfl)
  obtain ⟨k1_0, k1_1, k1_2⟩ := blk25 (H4_.out.B 16 rfl)
  go_wp2_with fail
  refine (garderoberef17_Same.calls k Q0 yQ0 a1 Q1 yQ1 a2 Q2 yQ2 a3 R0 yR0 b1 R1 yR1 b2 R2 yR2 b3 true _ (H4_.out.C 9 rfl) (H4_.out.all 9 _ rfl).2.1 (H4_.out.C 10 rfl) (H4_.out.all 10 _ rfl).2.1 (H4_.out.C 11 rfl) (H4_.out.all 11 _ rfl).2.1 (H4_.out.C 13 rfl) (H4_.out.all 13 _ rfl).2.1 (H4_.out.C 14 rfl) (H4_.out.all 14 _ rfl).2.1 (H4_.out.C 15 rfl) (H4_.out.all 15 _ rfl).2.1 HQ.out.ab).mono ?_
  rintro e w5 ⟨rfl, hb⟩
  have H5_ := Aside0.mk (H4_.out.step hb)
  clear hb H4_
  clear k0_0 k0_1 k0_2 k1_0 k1_1 k1_2
  obtain ⟨k0_0, k0_1, k0_2⟩ := blk25 (H5_.out.B 3 rfl)
  obtain ⟨k1_0, k1_1, k1_2, k1_3⟩ := blk32 (H5_.out.B 4 rfl)
  go_wp2_with fail
  refine (shape_Return.calls k A0 z0 L A1 z1 S A2 z2 C v0 v1 v2 v3 d1 d2 d3 dn dg _ (H5_.out.C 0 rfl) (H5_.out.all 0 _ rfl).2.1 (H5_.out.C 1 rfl) (H5_.out.all 1 _ rfl).2.1 (H5_.out.C 2 rfl) (H5_.out.all 2 _ rfl).2.1 HQ.out.d).mono ?_
  rintro e w6 ⟨x0_, x1_, x2_, rfl, g0_, g1_, g2_, hb⟩
  obtain ⟨T0, yT0, rfl, h1_⟩ := (H5_.out.step hb).addR g0_
  obtain ⟨T1, yT1, rfl, h2_⟩ := h1_.addR g1_
  obtain ⟨T2, yT2, rfl, h3_⟩ := h2_.addR g2_
  have H6_ := Aside0.mk (h3_.allocB [.slice T0 d1.length yT0, .slice T1 d2.length yT1, .slice T2 d3.length yT2] 25)
  simp only [List.nil_append, List.cons_append] at H6_
  clear g0_ g1_ g2_ hb h1_ h2_ h3_ H5_
  clear k0_0 k0_1 k0_2 k1_0 k1_1 k1_2 k1_3
  obtain ⟨k0_0, k0_1, k0_2⟩ := blk25 (H6_.out.B 3 rfl)
  obtain ⟨k1_0, k1_1, k1_2, k1_3⟩ := blk32 (H6_.out.B 4 rfl)
  go_wp2_with fail
  refine (garderoberef17_Return.calls k A0 z0 L A1 z1 S A2 z2 C v0 v1 v2 v3 e1 e2 e3 dn dg _ (H6_.out.C 0 rfl) (H6_.out.all 0 _ rfl).2.1 (H6_.out.C 1 rfl) (H6_.out.all 1 _ rfl).2.1 (H6_.out.C 2 rfl) (H6_.out.all 2 _ rfl).2.1 HQ.out.e).mono ?_
  rintro e w7 ⟨x0_, x1_, x2_, rfl, g0_, g1_, g2_, hb⟩
  obtain ⟨U0, yU0, rfl, h1_⟩ := (H6_.out.step hb).addR g0_
  obtain ⟨U1, yU1, rfl, h2_⟩ := h1_.addR g1_
  obtain ⟨U2, yU2, rfl, h3_⟩ := h2_.addR g2_
  have H7_ := Aside0.mk (h3_.allocB [.slice U0 e1.length yU0, .slice U1 e2.length yU1, .slice U2 e3.length yU2] 25)
  simp only [List.nil_append, List.cons_append] at H7_
  clear g0_ g1_ g2_ hb h1_ h2_ h3_ H6_
  clear k0_0 k0_1 k0_2 k1_0 k1_1 k1_2 k1_3
  obtain ⟨k0_0, k0_1, k0_2⟩ := blk25 (H7_.out.B 20 rfl)
  obtain ⟨k1_0, k1_1, k1_2⟩ := blk25 (H7_.out.B 24 rfl)
  go_wp2_with fail
  refine (garderoberef17_Same.calls k T0 yT0 d1 T1 yT1 d2 T2 yT2 d3 U0 yU0 e1 U1 yU1 e2 U2 yU2 e3 true _ (H7_.out.C 17 rfl) (H7_.out.all 17 _ rfl).2.1 (H7_.out.C 18 rfl) (H7_.out.all 18 _ rfl).2.1 (H7_.out.C 19 rfl) (H7_.out.all 19 _ rfl).2.1 (H7_.out.C 21 rfl) (H7_.out.all 21 _ rfl).2.1 (H7_.out.C 22 rfl) (H7_.out.all 22 _ rfl).2.1 (H7_.out.C 23 rfl) (H7_.out.all 23 _ rfl).2.1 HQ.out.de).mono ?_
  rintro e w8 ⟨rfl, hb⟩
  have H8_ := Aside0.mk (H7_.out.step hb)
  clear hb H7_
  clear k0_0 k0_1 k0_2 k1_0 k1_1 k1_2
  obtain ⟨k0_0, k0_1, k0_2⟩ := blk25 (H8_.out.B 3 rfl)
  obtain ⟨k1_0, k1_1, k1_2⟩ := blk25 (H8_.out.B 8 rfl)
  go_wp2_with fail
  refine (garderoberef17_Same.calls k A0 z0 L A1 z1 S A2 z2 C P0 yP0 c1 P1 yP1 c2 P2 yP2 c3 true _ (H8_.out.C 0 rfl) (H8_.out.all 0 _ rfl).2.1 (H8_.out.C 1 rfl) (H8_.out.all 1 _ rfl).2.1 (H8_.out.C 2 rfl) (H8_.out.all 2 _ rfl).2.1 (H8_.out.C 5 rfl) (H8_.out.all 5 _ rfl).2.1 (H8_.out.C 6 rfl) (H8_.out.all 6 _ rfl).2.1 (H8_.out.C 7 rfl) (H8_.out.all 7 _ rfl).2.1 HQ.out.was).mono ?_
  rintro e w9 ⟨rfl, hb⟩
  have H9_ := Aside0.mk (H8_.out.step hb)
  clear hb H8_
  clear k0_0 k0_1 k0_2 k1_0 k1_1 k1_2
  go_wp2_with fail
  refine (lives17_any _).mono ?_
  rintro e w10 ⟨rfl, hb⟩
  have HF := Aside0.mk (H9_.out.step hb).below
  clear hb
  go_wp2
  go_ret
  exact ⟨rfl, HF.out⟩
end Go.Proofs.Ytocdpledkmmomaa.P
