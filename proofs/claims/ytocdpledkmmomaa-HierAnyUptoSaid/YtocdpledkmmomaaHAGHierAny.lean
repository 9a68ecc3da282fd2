import Derived.Test.YtocdpledkmmomaaHAPureValsAny
import Derived.Test.YtocdpledkmmomaaHAGWorks13
namespace Go.Proofs.Ytocdpledkmmomaa.P
open Go.RowKit Go.Proofs.YtocdpledkmmomaaW.PrintWords Go.Proofs.YtocdpledkmmomaaW.PrintLast Go.Proofs.YtocdpledkmmomaaW.PrintMore
set_option linter.unusedVariables false
set_option linter.unusedSimpArgs false
theorem blk30 {W : World} {b : Nat} {T : Nat} {v0 v1 : Value} (h : W.heap[b]? = some (.cells [v0, v1].toArray T (0, 0))) : W.cell? ⟨b, 0, none⟩ = some v0 ∧ W.cell? ⟨b, 1, none⟩ = some v1 := ⟨blk_cell h 0, blk_cell h 1⟩
theorem ha_small {l0 : List S110} (h1 : l0.length ≤ 1048576) (h2 : ∀ c ∈ l0, c.f3.length ≤ 1048576) : (l0.length + 1) * mxI l0 < 17592186044000 := by
  have h3 : mxI l0 ≤ 1048577 := by
    induction l0 with
    | nil => unfold mxI; simp
    | cons d l ih =>
      have h4 := h2 d List.mem_cons_self
      have h5 := ih (by simp at h1; omega) (fun c hc => h2 c (List.mem_cons_of_mem _ hc))
      unfold mxI at h5 ⊢
      rw [List.foldr_cons]
      exact Nat.max_le.2 ⟨by omega, h5⟩
  have := Nat.mul_le_mul (show l0.length + 1 ≤ 1048577 by omega) h3
  omega
set_option maxHeartbeats 4000000 in
set_option maxRecDepth 100000 in
theorem hierAny_any (A0 : Option Addr) (c0 : Nat) (l0 : List S110) (A1 : Option Addr) (c1 : Nat) (l1 : List S86) (A2 : Option Addr) (c2 : Nat) (l2 : List S185) (A3 : Option Addr) (c3 : Nat) (l3 : List S124) (a b x0 x1 y0 y1 : Int) (w : World) (hr0 : Kd.C k110 w A0 l0.length l0) (hc0 : l0.length ≤ c0) (hr1 : Kd.C k86 w A1 l1.length l1) (hc1 : l1.length ≤ c1) (hr2 : Kd.C k185 w A2 l2.length l2) (hc2 : l2.length ≤ c2) (hr3 : Kd.C k124 w A3 l3.length l3) (hc3 : l3.length ≤ c3) (hs : l0.length ≤ 1048576 ∧ ∀ c ∈ l0, c.f3.length ≤ 1048576) :
    Calls Try.prog 7 #[.agg #[.slice A0 l0.length c0, .slice A1 l1.length c1, .slice A2 l2.length c2, .slice A3 l3.length c3], .int .i64 a, .int .i64 b, .agg #[.int .u8 x0, .int .u16 x1], .agg #[.int .u8 y0, .int .u16 y1]] w fun e w' => e = .returned (.bool true) ∧ Below w.heap.size w w' := by
  have hu54 := Try.underlying54
  have hu30 := Try.underlying30
  have hlen : l0.length < 17592186044000 := by omega
  have hlen2 : l0.length < 9223372036854775807 := by omega
  have hm := ha_small hs.1 hs.2
  have h28 : Aside0 (∃ r, hier_Up.f l0 l1 l2 l3 a = some r) := ⟨_, if_pos hlen⟩
  have h29 : Aside0 (∃ r, hier_From.f l0 l1 l2 l3 a b = some r) := ⟨_, if_pos hlen2⟩
  have h30 : Aside0 (∃ r, hier_Common.f l0 l1 l2 l3 a b = some r) := ⟨_, if_pos hlen2⟩
  have h31 : Aside0 (∃ r, hier_Ifaces.f l0 l1 l2 l3 a = some r) := ⟨_, if_pos hm⟩
  have h32 : Aside0 (∃ r, hier_Shared.f l0 l1 l2 l3 a = some r) := ⟨_, if_pos hm⟩
  have h33 : Aside0 (∃ r, hier_Fits.f 2 l0 l1 l2 l3 x0 x1 y0 y1 = some r) := ⟨Option.isSome_iff_exists.1 (hierFits_is 0 l0 l1 l2 l3 x0 x1 y0 y1 hlen2)⟩
  have HW : Aside0 (WorldC w A0 c0 l0 A1 c1 l1 A2 c2 l2 A3 c3 l3) := ⟨hr0, hc0, hr1, hc1, hr2, hc2, hr3, hc3⟩
  clear hr0 hc0 hr1 hc1 hr2 hc2 hr3 hc3 hs hlen hlen2 hm
  have H := Aside0.mk (((Hold.nil w).allocB [.slice A0 l0.length c0, .slice A1 l1.length c1, .slice A2 l2.length c2, .slice A3 l3.length c3] 54 |>.allocB [.int .u8 x0, .int .u16 x1] 30) |>.allocB [.int .u8 y0, .int .u16 y1] 30)
  simp only [List.nil_append, List.cons_append, World.size_alloc] at H
  go_enter Try.func7, Try.ntmps7
  obtain ⟨r28, hr28⟩ := h28.out
  have HR28 := Aside0.mk hr28
  clear hr28
  have HW_ := Aside0.mk (HW.out.step H.out.below)
  go_wp2_with fail
  refine (hier_Up.calls A0 c0 l0 A1 c1 l1 A2 c2 l2 A3 c3 l3 a r28 _ HW_.out.r0 HW_.out.h0 HW_.out.r1 HW_.out.h1 HW_.out.r2 HW_.out.h2 HW_.out.r3 HW_.out.h3 HR28.out).mono ?_
  rintro e w1 ⟨v28, rfl, hR_, hb1⟩
  clear hR_
  have H1_ := Aside0.mk (H.out.step hb1)
  clear hb1 HW_ H
  obtain ⟨r29, hr29⟩ := h29.out
  have HR29 := Aside0.mk hr29
  clear hr29
  have HW_ := Aside0.mk (HW.out.step H1_.out.below)
  obtain ⟨k0, k1, k2, k3⟩ := blk54 (H1_.out.B 0 rfl)
  go_wp2_with fail
  refine (hier_From.calls A0 c0 l0 A1 c1 l1 A2 c2 l2 A3 c3 l3 a b r29 _ HW_.out.r0 HW_.out.h0 HW_.out.r1 HW_.out.h1 HW_.out.r2 HW_.out.h2 HW_.out.r3 HW_.out.h3 HR29.out).mono ?_
  rintro e w2 ⟨rfl, hb1⟩
  have H2_ := Aside0.mk (H1_.out.step hb1)
  clear hb1 HW_ H1_ k0 k1 k2 k3
  obtain ⟨r30, hr30⟩ := h30.out
  have HR30 := Aside0.mk hr30
  clear hr30
  have HW_ := Aside0.mk (HW.out.step H2_.out.below)
  obtain ⟨k0, k1, k2, k3⟩ := blk54 (H2_.out.B 0 rfl)
  go_wp2_with fail
  refine (hier_Common.calls A0 c0 l0 A1 c1 l1 A2 c2 l2 A3 c3 l3 a b r30 _ HW_.out.r0 HW_.out.h0 HW_.out.r1 HW_.out.h1 HW_.out.r2 HW_.out.h2 HW_.out.r3 HW_.out.h3 HR30.out).mono ?_
  rintro e w3 ⟨rfl, hb1⟩
  have H3_ := Aside0.mk (H2_.out.step hb1)
  clear hb1 HW_ H2_ k0 k1 k2 k3
  obtain ⟨r31, hr31⟩ := h31.out
  have HR31 := Aside0.mk hr31
  clear hr31
  have HW_ := Aside0.mk (HW.out.step H3_.out.below)
  obtain ⟨k0, k1, k2, k3⟩ := blk54 (H3_.out.B 0 rfl)
  go_wp2_with fail
  refine (hier_Ifaces.calls A0 c0 l0 A1 c1 l1 A2 c2 l2 A3 c3 l3 a r31 _ HW_.out.r0 HW_.out.h0 HW_.out.r1 HW_.out.h1 HW_.out.r2 HW_.out.h2 HW_.out.r3 HW_.out.h3 HR31.out).mono ?_
  rintro e w4 ⟨v31, rfl, hR_, hb1⟩
  clear hR_
  have H4_ := Aside0.mk (H3_.out.step hb1)
  clear hb1 HW_ H3_ k0 k1 k2 k3
  obtain ⟨r32, hr32⟩ := h32.out
  have HR32 := Aside0.mk hr32
  clear hr32
  have HW_ := Aside0.mk (HW.out.step H4_.out.below)
  obtain ⟨k0, k1, k2, k3⟩ := blk54 (H4_.out.B 0 rfl)
  go_wp2_with fail
  refine (hier_Shared.calls A0 c0 l0 A1 c1 l1 A2 c2 l2 A3 c3 l3 a r32 _ HW_.out.r0 HW_.out.h0 HW_.out.r1 HW_.out.h1 HW_.out.r2 HW_.out.h2 HW_.out.r3 HW_.out.h3 HR32.out).mono ?_
  rintro e w5 ⟨rfl, hb1⟩
  have H5_ := Aside0.mk (H4_.out.step hb1)
  clear hb1 HW_ H4_ k0 k1 k2 k3
  obtain ⟨r33, hr33⟩ := h33.out
  have HR33 := Aside0.mk hr33
  clear hr33
  have HW_ := Aside0.mk (HW.out.step H5_.out.below)
  obtain ⟨k0, k1, k2, k3⟩ := blk54 (H5_.out.B 0 rfl)
  obtain ⟨m0, m1⟩ := blk30 (H5_.out.B 1 rfl)
  obtain ⟨n0, n1⟩ := blk30 (H5_.out.B 2 rfl)
  go_wp2_with fail
  refine (hier_Fits.calls 2 A0 c0 l0 A1 c1 l1 A2 c2 l2 A3 c3 l3 x0 x1 y0 y1 r33 _ HW_.out.r0 HW_.out.h0 HW_.out.r1 HW_.out.h1 HW_.out.r2 HW_.out.h2 HW_.out.r3 HW_.out.h3 HR33.out).mono ?_
  rintro e w6 ⟨rfl, hb1⟩
  have H6_ := Aside0.mk (H5_.out.step hb1)
  clear hb1 HW_ H5_ k0 k1 k2 k3 m0 m1 n0 n1
  go_wp2_with fail
  refine (works13_any _).mono ?_
  rintro e w7 ⟨rfl, hb1⟩
  have HF := Aside0.mk (H6_.out.step hb1)
  clear hb1
  go_wp2
  go_ret
  exact ⟨rfl, HF.out.below⟩
end Go.Proofs.Ytocdpledkmmomaa.P
