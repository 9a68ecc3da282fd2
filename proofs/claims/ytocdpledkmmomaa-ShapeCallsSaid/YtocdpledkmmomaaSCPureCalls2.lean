import Derived.Test.YtocdpledkmmomaaSCPureCalls
namespace Go.Proofs.Ytocdpledkmmomaa.P
open Go.RowKit Go.Proofs.YtocdpledkmmomaaW.PrintWords Go.Proofs.YtocdpledkmmomaaW.PrintLast Go.Proofs.YtocdpledkmmomaaW.PrintMore
set_option linter.unusedVariables false
set_option linter.unusedSimpArgs false
set_option maxHeartbeats 4000000 in
set_option maxRecDepth 100000 in
theorem shapeCalls_great (A0 : Option Addr) (z0 : Nat) (L : List S32) (A1 : Option Addr) (z1 : Nat) (S : List S32) (A2 : Option Addr) (z2 : Nat) (C : List Int) (place v0 v1 v2 v3 : Int) (hg : garderobelaw17_great.f L S C = some true)
    (w : World) (hL : Kd.C k32 w A0 L.length L) (lL : L.length ≤ z0) (hS : Kd.C k32 w A1 S.length S) (lS : S.length ≤ z1) (hC : Kd.C (Kd.int .i64) w A2 C.length C) (lC : C.length ≤ z2) :
    Calls Try.prog 3 #[.agg #[.slice A0 L.length z0, .slice A1 S.length z1, .slice A2 C.length z2], .int .i64 place, .agg #[.int .u8 v0, .int .u8 v1, .int .u16 v2, .int .i64 v3]] w fun e w' => e = .returned (.bool true) ∧ Below w.heap.size w w' := by
  have hu25 := Try.underlying25
  have hu32 := Try.underlying32
  have HQ := Aside0.mk hg
  have H := Aside0.mk (((((Hold.nil w).add (mC k32 A0 L L.length z0) ⟨rfl, lL, hL⟩).add (mC k32 A1 S S.length z1) ⟨rfl, lS, hS⟩).add (mC (Kd.int .i64) A2 C C.length z2) ⟨rfl, lC, hC⟩).allocB [.slice A0 L.length z0, .slice A1 S.length z1, .slice A2 C.length z2] 25 |>.allocB [.int .u8 v0, .int .u8 v1, .int .u16 v2, .int .i64 v3] 32)
  simp only [List.nil_append, List.cons_append, World.size_alloc] at H
  clear hg hL lL hS lS hC lC
  go_enter Try.func3, Try.ntmps3
  go_wp2_with fail
  refine (garderobelaw17_great.calls A0 z0 L A1 z1 S A2 z2 C true _ (H.out.C 0 rfl) (H.out.all 0 _ rfl).2.1 (H.out.C 1 rfl) (H.out.all 1 _ rfl).2.1 (H.out.C 2 rfl) (H.out.all 2 _ rfl).2.1 HQ.out).mono ?_
  rintro e w1 ⟨rfl, hb⟩
  have H1 := Aside0.mk (H.out.step hb)
  clear hb H
  go_wp2_with fail
  refine (lives17_any _).mono ?_
  rintro e w10 ⟨rfl, hb⟩
  have HF := Aside0.mk (H1.out.step hb).below
  clear hb
  go_wp2
  go_ret
  exact ⟨rfl, HF.out⟩
theorem shapeCalls_any (A0 : Option Addr) (z0 : Nat) (L : List S32) (A1 : Option Addr) (z1 : Nat) (S : List S32) (A2 : Option Addr) (z2 : Nat) (C : List Int) (place v0 v1 v2 v3 : Int)
    (w : World) (hL : Kd.C k32 w A0 L.length L) (lL : L.length ≤ z0) (hS : Kd.C k32 w A1 S.length S) (lS : S.length ≤ z1) (hC : Kd.C (Kd.int .i64) w A2 C.length C) (lC : C.length ≤ z2) :
    Calls Try.prog 3 #[.agg #[.slice A0 L.length z0, .slice A1 S.length z1, .slice A2 C.length z2], .int .i64 place, .agg #[.int .u8 v0, .int .u8 v1, .int .u16 v2, .int .i64 v3]] w fun e w' => e = .returned (.bool true) ∧ Below w.heap.size w w' := by
  rcases great_cases L S C with ⟨h1, h2, h3, hg⟩ | hg
  · exact shapeCalls_walk (999 + 1) A0 z0 L A1 z1 S A2 z2 C place v0 v1 v2 v3 _ _ _ _ _ _ _ _ _ _ _ _ _ _ _ _ _ _ (scEqs 999 (by omega) L S C place v0 v1 v2 v3 h1 h2 h3 hg) w hL lL hS lS hC lC
  · exact shapeCalls_great A0 z0 L A1 z1 S A2 z2 C place v0 v1 v2 v3 hg w hL lL hS lS hC lC
end Go.Proofs.Ytocdpledkmmomaa.P
