import Derived.Test.YtocdpledkmmomaaHAGFrom
namespace Go.Proofs.Ytocdpledkmmomaa.P
open Go.RowKit Go.Shelf Go.Proofs.YtocdpledkmmomaaW.PrintWords Go.Proofs.YtocdpledkmmomaaW.PrintLast Go.Proofs.YtocdpledkmmomaaW.PrintMore
set_option linter.unusedVariables false
set_option linter.unusedSimpArgs false
attribute [local go_sem] Oper.semAt_some
def isIf (l0 : List S110) (x : Int) : Bool := (Go.bits .and .u8 ((rd_T110 l0 x).f1) 1) != 0
theorem iface_of {l0 : List S110} {l1 : List S86} {l2 : List S185} {l3 : List S124} {x : Int} {r : Bool} (h : 0 ≤ x ∧ x < (l0.length : Int)) (hr : isIf l0 x = r) : hier_iface.f l0 l1 l2 l3 x = some r := by
  unfold hier_iface.f
  rw [if_pos h.1, if_pos h.2, ← hr]
  rfl
theorem from_of {l0 : List S110} {l1 : List S86} {l2 : List S185} {l3 : List S124} {a b : Int} (h : l0.length < 9223372036854775807) : hier_From.f l0 l1 l2 l3 a b = some (fromB l0 a b) := by
  unfold hier_From.f
  rw [if_pos h]
theorem find_prefix {α : Type} {f : α → Bool} {l l' : List α} {x : α} (hp : l <+: l') (h : l.find? f = some x) : l'.find? f = some x := by
  obtain ⟨t, rfl⟩ := hp
  rw [List.find?_append, h]
  rfl
def commonL (l0 : List S110) (a b : Int) : Int := match (upsL l0 (l0.length + 1) a).find? fun c => fromB l0 b c.1 with
  | some c => c.1
  | none => 0
def commonI (l0 : List S110) (a b : Int) : Int := if (0 ≤ a ∧ a < (l0.length : Int)) ∧ (0 ≤ b ∧ b < (l0.length : Int)) then (if isIf l0 a || isIf l0 b then 0 else commonL l0 a b) else -1
set_option maxHeartbeats 4000000 in
set_option maxRecDepth 100000 in
theorem common_1 (A0 : Option Addr) (c0 : Nat) (l0 : List S110) (A1 : Option Addr) (c1 : Nat) (l1 : List S86) (A2 : Option Addr) (c2 : Nat) (l2 : List S185) (A3 : Option Addr) (c3 : Nat) (l3 : List S124) (a b : Int) (w : World) (hW : WorldC w A0 c0 l0 A1 c1 l1 A2 c2 l2 A3 c3 l3) (h1 : ¬ (0 ≤ a ∧ a < (l0.length : Int))) :
    Calls Try.prog 30 #[.agg #[.slice A0 l0.length c0, .slice A1 l1.length c1, .slice A2 l2.length c2, .slice A3 l3.length c3], .int .i64 a, .int .i64 b] w fun e w' => e = .returned (.int .i64 (-1)) ∧ Below w.heap.size w w' := by
  have hu54 := Try.underlying54
  have H := Aside0.mk (((Hold.nil w).allocB [.slice A0 l0.length c0, .slice A1 l1.length c1, .slice A2 l2.length c2, .slice A3 l3.length c3] 54 |>.allocB [.int .i64 b] 3) |>.allocB [.int .i64 0] 3)
  simp only [List.nil_append, List.cons_append, World.size_alloc] at H
  have h1' := Aside0.mk h1
  clear h1
  have HW := Aside0.mk hW
  clear hW
  go_enter Try.func30, Try.ntmps30
  have HW_ := Aside0.mk (HW.out.step H.out.below)
  go_wp2_with fail
  refine (hier_there.calls A0 c0 l0 A1 c1 l1 A2 c2 l2 A3 c3 l3 a _ _ HW_.out.r0 HW_.out.h0 HW_.out.r1 HW_.out.h1 HW_.out.r2 HW_.out.h2 HW_.out.r3 HW_.out.h3 (there_false h1'.out)).mono ?_
  rintro e w1 ⟨rfl, hb1⟩
  have H1_ := Aside0.mk (H.out.step hb1)
  clear hb1 HW_ H
  have f2 : w1.cell? ⟨w.heap.size + 1 + 1, 0, none⟩ = some (.int .i64 0) := blk_cell (H1_.out.B 2 rfl) 0
  have f3 : w1.frozen? ⟨w.heap.size + 1 + 1, 0, none⟩ = false := blk_frozen (H1_.out.B 2 rfl) 0
  have f4 := World.cell?_setCell_same' w1 ⟨w.heap.size + 1 + 1, 0, none⟩ (.int .i64 (-1)) (by rw [f2]; rfl)
  go_wp2
  exact bodyPost_ret (v := .int .i64 (-1)) (by simp [results, Try.f30, go_sem, f4]) rfl ⟨rfl, H1_.out.below.setCell (p := ⟨w.heap.size + 1 + 1, 0, none⟩) (by simp; omega) _⟩
set_option maxHeartbeats 4000000 in
set_option maxRecDepth 100000 in
theorem common_2 (A0 : Option Addr) (c0 : Nat) (l0 : List S110) (A1 : Option Addr) (c1 : Nat) (l1 : List S86) (A2 : Option Addr) (c2 : Nat) (l2 : List S185) (A3 : Option Addr) (c3 : Nat) (l3 : List S124) (a b : Int) (w : World) (hW : WorldC w A0 c0 l0 A1 c1 l1 A2 c2 l2 A3 c3 l3) (h1 : (0 ≤ a ∧ a < (l0.length : Int))) (h2 : ¬ (0 ≤ b ∧ b < (l0.length : Int))) :
    Calls Try.prog 30 #[.agg #[.slice A0 l0.length c0, .slice A1 l1.length c1, .slice A2 l2.length c2, .slice A3 l3.length c3], .int .i64 a, .int .i64 b] w fun e w' => e = .returned (.int .i64 (-1)) ∧ Below w.heap.size w w' := by
  have hu54 := Try.underlying54
  have H := Aside0.mk (((Hold.nil w).allocB [.slice A0 l0.length c0, .slice A1 l1.length c1, .slice A2 l2.length c2, .slice A3 l3.length c3] 54 |>.allocB [.int .i64 b] 3) |>.allocB [.int .i64 0] 3)
  simp only [List.nil_append, List.cons_append, World.size_alloc] at H
  have h1' := Aside0.mk h1
  have h2' := Aside0.mk h2
  clear h1 h2
  have HW := Aside0.mk hW
  clear hW
  go_enter Try.func30, Try.ntmps30
  have HW_ := Aside0.mk (HW.out.step H.out.below)
  go_wp2_with fail
  refine (hier_there.calls A0 c0 l0 A1 c1 l1 A2 c2 l2 A3 c3 l3 a _ _ HW_.out.r0 HW_.out.h0 HW_.out.r1 HW_.out.h1 HW_.out.r2 HW_.out.h2 HW_.out.r3 HW_.out.h3 (there_true h1'.out)).mono ?_
  rintro e w1 ⟨rfl, hb1⟩
  have H1_ := Aside0.mk (H.out.step hb1)
  clear hb1 HW_ H
  have HW_ := Aside0.mk (HW.out.step H1_.out.below)
  obtain ⟨k0, k1, k2, k3⟩ := blk54 (H1_.out.B 0 rfl)
  have k4 : w1.cell? ⟨w.heap.size + 1, 0, none⟩ = some (.int .i64 b) := blk_cell (H1_.out.B 1 rfl) 0
  go_wp2_with fail
  refine (hier_there.calls A0 c0 l0 A1 c1 l1 A2 c2 l2 A3 c3 l3 b _ _ HW_.out.r0 HW_.out.h0 HW_.out.r1 HW_.out.h1 HW_.out.r2 HW_.out.h2 HW_.out.r3 HW_.out.h3 (there_false h2'.out)).mono ?_
  rintro e w2 ⟨rfl, hb1⟩
  have H2_ := Aside0.mk (H1_.out.step hb1)
  clear hb1 HW_ H1_ k0 k1 k2 k3 k4
  have f2 : w2.cell? ⟨w.heap.size + 1 + 1, 0, none⟩ = some (.int .i64 0) := blk_cell (H2_.out.B 2 rfl) 0
  have f3 : w2.frozen? ⟨w.heap.size + 1 + 1, 0, none⟩ = false := blk_frozen (H2_.out.B 2 rfl) 0
  have f4 := World.cell?_setCell_same' w2 ⟨w.heap.size + 1 + 1, 0, none⟩ (.int .i64 (-1)) (by rw [f2]; rfl)
  go_wp2
  exact bodyPost_ret (v := .int .i64 (-1)) (by simp [results, Try.f30, go_sem, f4]) rfl ⟨rfl, H2_.out.below.setCell (p := ⟨w.heap.size + 1 + 1, 0, none⟩) (by simp; omega) _⟩
set_option maxHeartbeats 4000000 in
set_option maxRecDepth 100000 in
theorem common_3 (A0 : Option Addr) (c0 : Nat) (l0 : List S110) (A1 : Option Addr) (c1 : Nat) (l1 : List S86) (A2 : Option Addr) (c2 : Nat) (l2 : List S185) (A3 : Option Addr) (c3 : Nat) (l3 : List S124) (a b : Int) (w : World) (hW : WorldC w A0 c0 l0 A1 c1 l1 A2 c2 l2 A3 c3 l3) (h1 : (0 ≤ a ∧ a < (l0.length : Int))) (h2 : (0 ≤ b ∧ b < (l0.length : Int))) (h3 : isIf l0 a = true) :
    Calls Try.prog 30 #[.agg #[.slice A0 l0.length c0, .slice A1 l1.length c1, .slice A2 l2.length c2, .slice A3 l3.length c3], .int .i64 a, .int .i64 b] w fun e w' => e = .returned (.int .i64 (0)) ∧ Below w.heap.size w w' := by
  have hu54 := Try.underlying54
  have H := Aside0.mk (((Hold.nil w).allocB [.slice A0 l0.length c0, .slice A1 l1.length c1, .slice A2 l2.length c2, .slice A3 l3.length c3] 54 |>.allocB [.int .i64 b] 3) |>.allocB [.int .i64 0] 3)
  simp only [List.nil_append, List.cons_append, World.size_alloc] at H
  have h1' := Aside0.mk h1
  have h2' := Aside0.mk h2
  have h3' := Aside0.mk h3
  clear h1 h2 h3
  have HW := Aside0.mk hW
  clear hW
  go_enter Try.func30, Try.ntmps30
  have HW_ := Aside0.mk (HW.out.step H.out.below)
  go_wp2_with fail
  refine (hier_there.calls A0 c0 l0 A1 c1 l1 A2 c2 l2 A3 c3 l3 a _ _ HW_.out.r0 HW_.out.h0 HW_.out.r1 HW_.out.h1 HW_.out.r2 HW_.out.h2 HW_.out.r3 HW_.out.h3 (there_true h1'.out)).mono ?_
  rintro e w1 ⟨rfl, hb1⟩
  have H1_ := Aside0.mk (H.out.step hb1)
  clear hb1 HW_ H
  have HW_ := Aside0.mk (HW.out.step H1_.out.below)
  obtain ⟨k0, k1, k2, k3⟩ := blk54 (H1_.out.B 0 rfl)
  have k4 : w1.cell? ⟨w.heap.size + 1, 0, none⟩ = some (.int .i64 b) := blk_cell (H1_.out.B 1 rfl) 0
  go_wp2_with fail
  refine (hier_there.calls A0 c0 l0 A1 c1 l1 A2 c2 l2 A3 c3 l3 b _ _ HW_.out.r0 HW_.out.h0 HW_.out.r1 HW_.out.h1 HW_.out.r2 HW_.out.h2 HW_.out.r3 HW_.out.h3 (there_true h2'.out)).mono ?_
  rintro e w2 ⟨rfl, hb1⟩
  have H2_ := Aside0.mk (H1_.out.step hb1)
  clear hb1 HW_ H1_ k0 k1 k2 k3 k4
  have HW_ := Aside0.mk (HW.out.step H2_.out.below)
  obtain ⟨k0, k1, k2, k3⟩ := blk54 (H2_.out.B 0 rfl)
  have k4 : w2.cell? ⟨w.heap.size + 1, 0, none⟩ = some (.int .i64 b) := blk_cell (H2_.out.B 1 rfl) 0
  go_wp2_with fail
  refine (hier_iface.calls A0 c0 l0 A1 c1 l1 A2 c2 l2 A3 c3 l3 a _ _ HW_.out.r0 HW_.out.h0 HW_.out.r1 HW_.out.h1 HW_.out.r2 HW_.out.h2 HW_.out.r3 HW_.out.h3 (iface_of h1'.out h3'.out)).mono ?_
  rintro e w3 ⟨rfl, hb1⟩
  have H3_ := Aside0.mk (H2_.out.step hb1)
  clear hb1 HW_ H2_ k0 k1 k2 k3 k4
  have f2 : w3.cell? ⟨w.heap.size + 1 + 1, 0, none⟩ = some (.int .i64 0) := blk_cell (H3_.out.B 2 rfl) 0
  have f3 : w3.frozen? ⟨w.heap.size + 1 + 1, 0, none⟩ = false := blk_frozen (H3_.out.B 2 rfl) 0
  have f4 := World.cell?_setCell_same' w3 ⟨w.heap.size + 1 + 1, 0, none⟩ (.int .i64 (0)) (by rw [f2]; rfl)
  go_wp2
  exact bodyPost_ret (v := .int .i64 (0)) (by simp [results, Try.f30, go_sem, f4]) rfl ⟨rfl, H3_.out.below.setCell (p := ⟨w.heap.size + 1 + 1, 0, none⟩) (by simp; omega) _⟩
set_option maxHeartbeats 4000000 in
set_option maxRecDepth 100000 in
theorem common_4 (A0 : Option Addr) (c0 : Nat) (l0 : List S110) (A1 : Option Addr) (c1 : Nat) (l1 : List S86) (A2 : Option Addr) (c2 : Nat) (l2 : List S185) (A3 : Option Addr) (c3 : Nat) (l3 : List S124) (a b : Int) (w : World) (hW : WorldC w A0 c0 l0 A1 c1 l1 A2 c2 l2 A3 c3 l3) (h1 : (0 ≤ a ∧ a < (l0.length : Int))) (h2 : (0 ≤ b ∧ b < (l0.length : Int))) (h3 : isIf l0 a = false) (h4 : isIf l0 b = true) :
    Calls Try.prog 30 #[.agg #[.slice A0 l0.length c0, .slice A1 l1.length c1, .slice A2 l2.length c2, .slice A3 l3.length c3], .int .i64 a, .int .i64 b] w fun e w' => e = .returned (.int .i64 (0)) ∧ Below w.heap.size w w' := by
  have hu54 := Try.underlying54
  have H := Aside0.mk (((Hold.nil w).allocB [.slice A0 l0.length c0, .slice A1 l1.length c1, .slice A2 l2.length c2, .slice A3 l3.length c3] 54 |>.allocB [.int .i64 b] 3) |>.allocB [.int .i64 0] 3)
  simp only [List.nil_append, List.cons_append, World.size_alloc] at H
  have h1' := Aside0.mk h1
  have h2' := Aside0.mk h2
  have h3' := Aside0.mk h3
  have h4' := Aside0.mk h4
  clear h1 h2 h3 h4
  have HW := Aside0.mk hW
  clear hW
  go_enter Try.func30, Try.ntmps30
  have HW_ := Aside0.mk (HW.out.step H.out.below)
  go_wp2_with fail
  refine (hier_there.calls A0 c0 l0 A1 c1 l1 A2 c2 l2 A3 c3 l3 a _ _ HW_.out.r0 HW_.out.h0 HW_.out.r1 HW_.out.h1 HW_.out.r2 HW_.out.h2 HW_.out.r3 HW_.out.h3 (there_true h1'.out)).mono ?_
  rintro e w1 ⟨rfl, hb1⟩
  have H1_ := Aside0.mk (H.out.step hb1)
  clear hb1 HW_ H
  have HW_ := Aside0.mk (HW.out.step H1_.out.below)
  obtain ⟨k0, k1, k2, k3⟩ := blk54 (H1_.out.B 0 rfl)
  have k4 : w1.cell? ⟨w.heap.size + 1, 0, none⟩ = some (.int .i64 b) := blk_cell (H1_.out.B 1 rfl) 0
  go_wp2_with fail
  refine (hier_there.calls A0 c0 l0 A1 c1 l1 A2 c2 l2 A3 c3 l3 b _ _ HW_.out.r0 HW_.out.h0 HW_.out.r1 HW_.out.h1 HW_.out.r2 HW_.out.h2 HW_.out.r3 HW_.out.h3 (there_true h2'.out)).mono ?_
  rintro e w2 ⟨rfl, hb1⟩
  have H2_ := Aside0.mk (H1_.out.step hb1)
  clear hb1 HW_ H1_ k0 k1 k2 k3 k4
  have HW_ := Aside0.mk (HW.out.step H2_.out.below)
  obtain ⟨k0, k1, k2, k3⟩ := blk54 (H2_.out.B 0 rfl)
  have k4 : w2.cell? ⟨w.heap.size + 1, 0, none⟩ = some (.int .i64 b) := blk_cell (H2_.out.B 1 rfl) 0
  go_wp2_with fail
  refine (hier_iface.calls A0 c0 l0 A1 c1 l1 A2 c2 l2 A3 c3 l3 a _ _ HW_.out.r0 HW_.out.h0 HW_.out.r1 HW_.out.h1 HW_.out.r2 HW_.out.h2 HW_.out.r3 HW_.out.h3 (iface_of h1'.out h3'.out)).mono ?_
  rintro e w3 ⟨rfl, hb1⟩
  have H3_ := Aside0.mk (H2_.out.step hb1)
  clear hb1 HW_ H2_ k0 k1 k2 k3 k4
  have HW_ := Aside0.mk (HW.out.step H3_.out.below)
  obtain ⟨k0, k1, k2, k3⟩ := blk54 (H3_.out.B 0 rfl)
  have k4 : w3.cell? ⟨w.heap.size + 1, 0, none⟩ = some (.int .i64 b) := blk_cell (H3_.out.B 1 rfl) 0
  go_wp2_with fail
  refine (hier_iface.calls A0 c0 l0 A1 c1 l1 A2 c2 l2 A3 c3 l3 b _ _ HW_.out.r0 HW_.out.h0 HW_.out.r1 HW_.out.h1 HW_.out.r2 HW_.out.h2 HW_.out.r3 HW_.out.h3 (iface_of h2'.out h4'.out)).mono ?_
  rintro e w4 ⟨rfl, hb1⟩
  have H4_ := Aside0.mk (H3_.out.step hb1)
  clear hb1 HW_ H3_ k0 k1 k2 k3 k4
  have f2 : w4.cell? ⟨w.heap.size + 1 + 1, 0, none⟩ = some (.int .i64 0) := blk_cell (H4_.out.B 2 rfl) 0
  have f3 : w4.frozen? ⟨w.heap.size + 1 + 1, 0, none⟩ = false := blk_frozen (H4_.out.B 2 rfl) 0
  have f4 := World.cell?_setCell_same' w4 ⟨w.heap.size + 1 + 1, 0, none⟩ (.int .i64 (0)) (by rw [f2]; rfl)
  go_wp2
  exact bodyPost_ret (v := .int .i64 (0)) (by simp [results, Try.f30, go_sem, f4]) rfl ⟨rfl, H4_.out.below.setCell (p := ⟨w.heap.size + 1 + 1, 0, none⟩) (by simp; omega) _⟩
set_option maxHeartbeats 4000000 in
set_option maxRecDepth 100000 in
theorem common_5 (A0 : Option Addr) (c0 : Nat) (l0 : List S110) (A1 : Option Addr) (c1 : Nat) (l1 : List S86) (A2 : Option Addr) (c2 : Nat) (l2 : List S185) (A3 : Option Addr) (c3 : Nat) (l3 : List S124) (a b : Int) (w : World) (hW : WorldC w A0 c0 l0 A1 c1 l1 A2 c2 l2 A3 c3 l3) (hlen : l0.length < 9223372036854775807) (h1 : (0 ≤ a ∧ a < (l0.length : Int))) (h2 : (0 ≤ b ∧ b < (l0.length : Int))) (h3 : isIf l0 a = false) (h4 : isIf l0 b = false) :
    Calls Try.prog 30 #[.agg #[.slice A0 l0.length c0, .slice A1 l1.length c1, .slice A2 l2.length c2, .slice A3 l3.length c3], .int .i64 a, .int .i64 b] w fun e w' => e = .returned (.int .i64 (commonL l0 a b)) ∧ Below w.heap.size w w' := by
  refine (callsIn_wide (n := 3)).1 ?_
  have h13 : 1 ≤ 3 := by omega
  refine callsIn_of_wp_marks Try.func30 rfl trivial ?_ rfl
  simp only [Try.ntmps30, List.size_toArray, List.length_cons, List.length_nil, Nat.reduceAdd, Nat.reduceSub, Array.replicate_succ, Array.replicate_zero, List.push_toArray, List.append_toArray, List.nil_append, List.cons_append]
  have hu54 := Try.underlying54
  have H := Aside0.mk (((Hold.nil w).allocB [.slice A0 l0.length c0, .slice A1 l1.length c1, .slice A2 l2.length c2, .slice A3 l3.length c3] 54 |>.allocB [.int .i64 b] 3) |>.allocB [.int .i64 0] 3)
  simp only [List.nil_append, List.cons_append, World.size_alloc] at H
  have h1' := Aside0.mk h1
  have h2' := Aside0.mk h2
  have h3' := Aside0.mk h3
  have h4' := Aside0.mk h4
  clear h1 h2 h3 h4
  have HW := Aside0.mk hW
  clear hW
  have HW_ := Aside0.mk (HW.out.step H.out.below)
  gi_wp2_with fail
  refine ⟨trivial, ?_⟩
  refine (callsIn_wide.2 (hier_there.calls A0 c0 l0 A1 c1 l1 A2 c2 l2 A3 c3 l3 a _ _ HW_.out.r0 HW_.out.h0 HW_.out.r1 HW_.out.h1 HW_.out.r2 HW_.out.h2 HW_.out.r3 HW_.out.h3 (there_true h1'.out))).mono ?_
  rintro e w1 ⟨rfl, hb1⟩
  have H1_ := Aside0.mk (H.out.step hb1)
  clear hb1 HW_ H
  have HW_ := Aside0.mk (HW.out.step H1_.out.below)
  obtain ⟨k0, k1, k2, k3⟩ := blk54 (H1_.out.B 0 rfl)
  have k4 : w1.cell? ⟨w.heap.size + 1, 0, none⟩ = some (.int .i64 b) := blk_cell (H1_.out.B 1 rfl) 0
  gi_wp2_with fail
  refine ⟨trivial, ?_⟩
  refine (callsIn_wide.2 (hier_there.calls A0 c0 l0 A1 c1 l1 A2 c2 l2 A3 c3 l3 b _ _ HW_.out.r0 HW_.out.h0 HW_.out.r1 HW_.out.h1 HW_.out.r2 HW_.out.h2 HW_.out.r3 HW_.out.h3 (there_true h2'.out))).mono ?_
  rintro e w2 ⟨rfl, hb1⟩
  have H2_ := Aside0.mk (H1_.out.step hb1)
  clear hb1 HW_ H1_ k0 k1 k2 k3 k4
  have HW_ := Aside0.mk (HW.out.step H2_.out.below)
  obtain ⟨k0, k1, k2, k3⟩ := blk54 (H2_.out.B 0 rfl)
  have k4 : w2.cell? ⟨w.heap.size + 1, 0, none⟩ = some (.int .i64 b) := blk_cell (H2_.out.B 1 rfl) 0
  gi_wp2_with fail
  refine ⟨trivial, ?_⟩
  refine (callsIn_wide.2 (hier_iface.calls A0 c0 l0 A1 c1 l1 A2 c2 l2 A3 c3 l3 a _ _ HW_.out.r0 HW_.out.h0 HW_.out.r1 HW_.out.h1 HW_.out.r2 HW_.out.h2 HW_.out.r3 HW_.out.h3 (iface_of h1'.out h3'.out))).mono ?_
  rintro e w3 ⟨rfl, hb1⟩
  have H3_ := Aside0.mk (H2_.out.step hb1)
  clear hb1 HW_ H2_ k0 k1 k2 k3 k4
  have HW_ := Aside0.mk (HW.out.step H3_.out.below)
  obtain ⟨k0, k1, k2, k3⟩ := blk54 (H3_.out.B 0 rfl)
  have k4 : w3.cell? ⟨w.heap.size + 1, 0, none⟩ = some (.int .i64 b) := blk_cell (H3_.out.B 1 rfl) 0
  gi_wp2_with fail
  refine ⟨trivial, ?_⟩
  refine (callsIn_wide.2 (hier_iface.calls A0 c0 l0 A1 c1 l1 A2 c2 l2 A3 c3 l3 b _ _ HW_.out.r0 HW_.out.h0 HW_.out.r1 HW_.out.h1 HW_.out.r2 HW_.out.h2 HW_.out.r3 HW_.out.h3 (iface_of h2'.out h4'.out))).mono ?_
  rintro e w4 ⟨rfl, hb1⟩
  have H4_ := Aside0.mk (H3_.out.step hb1)
  clear hb1 HW_ H3_ k0 k1 k2 k3 k4
  obtain ⟨k0, k1, k2, k3⟩ := blk54 (H4_.out.B 0 rfl)
  gi_wp2_with fail
  refine ⟨trivial, ?_⟩
  refine (callsIn_wide.2 (ups_calls A0 l0.length c0 A1 l1.length c1 A2 l2.length c2 A3 l3.length c3 a w4)).mono ?_
  rintro e w5 ⟨rfl, rfl⟩
  clear k0 k1 k2 k3

  gi_wp2
  have hsz := H4_.out.below.size
  have h3sz : w.heap.size + 1 + 1 < w4.heap.size := (H4_.out.all 2 _ rfl).1
  refine wpIn_rangeFunc_ownC rfl h13 (gf := 76) (lb := #[.pointer (some ⟨w4.heap.size, 0, none⟩), .pointer (some ⟨w4.heap.size + 1, 0, none⟩)]) rfl trivial (enters_of Try.func76 (by kernel_rfl) rfl)
    (ups1_seq 2 (by omega) w w4.heap.size (w4.heap.size + 1) (by omega) (by omega) A0 c0 l0 A1 c1 l1 A2 c2 l2 A3 c3 l3 HW.out hlen a)
    (by simp) (fun o o' => ⟨((((H4_.out.below.alloc hsz _).alloc (by simp; omega) _).alloc (by simp; omega) _).alloc (by simp; omega) _), ?pre1, ?pre2⟩) kpU_t (fun W l o o' hl h _ _ => kpU_b (N := w4.heap.size + 1 + 1) (by omega) (by omega) (by omega) W l o o' (by simpa using hl) h) (fun _ => rfl)
    (fun pre W => LoopI w (w4.heap.size + 1 + 1) [(w.heap.size, 54, [.slice A0 l0.length c0, .slice A1 l1.length c1, .slice A2 l2.length c2, .slice A3 l3.length c3]), (w.heap.size + 1, 3, [.int .i64 b]), (w.heap.size + 1 + 1, 3, [.int .i64 0])] W ∧ (pre.find? fun c => fromB l0 b c.1) = none)
    (fun c pre W => c = .ret ∧ ∃ x, (pre.find? fun c => fromB l0 b c.1) = some x ∧ LoopI w (w4.heap.size + 1 + 1) [(w.heap.size + 1 + 1, 3, [.int .i64 x.1])] W)
    (fun s A B row hs hg hr => ⟨loopI_own hs.1 hg hr (by simp; omega) (by omega) (by simp; omega), hs.2⟩)
    (fun c s A B row hs hg hr => ⟨hs.1, hs.2.elim fun x hx => ⟨x, hx.1, loopI_own hx.2 hg hr (by simp; omega) (by omega) (by simp; omega)⟩⟩)
    ?start
    (fun x => { tmps := #[.agg #[.slice A0 l0.length c0, .slice A1 l1.length c1, .slice A2 l2.length c2, .slice A3 l3.length c3], .int .i64 a, .int .i64 b, .pointer (some ⟨w.heap.size, 0, none⟩), undef, .pointer (some ⟨w.heap.size + 1, 0, none⟩), .pointer (some ⟨w.heap.size + 1 + 1, 0, none⟩), .int .i64 x.1, .agg #[.slice A0 l0.length c0, .slice A1 l1.length c1, .slice A2 l2.length c2, .slice A3 l3.length c3], .int .i64 a, .bool true, .bool false, .bool false, .agg #[.slice A0 l0.length c0, .slice A1 l1.length c1, .slice A2 l2.length c2, .slice A3 l3.length c3], .int .i64 b, .bool true, .bool false, .bool false, .agg #[.slice A0 l0.length c0, .slice A1 l1.length c1, .slice A2 l2.length c2, .slice A3 l3.length c3], .int .i64 a, .bool false, .bool false, .agg #[.slice A0 l0.length c0, .slice A1 l1.length c1, .slice A2 l2.length c2, .slice A3 l3.length c3], .int .i64 b, .bool false, .bool false, .agg #[.slice A0 l0.length c0, .slice A1 l1.length c1, .slice A2 l2.length c2, .slice A3 l3.length c3], .int .i64 a, .func (.func 76) #[] #[.pointer (some ⟨w4.heap.size, 0, none⟩), .pointer (some ⟨w4.heap.size + 1, 0, none⟩)], .int .i64 x.1, undef, undef, undef, undef, undef], defers := [] }) ?assign ?body ?done ?stop
  case pre1 => exact ((((below_alloc (Below.refl _ ((w4.alloc _).alloc _)) o).trans (below_alloc (Below.refl _ _) o' |>.mono (by simp))).block _ (by simp; omega)).trans ((Below.heap_alloc (w4.alloc _) _ _ (by simp)).trans (blk_new w4 _)))
  case pre2 => exact ((((below_alloc (Below.refl _ ((w4.alloc _).alloc _)) o).trans (below_alloc (Below.refl _ _) o' |>.mono (by simp))).block _ (by simp)).trans (by simpa using blk_new (w4.alloc (.cells #[.slice A0 l0.length c0, .slice A1 l1.length c1, .slice A2 l2.length c2, .slice A3 l3.length c3] 54)) (.cells #[.int .i64 a] 3)))
  case start =>
    refine ⟨⟨(H4_.out.below.alloc hsz _).alloc (by simp; omega) _, by simp, fun p hp => ?_⟩, rfl⟩
    have hb2 := (below_alloc (below_alloc (Below.refl w4.heap.size w4) (.cells #[.slice A0 l0.length c0, .slice A1 l1.length c1, .slice A2 l2.length c2, .slice A3 l3.length c3] 54)) (.cells #[.int .i64 a] 3))
    simp only [List.mem_cons, List.not_mem_nil, or_false] at hp
    rcases hp with rfl | rfl | rfl
    · exact (hb2.block _ (H4_.out.all 0 _ rfl).1).trans (H4_.out.B 0 rfl)
    · exact (hb2.block _ (H4_.out.all 1 _ rfl).1).trans (H4_.out.B 1 rfl)
    · exact (hb2.block _ (H4_.out.all 2 _ rfl).1).trans (H4_.out.B 2 rfl)
  case assign =>
    intro l x W K hK
    gi_wp2
    exact hK
  case body =>
    rintro l pre x W ⟨hI, hn⟩ hlt
    have HI := Aside0.mk hI
    have HN := Aside0.mk hn
    have f1 : W.cell? ⟨w.heap.size + 1, 0, none⟩ = some (.int .i64 b) := blk_cell (hI.blk _ (List.mem_cons_of_mem _ List.mem_cons_self)) 0
    obtain ⟨f4, f5, f6, f7⟩ := blk54 (hI.blk (w.heap.size, 54, [.slice A0 l0.length c0, .slice A1 l1.length c1, .slice A2 l2.length c2, .slice A3 l3.length c3]) (by simp))
    clear hI hn
    have HWW := Aside0.mk (HW.out.step HI.out.below)
    gi_wp2_with fail
    refine ⟨trivial, ?_⟩
    refine (CallsIn.inRound l (callsIn_wide.2 (hier_From.calls A0 c0 l0 A1 c1 l1 A2 c2 l2 A3 c3 l3 b x.1 _ _ HWW.out.r0 HWW.out.h0 HWW.out.r1 HWW.out.h1 HWW.out.r2 HWW.out.h2 HWW.out.r3 HWW.out.h3 (from_of hlen)))).mono ?_
    rintro e w5 ⟨rfl, hb3⟩
    have HI3 := Aside0.mk (HI.out.step hb3)
    have HK3 := Aside0.mk (keepsOthers_below hb3)
    have hWsz := HI.out.below.size
    have HK4 := Aside0.mk hb3
    clear f1 f4 f5 f6 f7 hb3 HWW
    have f2 : w5.cell? ⟨w.heap.size + 1 + 1, 0, none⟩ = some (.int .i64 0) := blk_cell (HI3.out.blk (w.heap.size + 1 + 1, 3, [.int .i64 0]) (by simp)) 0
    have f3 : w5.frozen? ⟨w.heap.size + 1 + 1, 0, none⟩ = false := blk_frozen (HI3.out.blk (w.heap.size + 1 + 1, 3, [.int .i64 0]) (by simp)) 0
    by_cases hh : fromB l0 b x.1 = true
    · have HX := Aside0.mk hh
      rw [hh]
      clear hh
      gi_wp2
      refine ⟨HK3.out.trans (KeepsOthers.setCell _ _ _), rfl, x, by rw [List.find?_append, HN.out, Option.none_or, List.find?_cons, HX.out], ⟨HI3.out.below.setCell (p := ⟨w.heap.size + 1 + 1, 0, none⟩) (by simp; omega) _, by simpa using HI3.out.size, fun p hp => ?_⟩⟩
      obtain rfl : p = _ := List.mem_singleton.1 hp
      simpa using blk_set (HI3.out.blk (w.heap.size + 1 + 1, 3, [.int .i64 0]) (by simp)) 0 (.int .i64 x.1)
    · have hh2 : fromB l0 b x.1 = false := by simpa using hh
      have HX := Aside0.mk hh2
      rw [hh2]
      clear hh hh2
      gi_wp2
      have hs2 := HI.out.size
      exact ⟨HK3.out, ⟨HK4.out.mono hWsz, HK4.out.block _ (by omega), HK4.out.block _ (by omega)⟩, HI3.out, by rw [List.find?_append, HN.out, Option.none_or, List.find?_cons, HX.out]; rfl⟩
  case done =>
    rintro D ys W hD rfl ⟨hI, hn⟩ hK
    have HI := Aside0.mk hI
    have HN := Aside0.mk hn
    have f2 : W.cell? ⟨w.heap.size + 1 + 1, 0, none⟩ = some (.int .i64 0) := blk_cell (hI.blk (w.heap.size + 1 + 1, 3, [.int .i64 0]) (by simp)) 0
    have f3 : W.frozen? ⟨w.heap.size + 1 + 1, 0, none⟩ = false := blk_frozen (hI.blk (w.heap.size + 1 + 1, 3, [.int .i64 0]) (by simp)) 0
    clear hI hn
    gi_wp2
    have hD2 : w.heap.size ≤ D := by simp at hD; omega
    have hK2 := (KeepsOthers.setCell W ⟨w.heap.size + 1 + 1, 0, none⟩ (.int .i64 0)).same D _ hK rfl
    refine ⟨by simp, .inl ⟨_, _, rfl, run_takeDeferred hK2, ?_⟩⟩
    have hc5 := cell_kept (World.cell?_setCell_same' W ⟨w.heap.size + 1 + 1, 0, none⟩ (.int .i64 0) (by rw [f2]; rfl)) (grownBy_putObj' _ D (.deferred none)) (fun r e => by cases e; exact ⟨_, hK2, rfl⟩)
    refine ⟨.int .i64 0, ?_, by rw [show commonL l0 a b = 0 from by unfold commonL; rw [HN.out]], (HI.out.below.setCell (p := ⟨w.heap.size + 1 + 1, 0, none⟩) (by simp; omega) _).trans (belowK_b (w := w) (Nat.le_refl _) _ D _ _ hD2 hK2 rfl rfl)⟩
    simp [results, Try.f30, go_sem, hc5]
  case stop =>
    rintro D c pre W hD hp ⟨rfl, x, hn, hI⟩ hK
    have hD2 : w.heap.size ≤ D := by simp at hD; omega
    gi_wp2
    refine ⟨by simp, .inl ⟨_, _, rfl, run_takeDeferred hK, ?_⟩⟩
    have hcr : W.cell? ⟨w.heap.size + 1 + 1, 0, none⟩ = some (.int .i64 x.1) := blk_cell (hI.blk (w.heap.size + 1 + 1, 3, [.int .i64 x.1]) (by simp)) 0
    have hc5 := cell_kept hcr (grownBy_putObj' _ D (.deferred none)) (fun r e => by cases e; exact ⟨_, hK, rfl⟩)
    refine ⟨.int .i64 x.1, ?_, by rw [show commonL l0 a b = x.1 from by unfold commonL; rw [find_prefix hp hn]], hI.below.trans (belowK_b (w := w) (Nat.le_refl _) W D _ _ hD2 hK rfl rfl)⟩
    simp [results, Try.f30, go_sem, hc5]
def hier_Common.f (l0_0 : List (S110)) (l0_1 : List (S86)) (l0_2 : List (S185)) (l0_3 : List (S124)) (a1 : Int) (a2 : Int) : Option (Int) := if l0_0.length < 9223372036854775807 then some (commonI l0_0 a1 a2) else none
theorem hier_Common.calls (A0_0 : Option Addr) (c0_0 : Nat) (l0_0 : List (S110)) (A0_1 : Option Addr) (c0_1 : Nat) (l0_1 : List (S86)) (A0_2 : Option Addr) (c0_2 : Nat) (l0_2 : List (S185)) (A0_3 : Option Addr) (c0_3 : Nat) (l0_3 : List (S124)) (a1 : Int) (a2 : Int) (r : Int) (w : World) (hr0_0 : Kd.C k110 w A0_0 l0_0.length l0_0) (hc0_0 : l0_0.length ≤ c0_0) (hr0_1 : Kd.C k86 w A0_1 l0_1.length l0_1) (hc0_1 : l0_1.length ≤ c0_1) (hr0_2 : Kd.C k185 w A0_2 l0_2.length l0_2) (hc0_2 : l0_2.length ≤ c0_2) (hr0_3 : Kd.C k124 w A0_3 l0_3.length l0_3) (hc0_3 : l0_3.length ≤ c0_3) (h : hier_Common.f l0_0 l0_1 l0_2 l0_3 a1 a2 = some r) :
    Calls Try.prog 30 #[.agg #[.slice A0_0 l0_0.length c0_0, .slice A0_1 l0_1.length c0_1, .slice A0_2 l0_2.length c0_2, .slice A0_3 l0_3.length c0_3], .int .i64 a1, .int .i64 a2] w fun e w' => e = .returned (.int .i64 r) ∧ Below w.heap.size w w' := by
  unfold hier_Common.f at h
  split at h
  case isFalse => cases h
  case isTrue hlen =>
  obtain rfl := Option.some.inj h
  have hW : WorldC w A0_0 c0_0 l0_0 A0_1 c0_1 l0_1 A0_2 c0_2 l0_2 A0_3 c0_3 l0_3 := ⟨hr0_0, hc0_0, hr0_1, hc0_1, hr0_2, hc0_2, hr0_3, hc0_3⟩
  unfold commonI
  by_cases h1 : 0 ≤ a1 ∧ a1 < (l0_0.length : Int)
  · by_cases h2 : 0 ≤ a2 ∧ a2 < (l0_0.length : Int)
    · rw [if_pos ⟨h1, h2⟩]
      cases h3 : isIf l0_0 a1
      · cases h4 : isIf l0_0 a2
        · exact common_5 A0_0 c0_0 l0_0 A0_1 c0_1 l0_1 A0_2 c0_2 l0_2 A0_3 c0_3 l0_3 a1 a2 w hW hlen h1 h2 h3 h4
        · exact common_4 A0_0 c0_0 l0_0 A0_1 c0_1 l0_1 A0_2 c0_2 l0_2 A0_3 c0_3 l0_3 a1 a2 w hW h1 h2 h3 h4
      · exact common_3 A0_0 c0_0 l0_0 A0_1 c0_1 l0_1 A0_2 c0_2 l0_2 A0_3 c0_3 l0_3 a1 a2 w hW h1 h2 h3
    · rw [if_neg (fun h => h2 h.2)]
      exact common_2 A0_0 c0_0 l0_0 A0_1 c0_1 l0_1 A0_2 c0_2 l0_2 A0_3 c0_3 l0_3 a1 a2 w hW h1 h2
  · rw [if_neg (fun h => h1 h.1)]
    exact common_1 A0_0 c0_0 l0_0 A0_1 c0_1 l0_1 A0_2 c0_2 l0_2 A0_3 c0_3 l0_3 a1 a2 w hW h1

end Go.Proofs.Ytocdpledkmmomaa.P
