import Derived.Test.YtocdpledkmmomaaHAIterC
import Derived.Test.YtocdpledkmmomaaHAPx11
import Derived.Test.YtocdpledkmmomaaHAHold
import Derived.Test.YtocdpledkmmomaaHAGWorldA
namespace Go.Proofs.Ytocdpledkmmomaa.P
open Go.RowKit Go.Shelf Go.Proofs.YtocdpledkmmomaaW.PrintWords Go.Proofs.YtocdpledkmmomaaW.PrintLast Go.Proofs.YtocdpledkmmomaaW.PrintMore
attribute [local go_sem] Oper.semAt_some
set_option linter.unusedVariables false
set_option linter.unusedSimpArgs false
abbrev InW (cls : List S110) := { x : Int // 0 ≤ x ∧ x < (cls.length : Int) }
def upsL (cls : List S110) : Nat → Int → List (InW cls)
  | 0, _ => []
  | f + 1, a => if h : 0 ≤ a ∧ a < (cls.length : Int) then ⟨a, h⟩ :: upsL cls f (rd_T110 cls a).f2 else []
theorem upsL_cons {cls : List S110} {p : Nat} {a : Int} (h : 0 ≤ a ∧ a < (cls.length : Int)) (hp : p ≤ cls.length) : upsL cls (cls.length + 1 - p) a = ⟨a, h⟩ :: upsL cls (cls.length + 1 - (p + 1)) (rd_T110 cls a).f2 := by
  rw [show cls.length + 1 - p = (cls.length + 1 - (p + 1)) + 1 by omega]
  rw [upsL, dif_pos h]
theorem upsL_none {cls : List S110} {f : Nat} {a : Int} (h : ¬ (0 ≤ a ∧ a < (cls.length : Int))) : upsL cls f a = [] := by
  cases f with
  | zero => rfl
  | succ f => rw [upsL, dif_neg h]
theorem grownBy_below {w w' : World} (h : Below w.heap.size w w') : w.grownBy w' none := ⟨h.os, h.tape, h.output, h.size, fun k hk _ => h.block k hk⟩
theorem grownBy_setc (w : World) (b i : Nat) (v : Value) : w.grownBy (w.setCell ⟨b, i, none⟩ v) (some b) :=
  ⟨rfl, rfl, rfl, by simp, fun k _ hk => Below.heap_setCell w ⟨b, i, none⟩ v k (fun e => hk (by rw [e]))⟩
structure WorldC (w : World) (A0 : Option Addr) (c0 : Nat) (l0 : List S110) (A1 : Option Addr) (c1 : Nat) (l1 : List S86) (A2 : Option Addr) (c2 : Nat) (l2 : List S185) (A3 : Option Addr) (c3 : Nat) (l3 : List S124) : Prop where
  r0 : Kd.C k110 w A0 l0.length l0
  h0 : l0.length ≤ c0
  r1 : Kd.C k86 w A1 l1.length l1
  h1 : l1.length ≤ c1
  r2 : Kd.C k185 w A2 l2.length l2
  h2 : l2.length ≤ c2
  r3 : Kd.C k124 w A3 l3.length l3
  h3 : l3.length ≤ c3
section
variable {w w' : World} {A0 A1 A2 A3 : Option Addr} {c0 c1 c2 c3 : Nat} {l0 : List S110} {l1 : List S86} {l2 : List S185} {l3 : List S124}
theorem WorldC.step (h : WorldC w A0 c0 l0 A1 c1 l1 A2 c2 l2 A3 c3 l3) (hb : Below w.heap.size w w') : WorldC w' A0 c0 l0 A1 c1 l1 A2 c2 l2 A3 c3 l3 :=
  ⟨Kd.C_below h.r0 hb, h.h0, Kd.C_below h.r1 hb, h.h1, Kd.C_below h.r2 hb, h.h2, Kd.C_below h.r3 hb, h.h3⟩
end
def KpU (n0 Bw Ba : Nat) (A B : World) : Prop := Below n0 A B ∧ B.heap[Bw]? = A.heap[Bw]? ∧ B.heap[Ba]? = A.heap[Ba]?
theorem there_true {l0 : List S110} {l1 : List S86} {l2 : List S185} {l3 : List S124} {a : Int} (h : 0 ≤ a ∧ a < (l0.length : Int)) : hier_there.f l0 l1 l2 l3 a = some true := by
  unfold hier_there.f; rw [if_pos h.1]; simp [h.2]
theorem there_false {l0 : List S110} {l1 : List S86} {l2 : List S185} {l3 : List S124} {a : Int} (h : ¬ (0 ≤ a ∧ a < (l0.length : Int))) : hier_there.f l0 l1 l2 l3 a = some false := by
  unfold hier_there.f
  by_cases h0 : a ≥ 0
  · rw [if_pos h0]; simp; omega
  · rw [if_neg h0]
set_option maxHeartbeats 4000000 in
set_option maxRecDepth 100000 in
theorem ups1_seq (n : Nat) (hn : 1 ≤ n) (w0 : World) (Bw Ba : Nat) (hne : Bw ≠ Ba) (hBa : w0.heap.size ≤ Ba) (A0 : Option Addr) (c0 : Nat) (l0 : List S110) (A1 : Option Addr) (c1 : Nat) (l1 : List S86) (A2 : Option Addr) (c2 : Nat) (l2 : List S185) (A3 : Option Addr) (c3 : Nat) (l3 : List S124) (hW : WorldC w0 A0 c0 l0 A1 c1 l1 A2 c2 l2 A3 c3 l3) (hlen : l0.length < 9223372036854775807) (a0 : Int) :
    SeqC Fence.wide n Try.prog 76 #[.pointer (some ⟨Bw, 0, none⟩), .pointer (some ⟨Ba, 0, none⟩)] (fun x : InW l0 => #[.int .i64 x.1]) (KpU w0.heap.size Bw Ba) (fun xs => xs = upsL l0 (l0.length + 1) a0) (fun pre => pre <+: upsL l0 (l0.length + 1) a0) (l0.length + 1) Ba
      (fun W => Below w0.heap.size w0 W ∧ W.heap[Bw]? = some (.cells #[.slice A0 l0.length c0, .slice A1 l1.length c1, .slice A2 l2.length c2, .slice A3 l3.length c3] 54 (0, 0)) ∧ W.heap[Ba]? = some (.cells #[.int .i64 a0] 3 (0, 0))) := by
  rintro l J Jx W ⟨hB, hbw, hba⟩ hJ hJx hY h0
  have hu54 := Try.underlying54
  refine callsIn_of_wp Try.func76 rfl trivial ?_
  simp only [Try.ntmps76, List.size_toArray, List.length_cons, List.length_nil, Nat.reduceAdd, Nat.reduceSub, Array.replicate_succ, Array.replicate_zero, List.push_toArray, List.append_toArray, List.nil_append, List.cons_append]
  gi_wp2
  gi_loopw [4] (fun i wr => ∃ (pre : List (InW l0)) (a : Int), i = .int .i64 (pre.length : Int) ∧ Aside0 (upsL l0 (l0.length + 1) a0 = pre ++ upsL l0 (l0.length + 1 - pre.length) a) ∧ pre.length ≤ l0.length + 1 ∧ Aside0 (Below w0.heap.size w0 wr) ∧ Aside0 (wr.heap[Bw]? = some (.cells #[.slice A0 l0.length c0, .slice A1 l1.length c1, .slice A2 l2.length c2, .slice A3 l3.length c3] 54 (0, 0))) ∧ Aside0 (wr.heap[Ba]? = some (.cells #[.int .i64 a] 3 (0, 0))) ∧ Aside0 (J pre wr)) (fun i wr => l0.length + 2 - (intOf i).toNat)
  case atStart => exact ⟨[], a0, rfl, ⟨by simp⟩, by simp, ⟨hB⟩, ⟨hbw⟩, ⟨hba⟩, ⟨h0⟩⟩
  case round =>
    obtain ⟨pre, a, rfl, HX, hpl, HB, HBw, HBa, HJ⟩ := hrel
    clear hB hbw hba h0
    have HY := Aside0.mk hY
    have HWC := Aside0.mk (hW.step HB.out)
    have HW0 := Aside0.mk hW
    clear hY hW
    obtain ⟨k0, k1, k2, k3⟩ := blk54 HBw.out
    have k4 : wr.cell? ⟨Ba, 0, none⟩ = some (.int .i64 a) := blk_cell HBa.out 0
    by_cases ht : 0 ≤ a ∧ a < (l0.length : Int)
    · gi_wp2_with fail
      refine ⟨trivial, ?_⟩
      refine (callsIn_wide.2 (hier_there.calls A0 c0 l0 A1 c1 l1 A2 c2 l2 A3 c3 l3 a true _ HWC.out.r0 HWC.out.h0 HWC.out.r1 HWC.out.h1 HWC.out.r2 HWC.out.h2 HWC.out.r3 HWC.out.h3 (there_true ht))).mono ?_
      rintro e w1 ⟨rfl, hb1⟩
      have HJ1 := Aside0.mk (hJ _ _ _ none HJ.out (grownBy_below hb1) (fun r e => by cases e))
      have HB1 := Aside0.mk (HB.out.trans (hb1.mono HB.out.size))
      have HBw1 := Aside0.mk ((hb1.block Bw (Array.getElem?_eq_some_iff.1 HBw.out).1).trans HBw.out)
      have HBa1 := Aside0.mk ((hb1.block Ba (Array.getElem?_eq_some_iff.1 HBa.out).1).trans HBa.out)
      have HWC1 := Aside0.mk (HWC.out.step hb1)
      clear hb1 k0 k1 k2 k3 k4 HB HBw HBa HJ HWC
      obtain ⟨k0, k1, k2, k3⟩ := blk54 HBw1.out
      have k4 : w1.cell? ⟨Ba, 0, none⟩ = some (.int .i64 a) := blk_cell HBa1.out 0
      by_cases hp : pre.length ≤ l0.length
      · have hp2 : decide ((pre.length : Int) ≤ (l0.length : Int)) = true := by simp; omega
        obtain ⟨fn, tmps, assign, body, hy, hR⟩ := HY.out pre ⟨a, ht⟩ w1 HJ1.out (by omega)
        dsimp only at hy
        have HR := Aside0.mk hR
        clear hR
        gi_wp2_with fail
        refine HR.out.mono ?_
        rintro e W3 (⟨rfl, hJ3, hk3⟩ | ⟨rfl, hJx3⟩)
        · have HB3 := Aside0.mk (HB1.out.trans hk3.1)
          have HBw3 := Aside0.mk (hk3.2.1.trans HBw1.out)
          have HBa3 := Aside0.mk (hk3.2.2.trans HBa1.out)
          have HJ3 := Aside0.mk hJ3
          have HWC3 := Aside0.mk (HW0.out.step HB3.out)
          clear hk3 hJ3 k0 k1 k2 k3 k4 HB1 HBw1 HBa1 HJ1 HWC1 HR
          obtain ⟨k0, k1, k2, k3⟩ := blk54 HBw3.out
          have k4 : W3.cell? ⟨Ba, 0, none⟩ = some (.int .i64 a) := blk_cell HBa3.out 0
          have k5 : W3.frozen? ⟨Ba, 0, none⟩ = false := blk_frozen HBa3.out 0
          obtain ⟨ht0, ht1⟩ := ht
          obtain ⟨ad, B3_, b3_, B4_, b4_, B5_, b5_, B6_, b6_, e_, r0_, r1_, r2_, rest_⟩ := at_T110 HWC3.out.r0 a ht0 ht1
          subst e_
          clear r0_ r1_ rest_
          gi_wp2
          refine ⟨⟨pre ++ [⟨a, ht0, ht1⟩], (rd_T110 l0 a).f2, by simp, ⟨by rw [HX.out, upsL_cons ⟨ht0, ht1⟩ hp]; simp⟩, by simp; omega, ⟨HB3.out.setCell (p := ⟨Ba, 0, none⟩) hBa _⟩, ⟨(Below.heap_setCell W3 ⟨Ba, 0, none⟩ _ Bw hne).trans HBw3.out⟩, ⟨by simpa using blk_set HBa3.out 0 (.int .i64 (rd_T110 l0 a).f2)⟩, ⟨hJ _ _ _ (some Ba) HJ3.out (grownBy_setc W3 Ba 0 _) (fun r e => by cases e; rfl)⟩⟩, by simp [intOf]; omega⟩
        · gi_wp2
          refine bodyPost_ret (results_none rfl _ _ _) rfl ?_
          refine ⟨⟨_, rfl⟩, .inr ⟨pre ++ [⟨a, ht⟩], ?_, hJx3⟩⟩
          rw [HX.out, upsL_cons ht hp]
          simp
      · have hp2 : decide ((pre.length : Int) ≤ (l0.length : Int)) = false := by simp; omega
        gi_wp2
        go_end0
        refine ⟨⟨_, rfl⟩, .inl ⟨pre, ?_, HJ1.out⟩⟩
        rw [HX.out, show l0.length + 1 - pre.length = 0 by omega]
        simp [upsL]
    · gi_wp2_with fail
      refine ⟨trivial, ?_⟩
      refine (callsIn_wide.2 (hier_there.calls A0 c0 l0 A1 c1 l1 A2 c2 l2 A3 c3 l3 a false _ HWC.out.r0 HWC.out.h0 HWC.out.r1 HWC.out.h1 HWC.out.r2 HWC.out.h2 HWC.out.r3 HWC.out.h3 (there_false ht))).mono ?_
      rintro e w1 ⟨rfl, hb1⟩
      have HJ1 := Aside0.mk (hJ _ _ _ none HJ.out (grownBy_below hb1) (fun r e => by cases e))
      gi_wp2
      go_end0
      refine ⟨⟨_, rfl⟩, .inl ⟨pre, ?_, HJ1.out⟩⟩
      rw [HX.out, upsL_none ht]
      simp
end Go.Proofs.Ytocdpledkmmomaa.P
