-- Written by a program of mine for this claim (see NOTES.md).
import Derived.Test.YtocdpledkmmomaaFOPx0
namespace Go.Proofs.Ytocdpledkmmomaa.P
open Go.RowKit Go.Proofs.YtocdpledkmmomaaW.PrintWords Go.Proofs.YtocdpledkmmomaaW.PrintLast Go.Proofs.YtocdpledkmmomaaW.PrintMore
attribute [local go_sem] max2_int min2_int max_two min_two max_three min_three max_four min_four   -- for this text's walks alone
set_option linter.unusedVariables false
set_option linter.unusedSimpArgs false

/-! ### garderoberef21_Of: function 36 -/
mutual
def garderoberef21_Of.j0 : Nat → Int → Bool → Int → Int → Int → Int → Int → Int → Int → List Int → List Int → Int → Option (Int × Int × Bool)
  | 0, _, _, _, _, _, _, _, _, _, _, _, _ => none
  | k + 1, x5, x6, x705000, x705001, x705002, x705003, x705004, x705005, x705006, x705007, x705008, x705009 => if x6 = true then (some (1, 0, true)) else (if x5 = 36 then (garderoberef21_Of.j1 k x5 (x5 == 36) x705000 x705001 x705002 x705003 x705004 x705005 x705006 x705007 x705008 x705009) else (if x5 = 37 then (garderoberef21_Of.j1 k x5 (x5 == 37) x705000 x705001 x705002 x705003 x705004 x705005 x705006 x705007 x705008 x705009) else (if x5 = 38 then (garderoberef21_Of.j1 k x5 (x5 == 38) x705000 x705001 x705002 x705003 x705004 x705005 x705006 x705007 x705008 x705009) else (if x5 = 55 then (garderoberef21_Of.j1 k x5 (x5 == 55) x705000 x705001 x705002 x705003 x705004 x705005 x705006 x705007 x705008 x705009) else (if x5 = 56 then (garderoberef21_Of.j1 k x5 (x5 == 56) x705000 x705001 x705002 x705003 x705004 x705005 x705006 x705007 x705008 x705009) else (if x5 = 57 then (garderoberef21_Of.j1 k x5 (x5 == 57) x705000 x705001 x705002 x705003 x705004 x705005 x705006 x705007 x705008 x705009) else (garderoberef21_Of.j1 k x5 (x5 == 146) x705000 x705001 x705002 x705003 x705004 x705005 x705006 x705007 x705008 x705009)))))))
def garderoberef21_Of.j1 : Nat → Int → Bool → Int → Int → Int → Int → Int → Int → Int → List Int → List Int → Int → Option (Int × Int × Bool)
  | 0, _, _, _, _, _, _, _, _, _, _, _, _ => none
  | k + 1, x5, x14, x705000, x705001, x705002, x705003, x705004, x705005, x705006, x705007, x705008, x705009 => if x14 = true then (some (2, 0, true)) else (if x5 = 139 then (some (3, 0, true)) else (if x5 = 140 then (some (4, 0, true)) else (if x5 = 147 then (some (5, 0, true)) else (if x5 = 142 then (some (6, x705005, true)) else (if x5 = 148 then (garderoberef21_Of.j2 k (x5 == 148) x705000 x705001 x705002 x705003 x705004 x705005 x705006 x705007 x705008 x705009) else (garderoberef21_Of.j2 k (x5 == 149) x705000 x705001 x705002 x705003 x705004 x705005 x705006 x705007 x705008 x705009))))))
def garderoberef21_Of.j2 : Nat → Bool → Int → Int → Int → Int → Int → Int → Int → List Int → List Int → Int → Option (Int × Int × Bool)
  | 0, _, _, _, _, _, _, _, _, _, _, _ => none
  | k + 1, x37, x705000, x705001, x705002, x705003, x705004, x705005, x705006, x705007, x705008, x705009 => if x37 = true then (if x705002 = 0 then (some (7, x705005, true)) else (some (7, (-1), true))) else (some (0, 0, false))
end
def garderoberef21_Of.f (k : Nat) (a0_0 : Int) (a0_1 : Int) (a0_2 : Int) (a0_3 : Int) (a0_4 : Int) (a0_5 : Int) (a0_6 : Int) (l0_7 : List Int) (l0_8 : List Int) (a0_9 : Int) : Option (Int × Int × Bool) := if a0_1 = 131 then (garderoberef21_Of.j0 k a0_1 (a0_1 == 131) a0_0 a0_1 a0_2 a0_3 a0_4 a0_5 a0_6 l0_7 l0_8 a0_9) else (if a0_1 = 132 then (garderoberef21_Of.j0 k a0_1 (a0_1 == 132) a0_0 a0_1 a0_2 a0_3 a0_4 a0_5 a0_6 l0_7 l0_8 a0_9) else (if a0_1 = 133 then (garderoberef21_Of.j0 k a0_1 (a0_1 == 133) a0_0 a0_1 a0_2 a0_3 a0_4 a0_5 a0_6 l0_7 l0_8 a0_9) else (if a0_1 = 135 then (garderoberef21_Of.j0 k a0_1 (a0_1 == 135) a0_0 a0_1 a0_2 a0_3 a0_4 a0_5 a0_6 l0_7 l0_8 a0_9) else (if a0_1 = 136 then (garderoberef21_Of.j0 k a0_1 (a0_1 == 136) a0_0 a0_1 a0_2 a0_3 a0_4 a0_5 a0_6 l0_7 l0_8 a0_9) else (garderoberef21_Of.j0 k a0_1 (a0_1 == 137) a0_0 a0_1 a0_2 a0_3 a0_4 a0_5 a0_6 l0_7 l0_8 a0_9)))))
set_option maxHeartbeats 8000000 in
set_option maxRecDepth 100000 in
theorem garderoberef21_Of.calls (k : Nat) (a0_0 : Int) (a0_1 : Int) (a0_2 : Int) (a0_3 : Int) (a0_4 : Int) (a0_5 : Int) (a0_6 : Int) (A0_7 : Option Addr) (c0_7 : Nat) (l0_7 : List Int) (A0_8 : Option Addr) (c0_8 : Nat) (l0_8 : List Int) (a0_9 : Int) (r1 : Int) (r2 : Int) (r3 : Bool) (w : World) (hr0_7 : Kd.C (Kd.int .i64) w A0_7 l0_7.length l0_7) (hc0_7 : l0_7.length ≤ c0_7) (hr0_8 : Kd.C (Kd.int .u16) w A0_8 l0_8.length l0_8) (hc0_8 : l0_8.length ≤ c0_8) (h : garderoberef21_Of.f k a0_0 a0_1 a0_2 a0_3 a0_4 a0_5 a0_6 l0_7 l0_8 a0_9 = some (r1, r2, r3)) :
    Calls Try.prog 36 #[.agg #[.int .i64 a0_0, .int .u8 a0_1, .int .i64 a0_2, .int .u8 a0_3, .int .u16 a0_4, .int .i64 a0_5, .int .i64 a0_6, .slice A0_7 l0_7.length c0_7, .slice A0_8 l0_8.length c0_8, .int .u16 a0_9]] w fun e w' => e = .returned (.tuple #[.agg #[.int .u8 r1, .int .i64 r2], .bool r3]) ∧ Below w.heap.size w w' := by
  have hu75 := Try.underlying75
  have hu64 := Try.underlying64
  have HR0_7 := Aside0.mk hr0_7
  have HC0_7 := Aside0.mk hc0_7
  clear hr0_7 hc0_7
  have HR0_8 := Aside0.mk hr0_8
  have HC0_8 := Aside0.mk hc0_8
  clear hr0_8 hc0_8
  have HB := Aside0.mk (Below.refl w.heap.size w)
  have H : (if a0_1 = 131 then (garderoberef21_Of.j0 k a0_1 (a0_1 == 131) a0_0 a0_1 a0_2 a0_3 a0_4 a0_5 a0_6 l0_7 l0_8 a0_9) else (if a0_1 = 132 then (garderoberef21_Of.j0 k a0_1 (a0_1 == 132) a0_0 a0_1 a0_2 a0_3 a0_4 a0_5 a0_6 l0_7 l0_8 a0_9) else (if a0_1 = 133 then (garderoberef21_Of.j0 k a0_1 (a0_1 == 133) a0_0 a0_1 a0_2 a0_3 a0_4 a0_5 a0_6 l0_7 l0_8 a0_9) else (if a0_1 = 135 then (garderoberef21_Of.j0 k a0_1 (a0_1 == 135) a0_0 a0_1 a0_2 a0_3 a0_4 a0_5 a0_6 l0_7 l0_8 a0_9) else (if a0_1 = 136 then (garderoberef21_Of.j0 k a0_1 (a0_1 == 136) a0_0 a0_1 a0_2 a0_3 a0_4 a0_5 a0_6 l0_7 l0_8 a0_9) else (garderoberef21_Of.j0 k a0_1 (a0_1 == 137) a0_0 a0_1 a0_2 a0_3 a0_4 a0_5 a0_6 l0_7 l0_8 a0_9)))))) = some (r1, r2, r3) := h
  clear h
  have HC2 := Aside0.mk H
  clear H
  go_enter Try.func36, Try.ntmps36
  go_upto_if 6 with (first | ((with_reducible refine gate_dst (N := 1) rfl ?_); refine box_event ?hg (N := 1) ?hd (cs := #[.int .i64 a0_0, .int .u8 a0_1, .int .i64 a0_2, .int .u8 a0_3, .int .u16 a0_4, .int .i64 a0_5, .int .i64 a0_6, .slice A0_7 l0_7.length c0_7, .slice A0_8 l0_8.length c0_8, .int .u16 a0_9]) (t := 75) ?hr ?_; (case hd => rfl); (case hg => rfl); (case hr => first | (go_simp; done) | (go_simp; rfl)); intro gb704 hg w3 hbox hb; have n0_ := Aside0.mk (below_step (by repeat (first | (with_reducible first | exact HB.out | apply below_alloc | apply pw_below_drewN | apply below_drew1) | exact HB.out)) hb); have n1_ := Aside0.mk (hbox); have n2_ := Aside0.mk ((by rw [hg]; exact (below_size (by repeat (first | (with_reducible first | exact HB.out | apply below_alloc | apply pw_below_drewN | apply below_drew1) | exact HB.out))) : w.heap.size ≤ gb704)); have n3_ := Aside0.mk ((by rw [hg]; exact (below_size (by repeat (first | (with_reducible first | exact HB.out | apply below_alloc | apply pw_below_drewN | apply below_drew1) | exact HB.out))) : w.heap.size ≤ gb704)); clear HB; have HB := n0_; have BK704 := n1_; have GW704 := n2_; have GE704 := n3_; clear n0_ n1_ n2_ n3_; clear hb hbox hg) | ((with_reducible refine gate_dst (N := 2) rfl ?_); refine box_event ?hg (N := 2) ?hd (cs := #[.int .u8 0, .int .i64 0]) (t := 64) ?hr ?_; (case hd => rfl); (case hg => rfl); (case hr => first | (go_simp; done) | (go_simp; rfl)); intro gb705 hg w4 hbox hb; have n0_ := Aside0.mk (blk_below (g := gb704) (o := .cells #[.int .i64 a0_0, .int .u8 a0_1, .int .i64 a0_2, .int .u8 a0_3, .int .u16 a0_4, .int .i64 a0_5, .int .i64 a0_6, .slice A0_7 l0_7.length c0_7, .slice A0_8 l0_8.length c0_8, .int .u16 a0_9] 75 (0, 0)) (by (with_reducible repeat (first | refine blk_drewN ?_ _ | refine blk_drew ?_ | refine blk_alloc ?_ _)); exact BK704.out) hb); have n1_ := Aside0.mk (below_step (by repeat (first | (with_reducible first | exact HB.out | apply below_alloc | apply pw_below_drewN | apply below_drew1 | refine below_set ?_ GE704.out) | exact HB.out)) hb); have n2_ := Aside0.mk (hbox); have n3_ := Aside0.mk ((by rw [hg]; exact (below_size (by repeat (first | (with_reducible first | exact HB.out | apply below_alloc | apply pw_below_drewN | apply below_drew1 | refine below_set ?_ GE704.out) | exact HB.out))) : w.heap.size ≤ gb705)); have n4_ := Aside0.mk ((by rw [hg]; exact (below_size (by repeat (first | (with_reducible first | exact HB.out | apply below_alloc | apply pw_below_drewN | apply below_drew1 | refine below_set ?_ GE704.out) | exact HB.out))) : w.heap.size ≤ gb705)); have n5_ := Aside0.mk ((by rw [hg]; exact Nat.ne_of_lt (blk_lt (g := gb704) (o := .cells #[.int .i64 a0_0, .int .u8 a0_1, .int .i64 a0_2, .int .u8 a0_3, .int .u16 a0_4, .int .i64 a0_5, .int .i64 a0_6, .slice A0_7 l0_7.length c0_7, .slice A0_8 l0_8.length c0_8, .int .u16 a0_9] 75 (0, 0)) (by (with_reducible repeat (first | refine blk_drewN ?_ _ | refine blk_drew ?_ | refine blk_alloc ?_ _)); exact BK704.out)) : gb704 ≠ gb705)); have n6_ := Aside0.mk ((by rw [hg]; exact Nat.ne_of_gt (blk_lt (g := gb704) (o := .cells #[.int .i64 a0_0, .int .u8 a0_1, .int .i64 a0_2, .int .u8 a0_3, .int .u16 a0_4, .int .i64 a0_5, .int .i64 a0_6, .slice A0_7 l0_7.length c0_7, .slice A0_8 l0_8.length c0_8, .int .u16 a0_9] 75 (0, 0)) (by (with_reducible repeat (first | refine blk_drewN ?_ _ | refine blk_drew ?_ | refine blk_alloc ?_ _)); exact BK704.out)) : gb705 ≠ gb704)); clear BK704; clear HB; have BK704 := n0_; have HB := n1_; have BK705 := n2_; have GW705 := n3_; have GE705 := n4_; have NB704_705 := n5_; have NB705_704 := n6_; clear n0_ n1_ n2_ n3_ n4_ n5_ n6_; clear hb hbox hg; have hnb5 := NB704_705.out; have hnc5 := NB705_704.out; have hcz6_0 : w4.cell? ⟨gb704, 0, none⟩ = some (.int .i64 a0_0) := (blk_cell BK704.out 0).trans rfl; have hcz6_1 : w4.cell? ⟨gb704, 1, none⟩ = some (.int .u8 a0_1) := (blk_cell BK704.out 1).trans rfl; have hcz6_2 : w4.cell? ⟨gb704, 2, none⟩ = some (.int .i64 a0_2) := (blk_cell BK704.out 2).trans rfl; have hcz6_3 : w4.cell? ⟨gb704, 3, none⟩ = some (.int .u8 a0_3) := (blk_cell BK704.out 3).trans rfl; have hcz6_4 : w4.cell? ⟨gb704, 4, none⟩ = some (.int .u16 a0_4) := (blk_cell BK704.out 4).trans rfl; have hcz6_5 : w4.cell? ⟨gb704, 5, none⟩ = some (.int .i64 a0_5) := (blk_cell BK704.out 5).trans rfl; have hcz6_6 : w4.cell? ⟨gb704, 6, none⟩ = some (.int .i64 a0_6) := (blk_cell BK704.out 6).trans rfl; have hcz6_7 : w4.cell? ⟨gb704, 7, none⟩ = some (.slice A0_7 l0_7.length c0_7) := (blk_cell BK704.out 7).trans rfl; have hcz6_8 : w4.cell? ⟨gb704, 8, none⟩ = some (.slice A0_8 l0_8.length c0_8) := (blk_cell BK704.out 8).trans rfl; have hcz6_9 : w4.cell? ⟨gb704, 9, none⟩ = some (.int .u16 a0_9) := (blk_cell BK704.out 9).trans rfl; have hfz6_0 := blk_frozen BK704.out 0; have hfz6_1 := blk_frozen BK704.out 1; have hfz6_2 := blk_frozen BK704.out 2; have hfz6_3 := blk_frozen BK704.out 3; have hfz6_4 := blk_frozen BK704.out 4; have hfz6_5 := blk_frozen BK704.out 5; have hfz6_6 := blk_frozen BK704.out 6; have hfz6_7 := blk_frozen BK704.out 7; have hfz6_8 := blk_frozen BK704.out 8; have hfz6_9 := blk_frozen BK704.out 9))
  (try simp only [Act.put, List.setIfInBounds_toArray, List.set_cons_zero, List.set_cons_succ])
  go_cut [6] (fun v6 wc => ∃ (kq : Nat) (x6_1 : Bool), v6 = .bool x6_1 ∧ Aside0 (garderoberef21_Of.j0 kq a0_1 x6_1 a0_0 a0_1 a0_2 a0_3 a0_4 a0_5 a0_6 l0_7 l0_8 a0_9 = some (r1, r2, r3)) ∧ Aside0 (kq ≤ k) ∧ Aside0 (wc.heap[gb704]? = some (.cells #[.int .i64 a0_0, .int .u8 a0_1, .int .i64 a0_2, .int .u8 a0_3, .int .u16 a0_4, .int .i64 a0_5, .int .i64 a0_6, (.slice A0_7 l0_7.length c0_7), (.slice A0_8 l0_8.length c0_8), .int .u16 a0_9] 75 (0, 0))) ∧ Aside0 (wc.heap[gb705]? = some (.cells #[.int .u8 0, .int .i64 0] 64 (0, 0))) ∧ Aside0 (Below w.heap.size w wc))
  case first =>
    have H := HC2.out
    clear HC2
    by_cases c7 : a0_1 = 131
    · rw [if_pos c7] at H
      have c7b0 : (a0_1 == 131) = true := beq_iff_eq.mpr c7
      have c7b1 : (a0_1 != 131) = false := bne_eq_false_iff_eq.mpr c7
      clear c7
      (first | rw [c7b0] | (simp only [i64_w, i32_w]; rw [c7b0]) | skip)
      have H' := Aside0.mk H
      clear H
      go_wp2
      go_meet
      case rel => exact ⟨_, ((a0_1 == 131)), (by first | rfl | (simp; done) | (simp [*]; done)), H', ⟨by first | omega | exact Nat.le_refl _⟩, ⟨by (with_reducible repeat (first | refine blk_drewN ?_ _ | refine blk_drew ?_ | refine blk_alloc ?_ _)); exact BK704.out⟩, ⟨by (with_reducible repeat (first | refine blk_drewN ?_ _ | refine blk_drew ?_ | refine blk_alloc ?_ _)); exact BK705.out⟩, ⟨by repeat (first | (with_reducible first | exact HB.out | apply below_alloc | apply pw_below_drewN | apply below_drew1 | refine below_set ?_ GE704.out | refine below_set ?_ GE705.out) | exact HB.out)⟩⟩
    · rw [if_neg c7] at H
      have c7b0 : (a0_1 == 131) = false := beq_eq_false_iff_ne.mpr c7
      have c7b1 : (a0_1 != 131) = true := bne_iff_ne.mpr c7
      (first | rw [c7b0] | (simp only [i64_w, i32_w]; rw [c7b0]) | skip)
      by_cases c8 : a0_1 = 132
      · rw [if_pos c8] at H
        have c8b0 : (a0_1 == 132) = true := beq_iff_eq.mpr c8
        have c8b1 : (a0_1 != 132) = false := bne_eq_false_iff_eq.mpr c8
        clear c8
        have H' := Aside0.mk H
        clear H
        go_wp2
        go_meet
        case rel => exact ⟨_, ((a0_1 == 132)), (by first | rfl | (simp; done) | (simp [*]; done)), H', ⟨by first | omega | exact Nat.le_refl _⟩, ⟨by (with_reducible repeat (first | refine blk_drewN ?_ _ | refine blk_drew ?_ | refine blk_alloc ?_ _)); exact BK704.out⟩, ⟨by (with_reducible repeat (first | refine blk_drewN ?_ _ | refine blk_drew ?_ | refine blk_alloc ?_ _)); exact BK705.out⟩, ⟨by repeat (first | (with_reducible first | exact HB.out | apply below_alloc | apply pw_below_drewN | apply below_drew1 | refine below_set ?_ GE704.out | refine below_set ?_ GE705.out) | exact HB.out)⟩⟩
      · rw [if_neg c8] at H
        have c8b0 : (a0_1 == 132) = false := beq_eq_false_iff_ne.mpr c8
        have c8b1 : (a0_1 != 132) = true := bne_iff_ne.mpr c8
        by_cases c9 : a0_1 = 133
        · rw [if_pos c9] at H
          have c9b0 : (a0_1 == 133) = true := beq_iff_eq.mpr c9
          have c9b1 : (a0_1 != 133) = false := bne_eq_false_iff_eq.mpr c9
          clear c9
          have H' := Aside0.mk H
          clear H
          go_wp2
          go_meet
          case rel => exact ⟨_, ((a0_1 == 133)), (by first | rfl | (simp; done) | (simp [*]; done)), H', ⟨by first | omega | exact Nat.le_refl _⟩, ⟨by (with_reducible repeat (first | refine blk_drewN ?_ _ | refine blk_drew ?_ | refine blk_alloc ?_ _)); exact BK704.out⟩, ⟨by (with_reducible repeat (first | refine blk_drewN ?_ _ | refine blk_drew ?_ | refine blk_alloc ?_ _)); exact BK705.out⟩, ⟨by repeat (first | (with_reducible first | exact HB.out | apply below_alloc | apply pw_below_drewN | apply below_drew1 | refine below_set ?_ GE704.out | refine below_set ?_ GE705.out) | exact HB.out)⟩⟩
        · rw [if_neg c9] at H
          have c9b0 : (a0_1 == 133) = false := beq_eq_false_iff_ne.mpr c9
          have c9b1 : (a0_1 != 133) = true := bne_iff_ne.mpr c9
          by_cases c10 : a0_1 = 135
          · rw [if_pos c10] at H
            have c10b0 : (a0_1 == 135) = true := beq_iff_eq.mpr c10
            have c10b1 : (a0_1 != 135) = false := bne_eq_false_iff_eq.mpr c10
            clear c10
            have H' := Aside0.mk H
            clear H
            go_wp2
            go_meet
            case rel => exact ⟨_, ((a0_1 == 135)), (by first | rfl | (simp; done) | (simp [*]; done)), H', ⟨by first | omega | exact Nat.le_refl _⟩, ⟨by (with_reducible repeat (first | refine blk_drewN ?_ _ | refine blk_drew ?_ | refine blk_alloc ?_ _)); exact BK704.out⟩, ⟨by (with_reducible repeat (first | refine blk_drewN ?_ _ | refine blk_drew ?_ | refine blk_alloc ?_ _)); exact BK705.out⟩, ⟨by repeat (first | (with_reducible first | exact HB.out | apply below_alloc | apply pw_below_drewN | apply below_drew1 | refine below_set ?_ GE704.out | refine below_set ?_ GE705.out) | exact HB.out)⟩⟩
          · rw [if_neg c10] at H
            have c10b0 : (a0_1 == 135) = false := beq_eq_false_iff_ne.mpr c10
            have c10b1 : (a0_1 != 135) = true := bne_iff_ne.mpr c10
            by_cases c11 : a0_1 = 136
            · rw [if_pos c11] at H
              have c11b0 : (a0_1 == 136) = true := beq_iff_eq.mpr c11
              have c11b1 : (a0_1 != 136) = false := bne_eq_false_iff_eq.mpr c11
              clear c11
              have H' := Aside0.mk H
              clear H
              go_wp2
              go_meet
              case rel => exact ⟨_, ((a0_1 == 136)), (by first | rfl | (simp; done) | (simp [*]; done)), H', ⟨by first | omega | exact Nat.le_refl _⟩, ⟨by (with_reducible repeat (first | refine blk_drewN ?_ _ | refine blk_drew ?_ | refine blk_alloc ?_ _)); exact BK704.out⟩, ⟨by (with_reducible repeat (first | refine blk_drewN ?_ _ | refine blk_drew ?_ | refine blk_alloc ?_ _)); exact BK705.out⟩, ⟨by repeat (first | (with_reducible first | exact HB.out | apply below_alloc | apply pw_below_drewN | apply below_drew1 | refine below_set ?_ GE704.out | refine below_set ?_ GE705.out) | exact HB.out)⟩⟩
            · rw [if_neg c11] at H
              have c11b0 : (a0_1 == 136) = false := beq_eq_false_iff_ne.mpr c11
              have c11b1 : (a0_1 != 136) = true := bne_iff_ne.mpr c11
              have H' := Aside0.mk H
              clear H
              go_wp2
              go_meet
              case rel => exact ⟨_, ((a0_1 == 137)), (by first | rfl | (simp; done) | (simp [*]; done)), H', ⟨by first | omega | exact Nat.le_refl _⟩, ⟨by (with_reducible repeat (first | refine blk_drewN ?_ _ | refine blk_drew ?_ | refine blk_alloc ?_ _)); exact BK704.out⟩, ⟨by (with_reducible repeat (first | refine blk_drewN ?_ _ | refine blk_drew ?_ | refine blk_alloc ?_ _)); exact BK705.out⟩, ⟨by repeat (first | (with_reducible first | exact HB.out | apply below_alloc | apply pw_below_drewN | apply below_drew1 | refine below_set ?_ GE704.out | refine below_set ?_ GE705.out) | exact HB.out)⟩⟩
  case rest =>
    clear HC2
    try clear c1
    try clear p2
    try clear c3
    try clear c5
    try clear c7
    try clear c7b0
    try clear c7b1
    try clear c8
    try clear c8b0
    try clear c8b1
    try clear c9
    try clear c9b0
    try clear c9b1
    try clear c10
    try clear c10b0
    try clear c10b1
    try clear c11
    try clear c11b0
    try clear c11b1
    try clear hcz6_0
    try clear hcz6_1
    try clear hcz6_2
    try clear hcz6_3
    try clear hcz6_4
    try clear hcz6_5
    try clear hcz6_6
    try clear hcz6_7
    try clear hcz6_8
    try clear hcz6_9
    try clear hfz6_0
    try clear hfz6_1
    try clear hfz6_2
    try clear hfz6_3
    try clear hfz6_4
    try clear hfz6_5
    try clear hfz6_6
    try clear hfz6_7
    try clear hfz6_8
    try clear hfz6_9
    obtain ⟨kq, x6_1, rfl, HA, HJ1, BK704, BK705, HB⟩ := hcut
    cases kq with
    | zero => exact absurd HA.out (by simp [garderoberef21_Of.j0])
    | succ kj1 =>
      have H := HA.out
      clear HA
      simp only [garderoberef21_Of.j0] at H
      by_cases c12 : x6_1 = true
      · subst c12
        have H1 : (some (1, 0, true)) = some (r1, r2, r3) := by rw [if_pos rfl] at H; exact H
        clear H
        have H := H1
        clear H1
        simp only [Option.some.injEq, Prod.mk.injEq] at H
        obtain ⟨rfl, rfl, rfl⟩ := H
        have hnb13 := NB705_704.out
        have hnc13 := NB704_705.out
        have hcz14_0 : wc.cell? ⟨gb705, 0, none⟩ = some (.int .u8 0) := (blk_cell BK705.out 0).trans rfl
        have hcz14_1 : wc.cell? ⟨gb705, 1, none⟩ = some (.int .i64 0) := (blk_cell BK705.out 1).trans rfl
        have hfz14_0 := blk_frozen BK705.out 0
        have hfz14_1 := blk_frozen BK705.out 1
        go_wp2
        refine bodyPost_ret (results_ct rfl _ _ gb705 64 #[.int .u8 1, .int .i64 0] (0, 0) _ rfl (by (with_reducible repeat (first | refine blk_drewN ?_ _ | refine blk_drew ?_ | refine blk_alloc ?_ _)); refine blk_put (cs := #[.int .u8 1, .int .i64 0]) ?_ 1 _ rfl; (with_reducible repeat (first | refine blk_drewN ?_ _ | refine blk_drew ?_ | refine blk_alloc ?_ _)); refine blk_put (cs := #[.int .u8 0, .int .i64 0]) ?_ 0 _ rfl; (with_reducible repeat (first | refine blk_drewN ?_ _ | refine blk_drew ?_ | refine blk_alloc ?_ _)); exact BK705.out) Try.underlying64 rfl (by kernel_rfl)) rfl ?_
        exact ⟨by first | rfl | (simp [errW_none, errW_some] <;> rfl) | (simp [*, errW_none, errW_some] <;> rfl), by repeat (first | (with_reducible first | exact HB.out | apply below_alloc | apply pw_below_drewN | apply below_drew1 | refine below_set ?_ GE704.out | refine below_set ?_ GE705.out) | exact HB.out)⟩
      · replace c12 := Bool.eq_false_iff.mpr c12
        subst c12
        have H1 : (if a0_1 = 36 then (garderoberef21_Of.j1 kj1 a0_1 (a0_1 == 36) a0_0 a0_1 a0_2 a0_3 a0_4 a0_5 a0_6 l0_7 l0_8 a0_9) else (if a0_1 = 37 then (garderoberef21_Of.j1 kj1 a0_1 (a0_1 == 37) a0_0 a0_1 a0_2 a0_3 a0_4 a0_5 a0_6 l0_7 l0_8 a0_9) else (if a0_1 = 38 then (garderoberef21_Of.j1 kj1 a0_1 (a0_1 == 38) a0_0 a0_1 a0_2 a0_3 a0_4 a0_5 a0_6 l0_7 l0_8 a0_9) else (if a0_1 = 55 then (garderoberef21_Of.j1 kj1 a0_1 (a0_1 == 55) a0_0 a0_1 a0_2 a0_3 a0_4 a0_5 a0_6 l0_7 l0_8 a0_9) else (if a0_1 = 56 then (garderoberef21_Of.j1 kj1 a0_1 (a0_1 == 56) a0_0 a0_1 a0_2 a0_3 a0_4 a0_5 a0_6 l0_7 l0_8 a0_9) else (if a0_1 = 57 then (garderoberef21_Of.j1 kj1 a0_1 (a0_1 == 57) a0_0 a0_1 a0_2 a0_3 a0_4 a0_5 a0_6 l0_7 l0_8 a0_9) else (garderoberef21_Of.j1 kj1 a0_1 (a0_1 == 146) a0_0 a0_1 a0_2 a0_3 a0_4 a0_5 a0_6 l0_7 l0_8 a0_9))))))) = some (r1, r2, r3) := by rw [if_neg (show ¬ (false = true) by decide)] at H; exact H
        clear H
        have H := H1
        clear H1
        have HC15 := Aside0.mk H
        clear H
        go_upto_if 14 with (fail)
        go_cut [14] (fun v14 wc => ∃ (kq : Nat) (x14_14 : Bool), v14 = .bool x14_14 ∧ Aside0 (garderoberef21_Of.j1 kq a0_1 x14_14 a0_0 a0_1 a0_2 a0_3 a0_4 a0_5 a0_6 l0_7 l0_8 a0_9 = some (r1, r2, r3)) ∧ Aside0 (kq ≤ kj1) ∧ Aside0 (wc.heap[gb704]? = some (.cells #[.int .i64 a0_0, .int .u8 a0_1, .int .i64 a0_2, .int .u8 a0_3, .int .u16 a0_4, .int .i64 a0_5, .int .i64 a0_6, (.slice A0_7 l0_7.length c0_7), (.slice A0_8 l0_8.length c0_8), .int .u16 a0_9] 75 (0, 0))) ∧ Aside0 (wc.heap[gb705]? = some (.cells #[.int .u8 0, .int .i64 0] 64 (0, 0))) ∧ Aside0 (Below w.heap.size w wc))
        case first =>
          have H := HC15.out
          clear HC15
          by_cases c16 : a0_1 = 36
          · rw [if_pos c16] at H
            have c16b0 : (a0_1 == 36) = true := beq_iff_eq.mpr c16
            have c16b1 : (a0_1 != 36) = false := bne_eq_false_iff_eq.mpr c16
            clear c16
            (first | rw [c16b0] | (simp only [i64_w, i32_w]; rw [c16b0]) | skip)
            have H' := Aside0.mk H
            clear H
            go_wp2
            go_meet
            case rel => exact ⟨_, ((a0_1 == 36)), (by first | rfl | (simp; done) | (simp [*]; done)), H', ⟨by have := HJ1.out; first | omega | exact Nat.le_refl _⟩, ⟨by (with_reducible repeat (first | refine blk_drewN ?_ _ | refine blk_drew ?_ | refine blk_alloc ?_ _)); exact BK704.out⟩, ⟨by (with_reducible repeat (first | refine blk_drewN ?_ _ | refine blk_drew ?_ | refine blk_alloc ?_ _)); exact BK705.out⟩, ⟨by repeat (first | (with_reducible first | exact HB.out | apply below_alloc | apply pw_below_drewN | apply below_drew1 | refine below_set ?_ GE704.out | refine below_set ?_ GE705.out) | exact HB.out)⟩⟩
          · rw [if_neg c16] at H
            have c16b0 : (a0_1 == 36) = false := beq_eq_false_iff_ne.mpr c16
            have c16b1 : (a0_1 != 36) = true := bne_iff_ne.mpr c16
            (first | rw [c16b0] | (simp only [i64_w, i32_w]; rw [c16b0]) | skip)
            by_cases c17 : a0_1 = 37
            · rw [if_pos c17] at H
              have c17b0 : (a0_1 == 37) = true := beq_iff_eq.mpr c17
              have c17b1 : (a0_1 != 37) = false := bne_eq_false_iff_eq.mpr c17
              clear c17
              have H' := Aside0.mk H
              clear H
              go_wp2
              go_meet
              case rel => exact ⟨_, ((a0_1 == 37)), (by first | rfl | (simp; done) | (simp [*]; done)), H', ⟨by have := HJ1.out; first | omega | exact Nat.le_refl _⟩, ⟨by (with_reducible repeat (first | refine blk_drewN ?_ _ | refine blk_drew ?_ | refine blk_alloc ?_ _)); exact BK704.out⟩, ⟨by (with_reducible repeat (first | refine blk_drewN ?_ _ | refine blk_drew ?_ | refine blk_alloc ?_ _)); exact BK705.out⟩, ⟨by repeat (first | (with_reducible first | exact HB.out | apply below_alloc | apply pw_below_drewN | apply below_drew1 | refine below_set ?_ GE704.out | refine below_set ?_ GE705.out) | exact HB.out)⟩⟩
            · rw [if_neg c17] at H
              have c17b0 : (a0_1 == 37) = false := beq_eq_false_iff_ne.mpr c17
              have c17b1 : (a0_1 != 37) = true := bne_iff_ne.mpr c17
              by_cases c18 : a0_1 = 38
              · rw [if_pos c18] at H
                have c18b0 : (a0_1 == 38) = true := beq_iff_eq.mpr c18
                have c18b1 : (a0_1 != 38) = false := bne_eq_false_iff_eq.mpr c18
                clear c18
                have H' := Aside0.mk H
                clear H
                go_wp2
                go_meet
                case rel => exact ⟨_, ((a0_1 == 38)), (by first | rfl | (simp; done) | (simp [*]; done)), H', ⟨by have := HJ1.out; first | omega | exact Nat.le_refl _⟩, ⟨by (with_reducible repeat (first | refine blk_drewN ?_ _ | refine blk_drew ?_ | refine blk_alloc ?_ _)); exact BK704.out⟩, ⟨by (with_reducible repeat (first | refine blk_drewN ?_ _ | refine blk_drew ?_ | refine blk_alloc ?_ _)); exact BK705.out⟩, ⟨by repeat (first | (with_reducible first | exact HB.out | apply below_alloc | apply pw_below_drewN | apply below_drew1 | refine below_set ?_ GE704.out | refine below_set ?_ GE705.out) | exact HB.out)⟩⟩
              · rw [if_neg c18] at H
                have c18b0 : (a0_1 == 38) = false := beq_eq_false_iff_ne.mpr c18
                have c18b1 : (a0_1 != 38) = true := bne_iff_ne.mpr c18
                by_cases c19 : a0_1 = 55
                · rw [if_pos c19] at H
                  have c19b0 : (a0_1 == 55) = true := beq_iff_eq.mpr c19
                  have c19b1 : (a0_1 != 55) = false := bne_eq_false_iff_eq.mpr c19
                  clear c19
                  have H' := Aside0.mk H
                  clear H
                  go_wp2
                  go_meet
                  case rel => exact ⟨_, ((a0_1 == 55)), (by first | rfl | (simp; done) | (simp [*]; done)), H', ⟨by have := HJ1.out; first | omega | exact Nat.le_refl _⟩, ⟨by (with_reducible repeat (first | refine blk_drewN ?_ _ | refine blk_drew ?_ | refine blk_alloc ?_ _)); exact BK704.out⟩, ⟨by (with_reducible repeat (first | refine blk_drewN ?_ _ | refine blk_drew ?_ | refine blk_alloc ?_ _)); exact BK705.out⟩, ⟨by repeat (first | (with_reducible first | exact HB.out | apply below_alloc | apply pw_below_drewN | apply below_drew1 | refine below_set ?_ GE704.out | refine below_set ?_ GE705.out) | exact HB.out)⟩⟩
                · rw [if_neg c19] at H
                  have c19b0 : (a0_1 == 55) = false := beq_eq_false_iff_ne.mpr c19
                  have c19b1 : (a0_1 != 55) = true := bne_iff_ne.mpr c19
                  by_cases c20 : a0_1 = 56
                  · rw [if_pos c20] at H
                    have c20b0 : (a0_1 == 56) = true := beq_iff_eq.mpr c20
                    have c20b1 : (a0_1 != 56) = false := bne_eq_false_iff_eq.mpr c20
                    clear c20
                    have H' := Aside0.mk H
                    clear H
                    go_wp2
                    go_meet
                    case rel => exact ⟨_, ((a0_1 == 56)), (by first | rfl | (simp; done) | (simp [*]; done)), H', ⟨by have := HJ1.out; first | omega | exact Nat.le_refl _⟩, ⟨by (with_reducible repeat (first | refine blk_drewN ?_ _ | refine blk_drew ?_ | refine blk_alloc ?_ _)); exact BK704.out⟩, ⟨by (with_reducible repeat (first | refine blk_drewN ?_ _ | refine blk_drew ?_ | refine blk_alloc ?_ _)); exact BK705.out⟩, ⟨by repeat (first | (with_reducible first | exact HB.out | apply below_alloc | apply pw_below_drewN | apply below_drew1 | refine below_set ?_ GE704.out | refine below_set ?_ GE705.out) | exact HB.out)⟩⟩
                  · rw [if_neg c20] at H
                    have c20b0 : (a0_1 == 56) = false := beq_eq_false_iff_ne.mpr c20
                    have c20b1 : (a0_1 != 56) = true := bne_iff_ne.mpr c20
                    by_cases c21 : a0_1 = 57
                    · rw [if_pos c21] at H
                      have c21b0 : (a0_1 == 57) = true := beq_iff_eq.mpr c21
                      have c21b1 : (a0_1 != 57) = false := bne_eq_false_iff_eq.mpr c21
                      clear c21
                      have H' := Aside0.mk H
                      clear H
                      go_wp2
                      go_meet
                      case rel => exact ⟨_, ((a0_1 == 57)), (by first | rfl | (simp; done) | (simp [*]; done)), H', ⟨by have := HJ1.out; first | omega | exact Nat.le_refl _⟩, ⟨by (with_reducible repeat (first | refine blk_drewN ?_ _ | refine blk_drew ?_ | refine blk_alloc ?_ _)); exact BK704.out⟩, ⟨by (with_reducible repeat (first | refine blk_drewN ?_ _ | refine blk_drew ?_ | refine blk_alloc ?_ _)); exact BK705.out⟩, ⟨by repeat (first | (with_reducible first | exact HB.out | apply below_alloc | apply pw_below_drewN | apply below_drew1 | refine below_set ?_ GE704.out | refine below_set ?_ GE705.out) | exact HB.out)⟩⟩
                    · rw [if_neg c21] at H
                      have c21b0 : (a0_1 == 57) = false := beq_eq_false_iff_ne.mpr c21
                      have c21b1 : (a0_1 != 57) = true := bne_iff_ne.mpr c21
                      have H' := Aside0.mk H
                      clear H
                      go_wp2
                      go_meet
                      case rel => exact ⟨_, ((a0_1 == 146)), (by first | rfl | (simp; done) | (simp [*]; done)), H', ⟨by have := HJ1.out; first | omega | exact Nat.le_refl _⟩, ⟨by (with_reducible repeat (first | refine blk_drewN ?_ _ | refine blk_drew ?_ | refine blk_alloc ?_ _)); exact BK704.out⟩, ⟨by (with_reducible repeat (first | refine blk_drewN ?_ _ | refine blk_drew ?_ | refine blk_alloc ?_ _)); exact BK705.out⟩, ⟨by repeat (first | (with_reducible first | exact HB.out | apply below_alloc | apply pw_below_drewN | apply below_drew1 | refine below_set ?_ GE704.out | refine below_set ?_ GE705.out) | exact HB.out)⟩⟩
        case rest =>
          clear HC15
          try clear c1
          try clear c2
          try clear p2
          try clear c3
          try clear c5
          try clear c7
          try clear c7b0
          try clear c7b1
          try clear c8
          try clear c8b0
          try clear c8b1
          try clear c9
          try clear c9b0
          try clear c9b1
          try clear c10
          try clear c10b0
          try clear c10b1
          try clear c11
          try clear c11b0
          try clear c11b1
          try clear c12
          try clear c13
          try clear c16
          try clear c16b0
          try clear c16b1
          try clear c17
          try clear c17b0
          try clear c17b1
          try clear c18
          try clear c18b0
          try clear c18b1
          try clear c19
          try clear c19b0
          try clear c19b1
          try clear c20
          try clear c20b0
          try clear c20b1
          try clear c21
          try clear c21b0
          try clear c21b1
          try clear hcz14_0
          try clear hcz14_1
          try clear hcz6_0
          try clear hcz6_1
          try clear hcz6_2
          try clear hcz6_3
          try clear hcz6_4
          try clear hcz6_5
          try clear hcz6_6
          try clear hcz6_7
          try clear hcz6_8
          try clear hcz6_9
          try clear hfz14_0
          try clear hfz14_1
          try clear hfz6_0
          try clear hfz6_1
          try clear hfz6_2
          try clear hfz6_3
          try clear hfz6_4
          try clear hfz6_5
          try clear hfz6_6
          try clear hfz6_7
          try clear hfz6_8
          try clear hfz6_9
          try clear p2
          obtain ⟨kq, x14_14, rfl, HA, HJ14, BK704, BK705, HB⟩ := hcut
          cases kq with
          | zero => exact absurd HA.out (by simp [garderoberef21_Of.j1])
          | succ kj14 =>
            have H := HA.out
            clear HA
            simp only [garderoberef21_Of.j1] at H
            by_cases c22 : x14_14 = true
            · subst c22
              have H1 : (some (2, 0, true)) = some (r1, r2, r3) := by rw [if_pos rfl] at H; exact H
              clear H
              have H := H1
              clear H1
              simp only [Option.some.injEq, Prod.mk.injEq] at H
              obtain ⟨rfl, rfl, rfl⟩ := H
              have hnb23 := NB705_704.out
              have hnc23 := NB704_705.out
              have hcz24_0 : wc.cell? ⟨gb705, 0, none⟩ = some (.int .u8 0) := (blk_cell BK705.out 0).trans rfl
              have hcz24_1 : wc.cell? ⟨gb705, 1, none⟩ = some (.int .i64 0) := (blk_cell BK705.out 1).trans rfl
              have hfz24_0 := blk_frozen BK705.out 0
              have hfz24_1 := blk_frozen BK705.out 1
              go_wp2
              refine bodyPost_ret (results_ct rfl _ _ gb705 64 #[.int .u8 2, .int .i64 0] (0, 0) _ rfl (by (with_reducible repeat (first | refine blk_drewN ?_ _ | refine blk_drew ?_ | refine blk_alloc ?_ _)); refine blk_put (cs := #[.int .u8 2, .int .i64 0]) ?_ 1 _ rfl; (with_reducible repeat (first | refine blk_drewN ?_ _ | refine blk_drew ?_ | refine blk_alloc ?_ _)); refine blk_put (cs := #[.int .u8 0, .int .i64 0]) ?_ 0 _ rfl; (with_reducible repeat (first | refine blk_drewN ?_ _ | refine blk_drew ?_ | refine blk_alloc ?_ _)); exact BK705.out) Try.underlying64 rfl (by kernel_rfl)) rfl ?_
              exact ⟨by first | rfl | (simp [errW_none, errW_some] <;> rfl) | (simp [*, errW_none, errW_some] <;> rfl), by repeat (first | (with_reducible first | exact HB.out | apply below_alloc | apply pw_below_drewN | apply below_drew1 | refine below_set ?_ GE704.out | refine below_set ?_ GE705.out) | exact HB.out)⟩
            · replace c22 := Bool.eq_false_iff.mpr c22
              subst c22
              have H1 : (if a0_1 = 139 then (some (3, 0, true)) else (if a0_1 = 140 then (some (4, 0, true)) else (if a0_1 = 147 then (some (5, 0, true)) else (if a0_1 = 142 then (some (6, a0_5, true)) else (if a0_1 = 148 then (garderoberef21_Of.j2 kj14 (a0_1 == 148) a0_0 a0_1 a0_2 a0_3 a0_4 a0_5 a0_6 l0_7 l0_8 a0_9) else (garderoberef21_Of.j2 kj14 (a0_1 == 149) a0_0 a0_1 a0_2 a0_3 a0_4 a0_5 a0_6 l0_7 l0_8 a0_9)))))) = some (r1, r2, r3) := by rw [if_neg (show ¬ (false = true) by decide)] at H; exact H
              clear H
              have H := H1
              clear H1
              by_cases c25 : a0_1 = 139
              · rw [if_pos c25] at H
                have c25b0 : (a0_1 == 139) = true := beq_iff_eq.mpr c25
                have c25b1 : (a0_1 != 139) = false := bne_eq_false_iff_eq.mpr c25
                clear c25
                simp only [Option.some.injEq, Prod.mk.injEq] at H
                obtain ⟨rfl, rfl, rfl⟩ := H
                have hnb26 := NB705_704.out
                have hnc26 := NB704_705.out
                have hcz27_0 : wc.cell? ⟨gb705, 0, none⟩ = some (.int .u8 0) := (blk_cell BK705.out 0).trans rfl
                have hcz27_1 : wc.cell? ⟨gb705, 1, none⟩ = some (.int .i64 0) := (blk_cell BK705.out 1).trans rfl
                have hfz27_0 := blk_frozen BK705.out 0
                have hfz27_1 := blk_frozen BK705.out 1
                go_wp2
                refine bodyPost_ret (results_ct rfl _ _ gb705 64 #[.int .u8 3, .int .i64 0] (0, 0) _ rfl (by (with_reducible repeat (first | refine blk_drewN ?_ _ | refine blk_drew ?_ | refine blk_alloc ?_ _)); refine blk_put (cs := #[.int .u8 3, .int .i64 0]) ?_ 1 _ rfl; (with_reducible repeat (first | refine blk_drewN ?_ _ | refine blk_drew ?_ | refine blk_alloc ?_ _)); refine blk_put (cs := #[.int .u8 0, .int .i64 0]) ?_ 0 _ rfl; (with_reducible repeat (first | refine blk_drewN ?_ _ | refine blk_drew ?_ | refine blk_alloc ?_ _)); exact BK705.out) Try.underlying64 rfl (by kernel_rfl)) rfl ?_
                exact ⟨by first | rfl | (simp [errW_none, errW_some] <;> rfl) | (simp [*, errW_none, errW_some] <;> rfl), by repeat (first | (with_reducible first | exact HB.out | apply below_alloc | apply pw_below_drewN | apply below_drew1 | refine below_set ?_ GE704.out | refine below_set ?_ GE705.out) | exact HB.out)⟩
              · rw [if_neg c25] at H
                have c25b0 : (a0_1 == 139) = false := beq_eq_false_iff_ne.mpr c25
                have c25b1 : (a0_1 != 139) = true := bne_iff_ne.mpr c25
                by_cases c28 : a0_1 = 140
                · rw [if_pos c28] at H
                  have c28b0 : (a0_1 == 140) = true := beq_iff_eq.mpr c28
                  have c28b1 : (a0_1 != 140) = false := bne_eq_false_iff_eq.mpr c28
                  clear c28
                  simp only [Option.some.injEq, Prod.mk.injEq] at H
                  obtain ⟨rfl, rfl, rfl⟩ := H
                  have hnb29 := NB705_704.out
                  have hnc29 := NB704_705.out
                  have hcz30_0 : wc.cell? ⟨gb705, 0, none⟩ = some (.int .u8 0) := (blk_cell BK705.out 0).trans rfl
                  have hcz30_1 : wc.cell? ⟨gb705, 1, none⟩ = some (.int .i64 0) := (blk_cell BK705.out 1).trans rfl
                  have hfz30_0 := blk_frozen BK705.out 0
                  have hfz30_1 := blk_frozen BK705.out 1
                  go_wp2
                  refine bodyPost_ret (results_ct rfl _ _ gb705 64 #[.int .u8 4, .int .i64 0] (0, 0) _ rfl (by (with_reducible repeat (first | refine blk_drewN ?_ _ | refine blk_drew ?_ | refine blk_alloc ?_ _)); refine blk_put (cs := #[.int .u8 4, .int .i64 0]) ?_ 1 _ rfl; (with_reducible repeat (first | refine blk_drewN ?_ _ | refine blk_drew ?_ | refine blk_alloc ?_ _)); refine blk_put (cs := #[.int .u8 0, .int .i64 0]) ?_ 0 _ rfl; (with_reducible repeat (first | refine blk_drewN ?_ _ | refine blk_drew ?_ | refine blk_alloc ?_ _)); exact BK705.out) Try.underlying64 rfl (by kernel_rfl)) rfl ?_
                  exact ⟨by first | rfl | (simp [errW_none, errW_some] <;> rfl) | (simp [*, errW_none, errW_some] <;> rfl), by repeat (first | (with_reducible first | exact HB.out | apply below_alloc | apply pw_below_drewN | apply below_drew1 | refine below_set ?_ GE704.out | refine below_set ?_ GE705.out) | exact HB.out)⟩
                · rw [if_neg c28] at H
                  have c28b0 : (a0_1 == 140) = false := beq_eq_false_iff_ne.mpr c28
                  have c28b1 : (a0_1 != 140) = true := bne_iff_ne.mpr c28
                  by_cases c31 : a0_1 = 147
                  · rw [if_pos c31] at H
                    have c31b0 : (a0_1 == 147) = true := beq_iff_eq.mpr c31
                    have c31b1 : (a0_1 != 147) = false := bne_eq_false_iff_eq.mpr c31
                    clear c31
                    simp only [Option.some.injEq, Prod.mk.injEq] at H
                    obtain ⟨rfl, rfl, rfl⟩ := H
                    have hnb32 := NB705_704.out
                    have hnc32 := NB704_705.out
                    have hcz33_0 : wc.cell? ⟨gb705, 0, none⟩ = some (.int .u8 0) := (blk_cell BK705.out 0).trans rfl
                    have hcz33_1 : wc.cell? ⟨gb705, 1, none⟩ = some (.int .i64 0) := (blk_cell BK705.out 1).trans rfl
                    have hfz33_0 := blk_frozen BK705.out 0
                    have hfz33_1 := blk_frozen BK705.out 1
                    go_wp2
                    refine bodyPost_ret (results_ct rfl _ _ gb705 64 #[.int .u8 5, .int .i64 0] (0, 0) _ rfl (by (with_reducible repeat (first | refine blk_drewN ?_ _ | refine blk_drew ?_ | refine blk_alloc ?_ _)); refine blk_put (cs := #[.int .u8 5, .int .i64 0]) ?_ 1 _ rfl; (with_reducible repeat (first | refine blk_drewN ?_ _ | refine blk_drew ?_ | refine blk_alloc ?_ _)); refine blk_put (cs := #[.int .u8 0, .int .i64 0]) ?_ 0 _ rfl; (with_reducible repeat (first | refine blk_drewN ?_ _ | refine blk_drew ?_ | refine blk_alloc ?_ _)); exact BK705.out) Try.underlying64 rfl (by kernel_rfl)) rfl ?_
                    exact ⟨by first | rfl | (simp [errW_none, errW_some] <;> rfl) | (simp [*, errW_none, errW_some] <;> rfl), by repeat (first | (with_reducible first | exact HB.out | apply below_alloc | apply pw_below_drewN | apply below_drew1 | refine below_set ?_ GE704.out | refine below_set ?_ GE705.out) | exact HB.out)⟩
                  · rw [if_neg c31] at H
                    have c31b0 : (a0_1 == 147) = false := beq_eq_false_iff_ne.mpr c31
                    have c31b1 : (a0_1 != 147) = true := bne_iff_ne.mpr c31
                    by_cases c34 : a0_1 = 142
                    · rw [if_pos c34] at H
                      have c34b0 : (a0_1 == 142) = true := beq_iff_eq.mpr c34
                      have c34b1 : (a0_1 != 142) = false := bne_eq_false_iff_eq.mpr c34
                      clear c34
                      simp only [Option.some.injEq, Prod.mk.injEq] at H
                      obtain ⟨rfl, rfl, rfl⟩ := H
                      have hnb35 := NB704_705.out
                      have hnc35 := NB705_704.out
                      have hcz36_0 : wc.cell? ⟨gb704, 0, none⟩ = some (.int .i64 a0_0) := (blk_cell BK704.out 0).trans rfl
                      have hcz36_1 : wc.cell? ⟨gb704, 1, none⟩ = some (.int .u8 a0_1) := (blk_cell BK704.out 1).trans rfl
                      have hcz36_2 : wc.cell? ⟨gb704, 2, none⟩ = some (.int .i64 a0_2) := (blk_cell BK704.out 2).trans rfl
                      have hcz36_3 : wc.cell? ⟨gb704, 3, none⟩ = some (.int .u8 a0_3) := (blk_cell BK704.out 3).trans rfl
                      have hcz36_4 : wc.cell? ⟨gb704, 4, none⟩ = some (.int .u16 a0_4) := (blk_cell BK704.out 4).trans rfl
                      have hcz36_5 : wc.cell? ⟨gb704, 5, none⟩ = some (.int .i64 a0_5) := (blk_cell BK704.out 5).trans rfl
                      have hcz36_6 : wc.cell? ⟨gb704, 6, none⟩ = some (.int .i64 a0_6) := (blk_cell BK704.out 6).trans rfl
                      have hcz36_7 : wc.cell? ⟨gb704, 7, none⟩ = some (.slice A0_7 l0_7.length c0_7) := (blk_cell BK704.out 7).trans rfl
                      have hcz36_8 : wc.cell? ⟨gb704, 8, none⟩ = some (.slice A0_8 l0_8.length c0_8) := (blk_cell BK704.out 8).trans rfl
                      have hcz36_9 : wc.cell? ⟨gb704, 9, none⟩ = some (.int .u16 a0_9) := (blk_cell BK704.out 9).trans rfl
                      have hfz36_0 := blk_frozen BK704.out 0
                      have hfz36_1 := blk_frozen BK704.out 1
                      have hfz36_2 := blk_frozen BK704.out 2
                      have hfz36_3 := blk_frozen BK704.out 3
                      have hfz36_4 := blk_frozen BK704.out 4
                      have hfz36_5 := blk_frozen BK704.out 5
                      have hfz36_6 := blk_frozen BK704.out 6
                      have hfz36_7 := blk_frozen BK704.out 7
                      have hfz36_8 := blk_frozen BK704.out 8
                      have hfz36_9 := blk_frozen BK704.out 9
                      have hcz37_0 : wc.cell? ⟨gb705, 0, none⟩ = some (.int .u8 0) := (blk_cell BK705.out 0).trans rfl
                      have hcz37_1 : wc.cell? ⟨gb705, 1, none⟩ = some (.int .i64 0) := (blk_cell BK705.out 1).trans rfl
                      have hfz37_0 := blk_frozen BK705.out 0
                      have hfz37_1 := blk_frozen BK705.out 1
                      go_wp2
                      refine bodyPost_ret (results_ct rfl _ _ gb705 64 #[.int .u8 6, .int .i64 a0_5] (0, 0) _ rfl (by (with_reducible repeat (first | refine blk_drewN ?_ _ | refine blk_drew ?_ | refine blk_alloc ?_ _)); refine blk_put (cs := #[.int .u8 6, .int .i64 0]) ?_ 1 _ rfl; (with_reducible repeat (first | refine blk_drewN ?_ _ | refine blk_drew ?_ | refine blk_alloc ?_ _)); refine blk_put (cs := #[.int .u8 0, .int .i64 0]) ?_ 0 _ rfl; (with_reducible repeat (first | refine blk_drewN ?_ _ | refine blk_drew ?_ | refine blk_alloc ?_ _)); exact BK705.out) Try.underlying64 rfl (by kernel_rfl)) rfl ?_
                      exact ⟨by first | rfl | (simp [errW_none, errW_some] <;> rfl) | (simp [*, errW_none, errW_some] <;> rfl), by repeat (first | (with_reducible first | exact HB.out | apply below_alloc | apply pw_below_drewN | apply below_drew1 | refine below_set ?_ GE704.out | refine below_set ?_ GE705.out) | exact HB.out)⟩
                    · rw [if_neg c34] at H
                      have c34b0 : (a0_1 == 142) = false := beq_eq_false_iff_ne.mpr c34
                      have c34b1 : (a0_1 != 142) = true := bne_iff_ne.mpr c34
                      have HC38 := Aside0.mk H
                      clear H
                      go_upto_if 37 with (fail)
                      go_cut [37] (fun v37 wc => ∃ (kq : Nat) (x37_37 : Bool), v37 = .bool x37_37 ∧ Aside0 (garderoberef21_Of.j2 kq x37_37 a0_0 a0_1 a0_2 a0_3 a0_4 a0_5 a0_6 l0_7 l0_8 a0_9 = some (r1, r2, r3)) ∧ Aside0 (kq ≤ kj14) ∧ Aside0 (wc.heap[gb704]? = some (.cells #[.int .i64 a0_0, .int .u8 a0_1, .int .i64 a0_2, .int .u8 a0_3, .int .u16 a0_4, .int .i64 a0_5, .int .i64 a0_6, (.slice A0_7 l0_7.length c0_7), (.slice A0_8 l0_8.length c0_8), .int .u16 a0_9] 75 (0, 0))) ∧ Aside0 (wc.heap[gb705]? = some (.cells #[.int .u8 0, .int .i64 0] 64 (0, 0))) ∧ Aside0 (Below w.heap.size w wc))
                      case first =>
                        have H := HC38.out
                        clear HC38
                        by_cases c39 : a0_1 = 148
                        · rw [if_pos c39] at H
                          have c39b0 : (a0_1 == 148) = true := beq_iff_eq.mpr c39
                          have c39b1 : (a0_1 != 148) = false := bne_eq_false_iff_eq.mpr c39
                          clear c39
                          (first | rw [c39b0] | (simp only [i64_w, i32_w]; rw [c39b0]) | skip)
                          have H' := Aside0.mk H
                          clear H
                          go_wp2
                          go_meet
                          case rel => exact ⟨_, ((a0_1 == 148)), (by first | rfl | (simp; done) | (simp [*]; done)), H', ⟨by have := HJ1.out; have := HJ14.out; first | omega | exact Nat.le_refl _⟩, ⟨by (with_reducible repeat (first | refine blk_drewN ?_ _ | refine blk_drew ?_ | refine blk_alloc ?_ _)); exact BK704.out⟩, ⟨by (with_reducible repeat (first | refine blk_drewN ?_ _ | refine blk_drew ?_ | refine blk_alloc ?_ _)); exact BK705.out⟩, ⟨by repeat (first | (with_reducible first | exact HB.out | apply below_alloc | apply pw_below_drewN | apply below_drew1 | refine below_set ?_ GE704.out | refine below_set ?_ GE705.out) | exact HB.out)⟩⟩
                        · rw [if_neg c39] at H
                          have c39b0 : (a0_1 == 148) = false := beq_eq_false_iff_ne.mpr c39
                          have c39b1 : (a0_1 != 148) = true := bne_iff_ne.mpr c39
                          (first | rw [c39b0] | (simp only [i64_w, i32_w]; rw [c39b0]) | skip)
                          have H' := Aside0.mk H
                          clear H
                          go_wp2
                          go_meet
                          case rel => exact ⟨_, ((a0_1 == 149)), (by first | rfl | (simp; done) | (simp [*]; done)), H', ⟨by have := HJ1.out; have := HJ14.out; first | omega | exact Nat.le_refl _⟩, ⟨by (with_reducible repeat (first | refine blk_drewN ?_ _ | refine blk_drew ?_ | refine blk_alloc ?_ _)); exact BK704.out⟩, ⟨by (with_reducible repeat (first | refine blk_drewN ?_ _ | refine blk_drew ?_ | refine blk_alloc ?_ _)); exact BK705.out⟩, ⟨by repeat (first | (with_reducible first | exact HB.out | apply below_alloc | apply pw_below_drewN | apply below_drew1 | refine below_set ?_ GE704.out | refine below_set ?_ GE705.out) | exact HB.out)⟩⟩
                      case rest =>
                        clear HC38
                        try clear c1
                        try clear c2
                        try clear p2
                        try clear c3
                        try clear c5
                        try clear c7
                        try clear c7b0
                        try clear c7b1
                        try clear c8
                        try clear c8b0
                        try clear c8b1
                        try clear c9
                        try clear c9b0
                        try clear c9b1
                        try clear c10
                        try clear c10b0
                        try clear c10b1
                        try clear c11
                        try clear c11b0
                        try clear c11b1
                        try clear c12
                        try clear c13
                        try clear c16
                        try clear c16b0
                        try clear c16b1
                        try clear c17
                        try clear c17b0
                        try clear c17b1
                        try clear c18
                        try clear c18b0
                        try clear c18b1
                        try clear c19
                        try clear c19b0
                        try clear c19b1
                        try clear c20
                        try clear c20b0
                        try clear c20b1
                        try clear c21
                        try clear c21b0
                        try clear c21b1
                        try clear c22
                        try clear c23
                        try clear c25
                        try clear c25b0
                        try clear c25b1
                        try clear c26
                        try clear c28
                        try clear c28b0
                        try clear c28b1
                        try clear c29
                        try clear c31
                        try clear c31b0
                        try clear c31b1
                        try clear c32
                        try clear c34
                        try clear c34b0
                        try clear c34b1
                        try clear c35
                        try clear c36
                        try clear c39
                        try clear c39b0
                        try clear c39b1
                        try clear hcz14_0
                        try clear hcz14_1
                        try clear hcz24_0
                        try clear hcz24_1
                        try clear hcz27_0
                        try clear hcz27_1
                        try clear hcz30_0
                        try clear hcz30_1
                        try clear hcz33_0
                        try clear hcz33_1
                        try clear hcz36_0
                        try clear hcz36_1
                        try clear hcz36_2
                        try clear hcz36_3
                        try clear hcz36_4
                        try clear hcz36_5
                        try clear hcz36_6
                        try clear hcz36_7
                        try clear hcz36_8
                        try clear hcz36_9
                        try clear hcz37_0
                        try clear hcz37_1
                        try clear hcz6_0
                        try clear hcz6_1
                        try clear hcz6_2
                        try clear hcz6_3
                        try clear hcz6_4
                        try clear hcz6_5
                        try clear hcz6_6
                        try clear hcz6_7
                        try clear hcz6_8
                        try clear hcz6_9
                        try clear hfz14_0
                        try clear hfz14_1
                        try clear hfz24_0
                        try clear hfz24_1
                        try clear hfz27_0
                        try clear hfz27_1
                        try clear hfz30_0
                        try clear hfz30_1
                        try clear hfz33_0
                        try clear hfz33_1
                        try clear hfz36_0
                        try clear hfz36_1
                        try clear hfz36_2
                        try clear hfz36_3
                        try clear hfz36_4
                        try clear hfz36_5
                        try clear hfz36_6
                        try clear hfz36_7
                        try clear hfz36_8
                        try clear hfz36_9
                        try clear hfz37_0
                        try clear hfz37_1
                        try clear hfz6_0
                        try clear hfz6_1
                        try clear hfz6_2
                        try clear hfz6_3
                        try clear hfz6_4
                        try clear hfz6_5
                        try clear hfz6_6
                        try clear hfz6_7
                        try clear hfz6_8
                        try clear hfz6_9
                        try clear p2
                        obtain ⟨kq, x37_37, rfl, HA, HJ37, BK704, BK705, HB⟩ := hcut
                        cases kq with
                        | zero => exact absurd HA.out (by simp [garderoberef21_Of.j2])
                        | succ kj37 =>
                          have H := HA.out
                          clear HA
                          simp only [garderoberef21_Of.j2] at H
                          by_cases c40 : x37_37 = true
                          · subst c40
                            have H1 : (if a0_2 = 0 then (some (7, a0_5, true)) else (some (7, (-1), true))) = some (r1, r2, r3) := by rw [if_pos rfl] at H; exact H
                            clear H
                            have H := H1
                            clear H1
                            by_cases c41 : a0_2 = 0
                            · rw [if_pos c41] at H
                              have c41b0 : (a0_2 == 0) = true := beq_iff_eq.mpr c41
                              have c41b1 : (a0_2 != 0) = false := bne_eq_false_iff_eq.mpr c41
                              clear c41
                              simp only [Option.some.injEq, Prod.mk.injEq] at H
                              obtain ⟨rfl, rfl, rfl⟩ := H
                              have hnb42 := NB704_705.out
                              have hnc42 := NB705_704.out
                              have hcz43_0 : wc.cell? ⟨gb704, 0, none⟩ = some (.int .i64 a0_0) := (blk_cell BK704.out 0).trans rfl
                              have hcz43_1 : wc.cell? ⟨gb704, 1, none⟩ = some (.int .u8 a0_1) := (blk_cell BK704.out 1).trans rfl
                              have hcz43_2 : wc.cell? ⟨gb704, 2, none⟩ = some (.int .i64 a0_2) := (blk_cell BK704.out 2).trans rfl
                              have hcz43_3 : wc.cell? ⟨gb704, 3, none⟩ = some (.int .u8 a0_3) := (blk_cell BK704.out 3).trans rfl
                              have hcz43_4 : wc.cell? ⟨gb704, 4, none⟩ = some (.int .u16 a0_4) := (blk_cell BK704.out 4).trans rfl
                              have hcz43_5 : wc.cell? ⟨gb704, 5, none⟩ = some (.int .i64 a0_5) := (blk_cell BK704.out 5).trans rfl
                              have hcz43_6 : wc.cell? ⟨gb704, 6, none⟩ = some (.int .i64 a0_6) := (blk_cell BK704.out 6).trans rfl
                              have hcz43_7 : wc.cell? ⟨gb704, 7, none⟩ = some (.slice A0_7 l0_7.length c0_7) := (blk_cell BK704.out 7).trans rfl
                              have hcz43_8 : wc.cell? ⟨gb704, 8, none⟩ = some (.slice A0_8 l0_8.length c0_8) := (blk_cell BK704.out 8).trans rfl
                              have hcz43_9 : wc.cell? ⟨gb704, 9, none⟩ = some (.int .u16 a0_9) := (blk_cell BK704.out 9).trans rfl
                              have hfz43_0 := blk_frozen BK704.out 0
                              have hfz43_1 := blk_frozen BK704.out 1
                              have hfz43_2 := blk_frozen BK704.out 2
                              have hfz43_3 := blk_frozen BK704.out 3
                              have hfz43_4 := blk_frozen BK704.out 4
                              have hfz43_5 := blk_frozen BK704.out 5
                              have hfz43_6 := blk_frozen BK704.out 6
                              have hfz43_7 := blk_frozen BK704.out 7
                              have hfz43_8 := blk_frozen BK704.out 8
                              have hfz43_9 := blk_frozen BK704.out 9
                              have hcz44_0 : wc.cell? ⟨gb705, 0, none⟩ = some (.int .u8 0) := (blk_cell BK705.out 0).trans rfl
                              have hcz44_1 : wc.cell? ⟨gb705, 1, none⟩ = some (.int .i64 0) := (blk_cell BK705.out 1).trans rfl
                              have hfz44_0 := blk_frozen BK705.out 0
                              have hfz44_1 := blk_frozen BK705.out 1
                              go_wp2
                              refine bodyPost_ret (results_ct rfl _ _ gb705 64 #[.int .u8 7, .int .i64 a0_5] (0, 0) _ rfl (by (with_reducible repeat (first | refine blk_drewN ?_ _ | refine blk_drew ?_ | refine blk_alloc ?_ _)); refine blk_put (cs := #[.int .u8 7, .int .i64 0]) ?_ 1 _ rfl; (with_reducible repeat (first | refine blk_drewN ?_ _ | refine blk_drew ?_ | refine blk_alloc ?_ _)); refine blk_put (cs := #[.int .u8 0, .int .i64 0]) ?_ 0 _ rfl; (with_reducible repeat (first | refine blk_drewN ?_ _ | refine blk_drew ?_ | refine blk_alloc ?_ _)); exact BK705.out) Try.underlying64 rfl (by kernel_rfl)) rfl ?_
                              exact ⟨by first | rfl | (simp [errW_none, errW_some] <;> rfl) | (simp [*, errW_none, errW_some] <;> rfl), by repeat (first | (with_reducible first | exact HB.out | apply below_alloc | apply pw_below_drewN | apply below_drew1 | refine below_set ?_ GE704.out | refine below_set ?_ GE705.out) | exact HB.out)⟩
                            · rw [if_neg c41] at H
                              have c41b0 : (a0_2 == 0) = false := beq_eq_false_iff_ne.mpr c41
                              have c41b1 : (a0_2 != 0) = true := bne_iff_ne.mpr c41
                              simp only [Option.some.injEq, Prod.mk.injEq] at H
                              obtain ⟨rfl, rfl, rfl⟩ := H
                              have hnb45 := NB704_705.out
                              have hnc45 := NB705_704.out
                              have hcz46_0 : wc.cell? ⟨gb704, 0, none⟩ = some (.int .i64 a0_0) := (blk_cell BK704.out 0).trans rfl
                              have hcz46_1 : wc.cell? ⟨gb704, 1, none⟩ = some (.int .u8 a0_1) := (blk_cell BK704.out 1).trans rfl
                              have hcz46_2 : wc.cell? ⟨gb704, 2, none⟩ = some (.int .i64 a0_2) := (blk_cell BK704.out 2).trans rfl
                              have hcz46_3 : wc.cell? ⟨gb704, 3, none⟩ = some (.int .u8 a0_3) := (blk_cell BK704.out 3).trans rfl
                              have hcz46_4 : wc.cell? ⟨gb704, 4, none⟩ = some (.int .u16 a0_4) := (blk_cell BK704.out 4).trans rfl
                              have hcz46_5 : wc.cell? ⟨gb704, 5, none⟩ = some (.int .i64 a0_5) := (blk_cell BK704.out 5).trans rfl
                              have hcz46_6 : wc.cell? ⟨gb704, 6, none⟩ = some (.int .i64 a0_6) := (blk_cell BK704.out 6).trans rfl
                              have hcz46_7 : wc.cell? ⟨gb704, 7, none⟩ = some (.slice A0_7 l0_7.length c0_7) := (blk_cell BK704.out 7).trans rfl
                              have hcz46_8 : wc.cell? ⟨gb704, 8, none⟩ = some (.slice A0_8 l0_8.length c0_8) := (blk_cell BK704.out 8).trans rfl
                              have hcz46_9 : wc.cell? ⟨gb704, 9, none⟩ = some (.int .u16 a0_9) := (blk_cell BK704.out 9).trans rfl
                              have hfz46_0 := blk_frozen BK704.out 0
                              have hfz46_1 := blk_frozen BK704.out 1
                              have hfz46_2 := blk_frozen BK704.out 2
                              have hfz46_3 := blk_frozen BK704.out 3
                              have hfz46_4 := blk_frozen BK704.out 4
                              have hfz46_5 := blk_frozen BK704.out 5
                              have hfz46_6 := blk_frozen BK704.out 6
                              have hfz46_7 := blk_frozen BK704.out 7
                              have hfz46_8 := blk_frozen BK704.out 8
                              have hfz46_9 := blk_frozen BK704.out 9
                              have hcz47_0 : wc.cell? ⟨gb705, 0, none⟩ = some (.int .u8 0) := (blk_cell BK705.out 0).trans rfl
                              have hcz47_1 : wc.cell? ⟨gb705, 1, none⟩ = some (.int .i64 0) := (blk_cell BK705.out 1).trans rfl
                              have hfz47_0 := blk_frozen BK705.out 0
                              have hfz47_1 := blk_frozen BK705.out 1
                              go_wp2
                              refine bodyPost_ret (results_ct rfl _ _ gb705 64 #[.int .u8 7, .int .i64 (-1)] (0, 0) _ rfl (by (with_reducible repeat (first | refine blk_drewN ?_ _ | refine blk_drew ?_ | refine blk_alloc ?_ _)); refine blk_put (cs := #[.int .u8 7, .int .i64 0]) ?_ 1 _ rfl; (with_reducible repeat (first | refine blk_drewN ?_ _ | refine blk_drew ?_ | refine blk_alloc ?_ _)); refine blk_put (cs := #[.int .u8 0, .int .i64 0]) ?_ 0 _ rfl; (with_reducible repeat (first | refine blk_drewN ?_ _ | refine blk_drew ?_ | refine blk_alloc ?_ _)); exact BK705.out) Try.underlying64 rfl (by kernel_rfl)) rfl ?_
                              exact ⟨by first | rfl | (simp [errW_none, errW_some] <;> rfl) | (simp [*, errW_none, errW_some] <;> rfl), by repeat (first | (with_reducible first | exact HB.out | apply below_alloc | apply pw_below_drewN | apply below_drew1 | refine below_set ?_ GE704.out | refine below_set ?_ GE705.out) | exact HB.out)⟩
                          · replace c40 := Bool.eq_false_iff.mpr c40
                            subst c40
                            have H1 : (some (0, 0, false)) = some (r1, r2, r3) := by rw [if_neg (show ¬ (false = true) by decide)] at H; exact H
                            clear H
                            have H := H1
                            clear H1
                            simp only [Option.some.injEq, Prod.mk.injEq] at H
                            obtain ⟨rfl, rfl, rfl⟩ := H
                            have hnb48 := NB705_704.out
                            have hnc48 := NB704_705.out
                            have hcz49_0 : wc.cell? ⟨gb705, 0, none⟩ = some (.int .u8 0) := (blk_cell BK705.out 0).trans rfl
                            have hcz49_1 : wc.cell? ⟨gb705, 1, none⟩ = some (.int .i64 0) := (blk_cell BK705.out 1).trans rfl
                            have hfz49_0 := blk_frozen BK705.out 0
                            have hfz49_1 := blk_frozen BK705.out 1
                            go_wp2
                            refine bodyPost_ret (results_ct rfl _ _ gb705 64 #[.int .u8 0, .int .i64 0] (0, 0) _ rfl (by (with_reducible repeat (first | refine blk_drewN ?_ _ | refine blk_drew ?_ | refine blk_alloc ?_ _)); refine blk_put (cs := #[.int .u8 0, .int .i64 0]) ?_ 1 _ rfl; (with_reducible repeat (first | refine blk_drewN ?_ _ | refine blk_drew ?_ | refine blk_alloc ?_ _)); refine blk_put (cs := #[.int .u8 0, .int .i64 0]) ?_ 0 _ rfl; (with_reducible repeat (first | refine blk_drewN ?_ _ | refine blk_drew ?_ | refine blk_alloc ?_ _)); exact BK705.out) Try.underlying64 rfl (by kernel_rfl)) rfl ?_
                            exact ⟨by first | rfl | (simp [errW_none, errW_some] <;> rfl) | (simp [*, errW_none, errW_some] <;> rfl), by repeat (first | (with_reducible first | exact HB.out | apply below_alloc | apply pw_below_drewN | apply below_drew1 | refine below_set ?_ GE704.out | refine below_set ?_ GE705.out) | exact HB.out)⟩

end Go.Proofs.Ytocdpledkmmomaa.P
