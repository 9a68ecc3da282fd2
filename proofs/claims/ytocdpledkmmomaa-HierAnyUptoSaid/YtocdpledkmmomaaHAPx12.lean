import Derived.Test.YtocdpledkmmomaaHAPx0
import Derived.Test.YtocdpledkmmomaaHAPx2
import Derived.Test.YtocdpledkmmomaaHAPx11
import Derived.Test.YtocdpledkmmomaaHAGCommon
import Derived.Test.YtocdpledkmmomaaHAGUp
import Derived.Test.YtocdpledkmmomaaHAGIfaces
import Derived.Test.YtocdpledkmmomaaHAGShared
namespace Go.Proofs.Ytocdpledkmmomaa.P
open Go.RowKit Go.Proofs.YtocdpledkmmomaaW.PrintWords Go.Proofs.YtocdpledkmmomaaW.PrintLast Go.Proofs.YtocdpledkmmomaaW.PrintMore
attribute [local go_sem] max2_int min2_int max_two min_two max_three min_three max_four min_four   -- for this text's walks alone
set_option linter.unusedVariables false
set_option linter.unusedSimpArgs false

attribute [local go_sem high] eqA32
mutual
def vals_Join.j0 : Nat → Bool → List (S110) → List (S86) → List (S185) → List (S124) → Int → Int → Int → Int → Int → Int → Int → Int → Int → Int → Int → Int → Option (Int × Int × Int × Int)
  | 0, _, _, _, _, _, _, _, _, _, _, _, _, _, _, _, _, _ => none
  | k + 1, x21, x406000, x406001, x406002, x406003, x407000, x407001, x407002, x407003, x408000, x408001, x408002, x408003, x410000, x410001, x410002, x410003 => if x21 = true then (some (x410000, x410001, x410002, x410003)) else (if (x407000 == x408000 && ((x407001 == x408001 && (x407002 == x408002)) && (x407003 == x408003))) = true then (some (x407000, x407001, x407002, x407003)) else (if x407000 = 3 then (vals_Join.j1 k (x408000 == 4) x406000 x406001 x406002 x406003 x407000 x407001 x407002 x407003 x408000 x408001 x408002 x408003 x410000 x410001 x410002 x410003) else (vals_Join.j1 k false x406000 x406001 x406002 x406003 x407000 x407001 x407002 x407003 x408000 x408001 x408002 x408003 x410000 x410001 x410002 x410003)))
def vals_Join.j1 : Nat → Bool → List (S110) → List (S86) → List (S185) → List (S124) → Int → Int → Int → Int → Int → Int → Int → Int → Int → Int → Int → Int → Option (Int × Int × Int × Int)
  | 0, _, _, _, _, _, _, _, _, _, _, _, _, _, _, _, _, _ => none
  | k + 1, x28, x406000, x406001, x406002, x406003, x407000, x407001, x407002, x407003, x408000, x408001, x408002, x408003, x410000, x410001, x410002, x410003 => if x28 = true then (some (x408000, x408001, x408002, x408003)) else (if x407000 = 4 then (vals_Join.j2 k (x408000 == 3) x406000 x406001 x406002 x406003 x407000 x407001 x407002 x407003 x408000 x408001 x408002 x408003 x410000 x410001 x410002 x410003) else (vals_Join.j2 k false x406000 x406001 x406002 x406003 x407000 x407001 x407002 x407003 x408000 x408001 x408002 x408003 x410000 x410001 x410002 x410003))
def vals_Join.j2 : Nat → Bool → List (S110) → List (S86) → List (S185) → List (S124) → Int → Int → Int → Int → Int → Int → Int → Int → Int → Int → Int → Int → Option (Int × Int × Int × Int)
  | 0, _, _, _, _, _, _, _, _, _, _, _, _, _, _, _, _, _ => none
  | k + 1, x38, x406000, x406001, x406002, x406003, x407000, x407001, x407002, x407003, x408000, x408001, x408002, x408003, x410000, x410001, x410002, x410003 => if x38 = true then (some (x407000, x407001, x407002, x407003)) else (if x407000 = 4 then (if x408000 = 4 then (if x407001 = x408001 then ((hier_Common.f x406000 x406001 x406002 x406003 (wrap64 (x407002)) (wrap64 (x408002))).bind fun t414 => (some (4, x407001, IntKind.u16.wrap (t414), 0))) else ((vals_object.f 0).bind fun bt415 => (some (bt415.1, bt415.2.1, bt415.2.2.1, bt415.2.2.2)))) else (some (x410000, x410001, x410002, x410003))) else (some (x410000, x410001, x410002, x410003)))
end
def vals_Join.f (k : Nat) (l0_0 : List (S110)) (l0_1 : List (S86)) (l0_2 : List (S185)) (l0_3 : List (S124)) (a1_0 : Int) (a1_1 : Int) (a1_2 : Int) (a1_3 : Int) (a2_0 : Int) (a2_1 : Int) (a2_2 : Int) (a2_3 : Int) : Option (Int × Int × Int × Int) := (vals_May.f k l0_0 l0_1 l0_2 l0_3 a1_0 a1_1 a1_2 a1_3).bind fun t410 => (if t410 = true then ((vals_May.f k l0_0 l0_1 l0_2 l0_3 a2_0 a2_1 a2_2 a2_3).bind fun t411 => (vals_Join.j0 k (!t411) l0_0 l0_1 l0_2 l0_3 a1_0 a1_1 a1_2 a1_3 a2_0 a2_1 a2_2 a2_3 1 0 0 0)) else (vals_Join.j0 k true l0_0 l0_1 l0_2 l0_3 a1_0 a1_1 a1_2 a1_3 a2_0 a2_1 a2_2 a2_3 1 0 0 0))
def vals_Join.T12 : Bool × List (List Nat × List Nat) := (true, [([], []), ([0], [0]), ([], []), ([2], [2]), ([], []), ([], []), ([4, 1, 0, 1, 4, 5], [1, 4]), ([5, 3, 6, 0, 1, 2, 3, 4, 5, 6], [3, 5])])
def vals_Join.B12 : List Nat := [0, 1, 0, 4, 0, 0, 51, 127]
theorem vals_Join.tab12 : rtab .any (opsOf Try.f22 12) = vals_Join.T12 := by kernel_rfl
theorem vals_Join.bits12 : waitsOk vals_Join.T12.2 vals_Join.B12 = true := by kernel_rfl
set_option maxHeartbeats 8000000 in
set_option maxRecDepth 100000 in
theorem vals_Join.calls (k : Nat) (A0_0 : Option Addr) (c0_0 : Nat) (l0_0 : List (S110)) (A0_1 : Option Addr) (c0_1 : Nat) (l0_1 : List (S86)) (A0_2 : Option Addr) (c0_2 : Nat) (l0_2 : List (S185)) (A0_3 : Option Addr) (c0_3 : Nat) (l0_3 : List (S124)) (a1_0 : Int) (a1_1 : Int) (a1_2 : Int) (a1_3 : Int) (a2_0 : Int) (a2_1 : Int) (a2_2 : Int) (a2_3 : Int) (r1 : Int) (r2 : Int) (r3 : Int) (r4 : Int) (w : World) (hr0_0 : Kd.C k110 w A0_0 l0_0.length l0_0) (hc0_0 : l0_0.length ≤ c0_0) (hr0_1 : Kd.C k86 w A0_1 l0_1.length l0_1) (hc0_1 : l0_1.length ≤ c0_1) (hr0_2 : Kd.C k185 w A0_2 l0_2.length l0_2) (hc0_2 : l0_2.length ≤ c0_2) (hr0_3 : Kd.C k124 w A0_3 l0_3.length l0_3) (hc0_3 : l0_3.length ≤ c0_3) (h : vals_Join.f k l0_0 l0_1 l0_2 l0_3 a1_0 a1_1 a1_2 a1_3 a2_0 a2_1 a2_2 a2_3 = some (r1, r2, r3, r4)) :
    Calls Try.prog 22 #[.agg #[.slice A0_0 l0_0.length c0_0, .slice A0_1 l0_1.length c0_1, .slice A0_2 l0_2.length c0_2, .slice A0_3 l0_3.length c0_3], .agg #[.int .u8 a1_0, .int .u8 a1_1, .int .u16 a1_2, .int .i64 a1_3], .agg #[.int .u8 a2_0, .int .u8 a2_1, .int .u16 a2_2, .int .i64 a2_3]] w fun e w' => e = .returned (.agg #[.int .u8 r1, .int .u8 r2, .int .u16 r3, .int .i64 r4]) ∧ Below w.heap.size w w' := by
  have hu54 := Try.underlying54
  have hu32 := Try.underlying32
  have hu30 := Try.underlying30
  have HR0_0 := Aside0.mk hr0_0
  have HC0_0 := Aside0.mk hc0_0
  clear hr0_0 hc0_0
  have HR0_1 := Aside0.mk hr0_1
  have HC0_1 := Aside0.mk hc0_1
  clear hr0_1 hc0_1
  have HR0_2 := Aside0.mk hr0_2
  have HC0_2 := Aside0.mk hc0_2
  clear hr0_2 hc0_2
  have HR0_3 := Aside0.mk hr0_3
  have HC0_3 := Aside0.mk hc0_3
  clear hr0_3 hc0_3
  have HB := Aside0.mk (Below.refl w.heap.size w)
  have H : ((vals_May.f k l0_0 l0_1 l0_2 l0_3 a1_0 a1_1 a1_2 a1_3).bind fun t410 => (if t410 = true then ((vals_May.f k l0_0 l0_1 l0_2 l0_3 a2_0 a2_1 a2_2 a2_3).bind fun t411 => (vals_Join.j0 k (!t411) l0_0 l0_1 l0_2 l0_3 a1_0 a1_1 a1_2 a1_3 a2_0 a2_1 a2_2 a2_3 1 0 0 0)) else (vals_Join.j0 k true l0_0 l0_1 l0_2 l0_3 a1_0 a1_1 a1_2 a1_3 a2_0 a2_1 a2_2 a2_3 1 0 0 0))) = some (r1, r2, r3, r4) := h
  clear h
  have HC4 := Aside0.mk H
  clear H
  go_enter Try.func22, Try.ntmps22
  go_upto_region 2 with (first | ((with_reducible refine gate_dst (N := 3) rfl ?_); refine box_event ?hg (N := 3) ?hd (cs := #[.slice A0_0 l0_0.length c0_0, .slice A0_1 l0_1.length c0_1, .slice A0_2 l0_2.length c0_2, .slice A0_3 l0_3.length c0_3]) (t := 54) ?hr ?_; (case hd => rfl); (case hg => rfl); (case hr => first | (go_simp; done) | (go_simp; rfl)); intro gb405 hg w5 hbox hb; have n0_ := Aside0.mk (below_step (by repeat (first | (with_reducible first | exact HB.out | apply below_alloc | apply pw_below_drewN | apply below_drew1) | exact HB.out)) hb); have n1_ := Aside0.mk (hbox); have n2_ := Aside0.mk ((by rw [hg]; exact (below_size (by repeat (first | (with_reducible first | exact HB.out | apply below_alloc | apply pw_below_drewN | apply below_drew1) | exact HB.out))) : w.heap.size ≤ gb405)); have n3_ := Aside0.mk ((by rw [hg]; exact (below_size (by repeat (first | (with_reducible first | exact HB.out | apply below_alloc | apply pw_below_drewN | apply below_drew1) | exact HB.out))) : w.heap.size ≤ gb405)); clear HB; have HB := n0_; have BK405 := n1_; have GW405 := n2_; have GE405 := n3_; clear n0_ n1_ n2_ n3_; clear hb hbox hg) | ((with_reducible refine gate_dst (N := 4) rfl ?_); refine box_event ?hg (N := 4) ?hd (cs := #[.int .u8 a1_0, .int .u8 a1_1, .int .u16 a1_2, .int .i64 a1_3]) (t := 32) ?hr ?_; (case hd => rfl); (case hg => rfl); (case hr => first | (go_simp; done) | (go_simp; rfl)); intro gb406 hg w6 hbox hb; have n0_ := Aside0.mk (blk_below (g := gb405) (o := .cells #[.slice A0_0 l0_0.length c0_0, .slice A0_1 l0_1.length c0_1, .slice A0_2 l0_2.length c0_2, .slice A0_3 l0_3.length c0_3] 54 (0, 0)) (by (with_reducible repeat (first | refine blk_drewN ?_ _ | refine blk_drew ?_ | refine blk_alloc ?_ _)); exact BK405.out) hb); have n1_ := Aside0.mk (below_step (by repeat (first | (with_reducible first | exact HB.out | apply below_alloc | apply pw_below_drewN | apply below_drew1 | refine below_set ?_ GE405.out) | exact HB.out)) hb); have n2_ := Aside0.mk (hbox); have n3_ := Aside0.mk ((by rw [hg]; exact (below_size (by repeat (first | (with_reducible first | exact HB.out | apply below_alloc | apply pw_below_drewN | apply below_drew1 | refine below_set ?_ GE405.out) | exact HB.out))) : w.heap.size ≤ gb406)); have n4_ := Aside0.mk ((by rw [hg]; exact (below_size (by repeat (first | (with_reducible first | exact HB.out | apply below_alloc | apply pw_below_drewN | apply below_drew1 | refine below_set ?_ GE405.out) | exact HB.out))) : w.heap.size ≤ gb406)); have n5_ := Aside0.mk ((by rw [hg]; exact Nat.ne_of_lt (blk_lt (g := gb405) (o := .cells #[.slice A0_0 l0_0.length c0_0, .slice A0_1 l0_1.length c0_1, .slice A0_2 l0_2.length c0_2, .slice A0_3 l0_3.length c0_3] 54 (0, 0)) (by (with_reducible repeat (first | refine blk_drewN ?_ _ | refine blk_drew ?_ | refine blk_alloc ?_ _)); exact BK405.out)) : gb405 ≠ gb406)); have n6_ := Aside0.mk ((by rw [hg]; exact Nat.ne_of_gt (blk_lt (g := gb405) (o := .cells #[.slice A0_0 l0_0.length c0_0, .slice A0_1 l0_1.length c0_1, .slice A0_2 l0_2.length c0_2, .slice A0_3 l0_3.length c0_3] 54 (0, 0)) (by (with_reducible repeat (first | refine blk_drewN ?_ _ | refine blk_drew ?_ | refine blk_alloc ?_ _)); exact BK405.out)) : gb406 ≠ gb405)); clear BK405; clear HB; have BK405 := n0_; have HB := n1_; have BK406 := n2_; have GW406 := n3_; have GE406 := n4_; have NB405_406 := n5_; have NB406_405 := n6_; clear n0_ n1_ n2_ n3_ n4_ n5_ n6_; clear hb hbox hg) | ((with_reducible refine gate_dst (N := 5) rfl ?_); refine box_event ?hg (N := 5) ?hd (cs := #[.int .u8 a2_0, .int .u8 a2_1, .int .u16 a2_2, .int .i64 a2_3]) (t := 32) ?hr ?_; (case hd => rfl); (case hg => rfl); (case hr => first | (go_simp; done) | (go_simp; rfl)); intro gb407 hg w7 hbox hb; have n0_ := Aside0.mk (blk_below (g := gb405) (o := .cells #[.slice A0_0 l0_0.length c0_0, .slice A0_1 l0_1.length c0_1, .slice A0_2 l0_2.length c0_2, .slice A0_3 l0_3.length c0_3] 54 (0, 0)) (by (with_reducible repeat (first | refine blk_drewN ?_ _ | refine blk_drew ?_ | refine blk_alloc ?_ _)); exact BK405.out) hb); have n1_ := Aside0.mk (blk_below (g := gb406) (o := .cells #[.int .u8 a1_0, .int .u8 a1_1, .int .u16 a1_2, .int .i64 a1_3] 32 (0, 0)) (by (with_reducible repeat (first | refine blk_drewN ?_ _ | refine blk_drew ?_ | refine blk_alloc ?_ _)); exact BK406.out) hb); have n2_ := Aside0.mk (below_step (by repeat (first | (with_reducible first | exact HB.out | apply below_alloc | apply pw_below_drewN | apply below_drew1 | refine below_set ?_ GE405.out | refine below_set ?_ GE406.out) | exact HB.out)) hb); have n3_ := Aside0.mk (hbox); have n4_ := Aside0.mk ((by rw [hg]; exact (below_size (by repeat (first | (with_reducible first | exact HB.out | apply below_alloc | apply pw_below_drewN | apply below_drew1 | refine below_set ?_ GE405.out | refine below_set ?_ GE406.out) | exact HB.out))) : w.heap.size ≤ gb407)); have n5_ := Aside0.mk ((by rw [hg]; exact (below_size (by repeat (first | (with_reducible first | exact HB.out | apply below_alloc | apply pw_below_drewN | apply below_drew1 | refine below_set ?_ GE405.out | refine below_set ?_ GE406.out) | exact HB.out))) : w.heap.size ≤ gb407)); have n6_ := Aside0.mk ((by rw [hg]; exact Nat.ne_of_lt (blk_lt (g := gb405) (o := .cells #[.slice A0_0 l0_0.length c0_0, .slice A0_1 l0_1.length c0_1, .slice A0_2 l0_2.length c0_2, .slice A0_3 l0_3.length c0_3] 54 (0, 0)) (by (with_reducible repeat (first | refine blk_drewN ?_ _ | refine blk_drew ?_ | refine blk_alloc ?_ _)); exact BK405.out)) : gb405 ≠ gb407)); have n7_ := Aside0.mk ((by rw [hg]; exact Nat.ne_of_gt (blk_lt (g := gb405) (o := .cells #[.slice A0_0 l0_0.length c0_0, .slice A0_1 l0_1.length c0_1, .slice A0_2 l0_2.length c0_2, .slice A0_3 l0_3.length c0_3] 54 (0, 0)) (by (with_reducible repeat (first | refine blk_drewN ?_ _ | refine blk_drew ?_ | refine blk_alloc ?_ _)); exact BK405.out)) : gb407 ≠ gb405)); have n8_ := Aside0.mk ((by rw [hg]; exact Nat.ne_of_lt (blk_lt (g := gb406) (o := .cells #[.int .u8 a1_0, .int .u8 a1_1, .int .u16 a1_2, .int .i64 a1_3] 32 (0, 0)) (by (with_reducible repeat (first | refine blk_drewN ?_ _ | refine blk_drew ?_ | refine blk_alloc ?_ _)); exact BK406.out)) : gb406 ≠ gb407)); have n9_ := Aside0.mk ((by rw [hg]; exact Nat.ne_of_gt (blk_lt (g := gb406) (o := .cells #[.int .u8 a1_0, .int .u8 a1_1, .int .u16 a1_2, .int .i64 a1_3] 32 (0, 0)) (by (with_reducible repeat (first | refine blk_drewN ?_ _ | refine blk_drew ?_ | refine blk_alloc ?_ _)); exact BK406.out)) : gb407 ≠ gb406)); clear BK405; clear BK406; clear HB; have BK405 := n0_; have BK406 := n1_; have HB := n2_; have BK407 := n3_; have GW407 := n4_; have GE407 := n5_; have NB405_407 := n6_; have NB407_405 := n7_; have NB406_407 := n8_; have NB407_406 := n9_; clear n0_ n1_ n2_ n3_ n4_ n5_ n6_ n7_ n8_ n9_; clear hb hbox hg) | ((with_reducible refine gate_dst (N := 6) rfl ?_); refine box_event ?hg (N := 6) ?hd (cs := #[.int .u8 0, .int .u8 0, .int .u16 0, .int .i64 0]) (t := 32) ?hr ?_; (case hd => rfl); (case hg => rfl); (case hr => first | (go_simp; done) | (go_simp; rfl)); intro gb408 hg w8 hbox hb; have n0_ := Aside0.mk (blk_below (g := gb405) (o := .cells #[.slice A0_0 l0_0.length c0_0, .slice A0_1 l0_1.length c0_1, .slice A0_2 l0_2.length c0_2, .slice A0_3 l0_3.length c0_3] 54 (0, 0)) (by (with_reducible repeat (first | refine blk_drewN ?_ _ | refine blk_drew ?_ | refine blk_alloc ?_ _)); exact BK405.out) hb); have n1_ := Aside0.mk (blk_below (g := gb406) (o := .cells #[.int .u8 a1_0, .int .u8 a1_1, .int .u16 a1_2, .int .i64 a1_3] 32 (0, 0)) (by (with_reducible repeat (first | refine blk_drewN ?_ _ | refine blk_drew ?_ | refine blk_alloc ?_ _)); exact BK406.out) hb); have n2_ := Aside0.mk (blk_below (g := gb407) (o := .cells #[.int .u8 a2_0, .int .u8 a2_1, .int .u16 a2_2, .int .i64 a2_3] 32 (0, 0)) (by (with_reducible repeat (first | refine blk_drewN ?_ _ | refine blk_drew ?_ | refine blk_alloc ?_ _)); exact BK407.out) hb); have n3_ := Aside0.mk (below_step (by repeat (first | (with_reducible first | exact HB.out | apply below_alloc | apply pw_below_drewN | apply below_drew1 | refine below_set ?_ GE405.out | refine below_set ?_ GE406.out | refine below_set ?_ GE407.out) | exact HB.out)) hb); have n4_ := Aside0.mk (hbox); have n5_ := Aside0.mk ((by rw [hg]; exact (below_size (by repeat (first | (with_reducible first | exact HB.out | apply below_alloc | apply pw_below_drewN | apply below_drew1 | refine below_set ?_ GE405.out | refine below_set ?_ GE406.out | refine below_set ?_ GE407.out) | exact HB.out))) : w.heap.size ≤ gb408)); have n6_ := Aside0.mk ((by rw [hg]; exact (below_size (by repeat (first | (with_reducible first | exact HB.out | apply below_alloc | apply pw_below_drewN | apply below_drew1 | refine below_set ?_ GE405.out | refine below_set ?_ GE406.out | refine below_set ?_ GE407.out) | exact HB.out))) : w.heap.size ≤ gb408)); have n7_ := Aside0.mk ((by rw [hg]; exact Nat.ne_of_lt (blk_lt (g := gb405) (o := .cells #[.slice A0_0 l0_0.length c0_0, .slice A0_1 l0_1.length c0_1, .slice A0_2 l0_2.length c0_2, .slice A0_3 l0_3.length c0_3] 54 (0, 0)) (by (with_reducible repeat (first | refine blk_drewN ?_ _ | refine blk_drew ?_ | refine blk_alloc ?_ _)); exact BK405.out)) : gb405 ≠ gb408)); have n8_ := Aside0.mk ((by rw [hg]; exact Nat.ne_of_gt (blk_lt (g := gb405) (o := .cells #[.slice A0_0 l0_0.length c0_0, .slice A0_1 l0_1.length c0_1, .slice A0_2 l0_2.length c0_2, .slice A0_3 l0_3.length c0_3] 54 (0, 0)) (by (with_reducible repeat (first | refine blk_drewN ?_ _ | refine blk_drew ?_ | refine blk_alloc ?_ _)); exact BK405.out)) : gb408 ≠ gb405)); have n9_ := Aside0.mk ((by rw [hg]; exact Nat.ne_of_lt (blk_lt (g := gb406) (o := .cells #[.int .u8 a1_0, .int .u8 a1_1, .int .u16 a1_2, .int .i64 a1_3] 32 (0, 0)) (by (with_reducible repeat (first | refine blk_drewN ?_ _ | refine blk_drew ?_ | refine blk_alloc ?_ _)); exact BK406.out)) : gb406 ≠ gb408)); have n10_ := Aside0.mk ((by rw [hg]; exact Nat.ne_of_gt (blk_lt (g := gb406) (o := .cells #[.int .u8 a1_0, .int .u8 a1_1, .int .u16 a1_2, .int .i64 a1_3] 32 (0, 0)) (by (with_reducible repeat (first | refine blk_drewN ?_ _ | refine blk_drew ?_ | refine blk_alloc ?_ _)); exact BK406.out)) : gb408 ≠ gb406)); have n11_ := Aside0.mk ((by rw [hg]; exact Nat.ne_of_lt (blk_lt (g := gb407) (o := .cells #[.int .u8 a2_0, .int .u8 a2_1, .int .u16 a2_2, .int .i64 a2_3] 32 (0, 0)) (by (with_reducible repeat (first | refine blk_drewN ?_ _ | refine blk_drew ?_ | refine blk_alloc ?_ _)); exact BK407.out)) : gb407 ≠ gb408)); have n12_ := Aside0.mk ((by rw [hg]; exact Nat.ne_of_gt (blk_lt (g := gb407) (o := .cells #[.int .u8 a2_0, .int .u8 a2_1, .int .u16 a2_2, .int .i64 a2_3] 32 (0, 0)) (by (with_reducible repeat (first | refine blk_drewN ?_ _ | refine blk_drew ?_ | refine blk_alloc ?_ _)); exact BK407.out)) : gb408 ≠ gb407)); clear BK405; clear BK406; clear BK407; clear HB; have BK405 := n0_; have BK406 := n1_; have BK407 := n2_; have HB := n3_; have BK408 := n4_; have GW408 := n5_; have GE408 := n6_; have NB405_408 := n7_; have NB408_405 := n8_; have NB406_408 := n9_; have NB408_406 := n10_; have NB407_408 := n11_; have NB408_407 := n12_; clear n0_ n1_ n2_ n3_ n4_ n5_ n6_ n7_ n8_ n9_ n10_ n11_ n12_; clear hb hbox hg) | ((with_reducible refine gate_dst (N := 7) rfl ?_); refine box_event ?hg (N := 7) ?hd (cs := #[.int .u8 0, .int .u8 0, .int .u16 0, .int .i64 0]) (t := 32) ?hr ?_; (case hd => rfl); (case hg => rfl); (case hr => first | (go_simp; done) | (go_simp; rfl)); intro gb409 hg w9 hbox hb; have n0_ := Aside0.mk (blk_below (g := gb405) (o := .cells #[.slice A0_0 l0_0.length c0_0, .slice A0_1 l0_1.length c0_1, .slice A0_2 l0_2.length c0_2, .slice A0_3 l0_3.length c0_3] 54 (0, 0)) (by (with_reducible repeat (first | refine blk_drewN ?_ _ | refine blk_drew ?_ | refine blk_alloc ?_ _)); exact BK405.out) hb); have n1_ := Aside0.mk (blk_below (g := gb406) (o := .cells #[.int .u8 a1_0, .int .u8 a1_1, .int .u16 a1_2, .int .i64 a1_3] 32 (0, 0)) (by (with_reducible repeat (first | refine blk_drewN ?_ _ | refine blk_drew ?_ | refine blk_alloc ?_ _)); exact BK406.out) hb); have n2_ := Aside0.mk (blk_below (g := gb407) (o := .cells #[.int .u8 a2_0, .int .u8 a2_1, .int .u16 a2_2, .int .i64 a2_3] 32 (0, 0)) (by (with_reducible repeat (first | refine blk_drewN ?_ _ | refine blk_drew ?_ | refine blk_alloc ?_ _)); exact BK407.out) hb); have n3_ := Aside0.mk (blk_below (g := gb408) (o := .cells #[.int .u8 0, .int .u8 0, .int .u16 0, .int .i64 0] 32 (0, 0)) (by (with_reducible repeat (first | refine blk_drewN ?_ _ | refine blk_drew ?_ | refine blk_alloc ?_ _)); exact BK408.out) hb); have n4_ := Aside0.mk (below_step (by repeat (first | (with_reducible first | exact HB.out | apply below_alloc | apply pw_below_drewN | apply below_drew1 | refine below_set ?_ GE405.out | refine below_set ?_ GE406.out | refine below_set ?_ GE407.out | refine below_set ?_ GE408.out) | exact HB.out)) hb); have n5_ := Aside0.mk (hbox); have n6_ := Aside0.mk ((by rw [hg]; exact (below_size (by repeat (first | (with_reducible first | exact HB.out | apply below_alloc | apply pw_below_drewN | apply below_drew1 | refine below_set ?_ GE405.out | refine below_set ?_ GE406.out | refine below_set ?_ GE407.out | refine below_set ?_ GE408.out) | exact HB.out))) : w.heap.size ≤ gb409)); have n7_ := Aside0.mk ((by rw [hg]; exact (below_size (by repeat (first | (with_reducible first | exact HB.out | apply below_alloc | apply pw_below_drewN | apply below_drew1 | refine below_set ?_ GE405.out | refine below_set ?_ GE406.out | refine below_set ?_ GE407.out | refine below_set ?_ GE408.out) | exact HB.out))) : w.heap.size ≤ gb409)); have n8_ := Aside0.mk ((by rw [hg]; exact Nat.ne_of_lt (blk_lt (g := gb405) (o := .cells #[.slice A0_0 l0_0.length c0_0, .slice A0_1 l0_1.length c0_1, .slice A0_2 l0_2.length c0_2, .slice A0_3 l0_3.length c0_3] 54 (0, 0)) (by (with_reducible repeat (first | refine blk_drewN ?_ _ | refine blk_drew ?_ | refine blk_alloc ?_ _)); exact BK405.out)) : gb405 ≠ gb409)); have n9_ := Aside0.mk ((by rw [hg]; exact Nat.ne_of_gt (blk_lt (g := gb405) (o := .cells #[.slice A0_0 l0_0.length c0_0, .slice A0_1 l0_1.length c0_1, .slice A0_2 l0_2.length c0_2, .slice A0_3 l0_3.length c0_3] 54 (0, 0)) (by (with_reducible repeat (first | refine blk_drewN ?_ _ | refine blk_drew ?_ | refine blk_alloc ?_ _)); exact BK405.out)) : gb409 ≠ gb405)); have n10_ := Aside0.mk ((by rw [hg]; exact Nat.ne_of_lt (blk_lt (g := gb406) (o := .cells #[.int .u8 a1_0, .int .u8 a1_1, .int .u16 a1_2, .int .i64 a1_3] 32 (0, 0)) (by (with_reducible repeat (first | refine blk_drewN ?_ _ | refine blk_drew ?_ | refine blk_alloc ?_ _)); exact BK406.out)) : gb406 ≠ gb409)); have n11_ := Aside0.mk ((by rw [hg]; exact Nat.ne_of_gt (blk_lt (g := gb406) (o := .cells #[.int .u8 a1_0, .int .u8 a1_1, .int .u16 a1_2, .int .i64 a1_3] 32 (0, 0)) (by (with_reducible repeat (first | refine blk_drewN ?_ _ | refine blk_drew ?_ | refine blk_alloc ?_ _)); exact BK406.out)) : gb409 ≠ gb406)); have n12_ := Aside0.mk ((by rw [hg]; exact Nat.ne_of_lt (blk_lt (g := gb407) (o := .cells #[.int .u8 a2_0, .int .u8 a2_1, .int .u16 a2_2, .int .i64 a2_3] 32 (0, 0)) (by (with_reducible repeat (first | refine blk_drewN ?_ _ | refine blk_drew ?_ | refine blk_alloc ?_ _)); exact BK407.out)) : gb407 ≠ gb409)); have n13_ := Aside0.mk ((by rw [hg]; exact Nat.ne_of_gt (blk_lt (g := gb407) (o := .cells #[.int .u8 a2_0, .int .u8 a2_1, .int .u16 a2_2, .int .i64 a2_3] 32 (0, 0)) (by (with_reducible repeat (first | refine blk_drewN ?_ _ | refine blk_drew ?_ | refine blk_alloc ?_ _)); exact BK407.out)) : gb409 ≠ gb407)); have n14_ := Aside0.mk ((by rw [hg]; exact Nat.ne_of_lt (blk_lt (g := gb408) (o := .cells #[.int .u8 0, .int .u8 0, .int .u16 0, .int .i64 0] 32 (0, 0)) (by (with_reducible repeat (first | refine blk_drewN ?_ _ | refine blk_drew ?_ | refine blk_alloc ?_ _)); exact BK408.out)) : gb408 ≠ gb409)); have n15_ := Aside0.mk ((by rw [hg]; exact Nat.ne_of_gt (blk_lt (g := gb408) (o := .cells #[.int .u8 0, .int .u8 0, .int .u16 0, .int .i64 0] 32 (0, 0)) (by (with_reducible repeat (first | refine blk_drewN ?_ _ | refine blk_drew ?_ | refine blk_alloc ?_ _)); exact BK408.out)) : gb409 ≠ gb408)); clear BK405; clear BK406; clear BK407; clear BK408; clear HB; have BK405 := n0_; have BK406 := n1_; have BK407 := n2_; have BK408 := n3_; have HB := n4_; have BK409 := n5_; have GW409 := n6_; have GE409 := n7_; have NB405_409 := n8_; have NB409_405 := n9_; have NB406_409 := n10_; have NB409_406 := n11_; have NB407_409 := n12_; have NB409_407 := n13_; have NB408_409 := n14_; have NB409_408 := n15_; clear n0_ n1_ n2_ n3_ n4_ n5_ n6_ n7_ n8_ n9_ n10_ n11_ n12_ n13_ n14_ n15_; clear hb hbox hg; have hnb10 := NB409_405.out; have hnc10 := NB405_409.out; have hnb11 := NB409_406.out; have hnc11 := NB406_409.out; have hnb12 := NB409_407.out; have hnc12 := NB407_409.out; have hnb13 := NB409_408.out; have hnc13 := NB408_409.out; have hcz14_0 : w9.cell? ⟨gb409, 0, none⟩ = some (.int .u8 0) := (blk_cell BK409.out 0).trans rfl; have hcz14_1 : w9.cell? ⟨gb409, 1, none⟩ = some (.int .u8 0) := (blk_cell BK409.out 1).trans rfl; have hcz14_2 : w9.cell? ⟨gb409, 2, none⟩ = some (.int .u16 0) := (blk_cell BK409.out 2).trans rfl; have hcz14_3 : w9.cell? ⟨gb409, 3, none⟩ = some (.int .i64 0) := (blk_cell BK409.out 3).trans rfl; have hfz14_0 := blk_frozen BK409.out 0; have hfz14_1 := blk_frozen BK409.out 1; have hfz14_2 := blk_frozen BK409.out 2; have hfz14_3 := blk_frozen BK409.out 3))
  (try simp only [Act.put, List.setIfInBounds_toArray, List.set_cons_zero, List.set_cons_succ])
  go_cut [21] (fun v21 wc => ∃ (kq : Nat) (x21_3 : Bool), v21 = .bool x21_3 ∧ Aside0 (vals_Join.j0 kq x21_3 l0_0 l0_1 l0_2 l0_3 a1_0 a1_1 a1_2 a1_3 a2_0 a2_1 a2_2 a2_3 1 0 0 0 = some (r1, r2, r3, r4)) ∧ Aside0 (kq ≤ k) ∧ Aside0 (wc.heap[gb405]? = some (.cells #[(.slice A0_0 l0_0.length c0_0), (.slice A0_1 l0_1.length c0_1), (.slice A0_2 l0_2.length c0_2), (.slice A0_3 l0_3.length c0_3)] 54 (0, 0))) ∧ Aside0 (wc.heap[gb406]? = some (.cells #[.int .u8 a1_0, .int .u8 a1_1, .int .u16 a1_2, .int .i64 a1_3] 32 (0, 0))) ∧ Aside0 (wc.heap[gb407]? = some (.cells #[.int .u8 a2_0, .int .u8 a2_1, .int .u16 a2_2, .int .i64 a2_3] 32 (0, 0))) ∧ Aside0 (wc.heap[gb408]? = some (.cells #[.int .u8 0, .int .u8 0, .int .u16 0, .int .i64 0] 32 (0, 0))) ∧ Aside0 (wc.heap[gb409]? = some (.cells #[.int .u8 1, .int .u8 0, .int .u16 0, .int .i64 0] 32 (0, 0))) ∧ Aside0 (Below w.heap.size w wc))
  case first =>
    have H := HC4.out
    clear HC4
    replace H := Option.bind_eq_some_iff.mp H
    obtain ⟨t410, A150, H⟩ := H
    replace H : (if t410 = true then ((vals_May.f k l0_0 l0_1 l0_2 l0_3 a2_0 a2_1 a2_2 a2_3).bind fun t411 => (vals_Join.j0 k (!t411) l0_0 l0_1 l0_2 l0_3 a1_0 a1_1 a1_2 a1_3 a2_0 a2_1 a2_2 a2_3 1 0 0 0)) else (vals_Join.j0 k true l0_0 l0_1 l0_2 l0_3 a1_0 a1_1 a1_2 a1_3 a2_0 a2_1 a2_2 a2_3 1 0 0 0)) = some (r1, r2, r3, r4) := H
    have A15 := Aside0.mk A150
    clear A150
    by_cases c16 : t410 = true
    · subst c16
      have H1 : ((vals_May.f k l0_0 l0_1 l0_2 l0_3 a2_0 a2_1 a2_2 a2_3).bind fun t411 => (vals_Join.j0 k (!t411) l0_0 l0_1 l0_2 l0_3 a1_0 a1_1 a1_2 a1_3 a2_0 a2_1 a2_2 a2_3 1 0 0 0)) = some (r1, r2, r3, r4) := by rw [if_pos rfl] at H; exact H
      clear H
      have H := H1
      clear H1
      replace H := Option.bind_eq_some_iff.mp H
      obtain ⟨t411, A170, H⟩ := H
      replace H : (vals_Join.j0 k (!t411) l0_0 l0_1 l0_2 l0_3 a1_0 a1_1 a1_2 a1_3 a2_0 a2_1 a2_2 a2_3 1 0 0 0) = some (r1, r2, r3, r4) := H
      have A17 := Aside0.mk A170
      clear A170
      have H' := Aside0.mk H
      clear H
      have hnb18 := NB405_406.out
      have hnc18 := NB406_405.out
      have hnb19 := NB405_407.out
      have hnc19 := NB407_405.out
      have hnb20 := NB405_408.out
      have hnc20 := NB408_405.out
      have hnb21 := NB405_409.out
      have hnc21 := NB409_405.out
      have hcz22_0 : w9.cell? ⟨gb405, 0, none⟩ = some (.slice A0_0 l0_0.length c0_0) := (blk_cell BK405.out 0).trans rfl
      have hcz22_1 : w9.cell? ⟨gb405, 1, none⟩ = some (.slice A0_1 l0_1.length c0_1) := (blk_cell BK405.out 1).trans rfl
      have hcz22_2 : w9.cell? ⟨gb405, 2, none⟩ = some (.slice A0_2 l0_2.length c0_2) := (blk_cell BK405.out 2).trans rfl
      have hcz22_3 : w9.cell? ⟨gb405, 3, none⟩ = some (.slice A0_3 l0_3.length c0_3) := (blk_cell BK405.out 3).trans rfl
      have hfz22_0 := blk_frozen BK405.out 0
      have hfz22_1 := blk_frozen BK405.out 1
      have hfz22_2 := blk_frozen BK405.out 2
      have hfz22_3 := blk_frozen BK405.out 3
      have hnb23 := NB406_407.out
      have hnc23 := NB407_406.out
      have hnb24 := NB406_408.out
      have hnc24 := NB408_406.out
      have hnb25 := NB406_409.out
      have hnc25 := NB409_406.out
      have hcz26_0 : w9.cell? ⟨gb406, 0, none⟩ = some (.int .u8 a1_0) := (blk_cell BK406.out 0).trans rfl
      have hcz26_1 : w9.cell? ⟨gb406, 1, none⟩ = some (.int .u8 a1_1) := (blk_cell BK406.out 1).trans rfl
      have hcz26_2 : w9.cell? ⟨gb406, 2, none⟩ = some (.int .u16 a1_2) := (blk_cell BK406.out 2).trans rfl
      have hcz26_3 : w9.cell? ⟨gb406, 3, none⟩ = some (.int .i64 a1_3) := (blk_cell BK406.out 3).trans rfl
      have hfz26_0 := blk_frozen BK406.out 0
      have hfz26_1 := blk_frozen BK406.out 1
      have hfz26_2 := blk_frozen BK406.out 2
      have hfz26_3 := blk_frozen BK406.out 3
      go_wp2_with (first | ((with_reducible refine gate_callee (f := 25) rfl ?_); refine goesL_ (some 14) rfl rfl Try.func25 (by kernel_rfl) rfl #[.agg #[.slice A0_0 l0_0.length c0_0, .slice A0_1 l0_1.length c0_1, .slice A0_2 l0_2.length c0_2, .slice A0_3 l0_3.length c0_3], .agg #[.int .u8 a1_0, .int .u8 a1_1, .int .u16 a1_2, .int .i64 a1_3]] rfl (by (try simp only [List.map_toArray, List.map_cons, List.map_nil]); first | done | rfl | (simp only [List.length_drop, List.length_take]; rfl)) ?_; (with_reducible refine (vals_May.calls k _ _ l0_0 _ _ l0_1 _ _ l0_2 _ _ l0_3 a1_0 a1_1 a1_2 a1_3 true _ ?side1 ?side2 ?side3 ?side4 ?side5 ?side6 ?side7 ?side8 A15.out).mono ?_); (case side1 => exact Kd.C_below HR0_0.out (by repeat (first | (with_reducible first | exact HB.out | apply below_alloc | apply pw_below_drewN | apply below_drew1 | refine below_set ?_ GE405.out | refine below_set ?_ GE406.out | refine below_set ?_ GE407.out | refine below_set ?_ GE408.out | refine below_set ?_ GE409.out) | exact HB.out))); (case side2 => exact HC0_0.out); (case side3 => exact Kd.C_below HR0_1.out (by repeat (first | (with_reducible first | exact HB.out | apply below_alloc | apply pw_below_drewN | apply below_drew1 | refine below_set ?_ GE405.out | refine below_set ?_ GE406.out | refine below_set ?_ GE407.out | refine below_set ?_ GE408.out | refine below_set ?_ GE409.out) | exact HB.out))); (case side4 => exact HC0_1.out); (case side5 => exact Kd.C_below HR0_2.out (by repeat (first | (with_reducible first | exact HB.out | apply below_alloc | apply pw_below_drewN | apply below_drew1 | refine below_set ?_ GE405.out | refine below_set ?_ GE406.out | refine below_set ?_ GE407.out | refine below_set ?_ GE408.out | refine below_set ?_ GE409.out) | exact HB.out))); (case side6 => exact HC0_2.out); (case side7 => exact Kd.C_below HR0_3.out (by repeat (first | (with_reducible first | exact HB.out | apply below_alloc | apply pw_below_drewN | apply below_drew1 | refine below_set ?_ GE405.out | refine below_set ?_ GE406.out | refine below_set ?_ GE407.out | refine below_set ?_ GE408.out | refine below_set ?_ GE409.out) | exact HB.out))); (case side8 => exact HC0_3.out); rintro e w27 ⟨rfl, hb⟩; refine ⟨_, rfl, ?_⟩; have n0_ := Aside0.mk (blk_below (g := gb405) (o := .cells #[.slice A0_0 l0_0.length c0_0, .slice A0_1 l0_1.length c0_1, .slice A0_2 l0_2.length c0_2, .slice A0_3 l0_3.length c0_3] 54 (0, 0)) (by (with_reducible repeat (first | refine blk_drewN ?_ _ | refine blk_drew ?_ | refine blk_alloc ?_ _)); refine blk_far ?_ NB405_409.out _; (with_reducible repeat (first | refine blk_drewN ?_ _ | refine blk_drew ?_ | refine blk_alloc ?_ _)); refine blk_far ?_ NB405_409.out _; (with_reducible repeat (first | refine blk_drewN ?_ _ | refine blk_drew ?_ | refine blk_alloc ?_ _)); refine blk_far ?_ NB405_409.out _; (with_reducible repeat (first | refine blk_drewN ?_ _ | refine blk_drew ?_ | refine blk_alloc ?_ _)); refine blk_far ?_ NB405_409.out _; (with_reducible repeat (first | refine blk_drewN ?_ _ | refine blk_drew ?_ | refine blk_alloc ?_ _)); exact BK405.out) hb); have n1_ := Aside0.mk (blk_below (g := gb406) (o := .cells #[.int .u8 a1_0, .int .u8 a1_1, .int .u16 a1_2, .int .i64 a1_3] 32 (0, 0)) (by (with_reducible repeat (first | refine blk_drewN ?_ _ | refine blk_drew ?_ | refine blk_alloc ?_ _)); refine blk_far ?_ NB406_409.out _; (with_reducible repeat (first | refine blk_drewN ?_ _ | refine blk_drew ?_ | refine blk_alloc ?_ _)); refine blk_far ?_ NB406_409.out _; (with_reducible repeat (first | refine blk_drewN ?_ _ | refine blk_drew ?_ | refine blk_alloc ?_ _)); refine blk_far ?_ NB406_409.out _; (with_reducible repeat (first | refine blk_drewN ?_ _ | refine blk_drew ?_ | refine blk_alloc ?_ _)); refine blk_far ?_ NB406_409.out _; (with_reducible repeat (first | refine blk_drewN ?_ _ | refine blk_drew ?_ | refine blk_alloc ?_ _)); exact BK406.out) hb); have n2_ := Aside0.mk (blk_below (g := gb407) (o := .cells #[.int .u8 a2_0, .int .u8 a2_1, .int .u16 a2_2, .int .i64 a2_3] 32 (0, 0)) (by (with_reducible repeat (first | refine blk_drewN ?_ _ | refine blk_drew ?_ | refine blk_alloc ?_ _)); refine blk_far ?_ NB407_409.out _; (with_reducible repeat (first | refine blk_drewN ?_ _ | refine blk_drew ?_ | refine blk_alloc ?_ _)); refine blk_far ?_ NB407_409.out _; (with_reducible repeat (first | refine blk_drewN ?_ _ | refine blk_drew ?_ | refine blk_alloc ?_ _)); refine blk_far ?_ NB407_409.out _; (with_reducible repeat (first | refine blk_drewN ?_ _ | refine blk_drew ?_ | refine blk_alloc ?_ _)); refine blk_far ?_ NB407_409.out _; (with_reducible repeat (first | refine blk_drewN ?_ _ | refine blk_drew ?_ | refine blk_alloc ?_ _)); exact BK407.out) hb); have n3_ := Aside0.mk (blk_below (g := gb408) (o := .cells #[.int .u8 0, .int .u8 0, .int .u16 0, .int .i64 0] 32 (0, 0)) (by (with_reducible repeat (first | refine blk_drewN ?_ _ | refine blk_drew ?_ | refine blk_alloc ?_ _)); refine blk_far ?_ NB408_409.out _; (with_reducible repeat (first | refine blk_drewN ?_ _ | refine blk_drew ?_ | refine blk_alloc ?_ _)); refine blk_far ?_ NB408_409.out _; (with_reducible repeat (first | refine blk_drewN ?_ _ | refine blk_drew ?_ | refine blk_alloc ?_ _)); refine blk_far ?_ NB408_409.out _; (with_reducible repeat (first | refine blk_drewN ?_ _ | refine blk_drew ?_ | refine blk_alloc ?_ _)); refine blk_far ?_ NB408_409.out _; (with_reducible repeat (first | refine blk_drewN ?_ _ | refine blk_drew ?_ | refine blk_alloc ?_ _)); exact BK408.out) hb); have n4_ := Aside0.mk (blk_below (g := gb409) (o := .cells #[.int .u8 1, .int .u8 0, .int .u16 0, .int .i64 0] 32 (0, 0)) (by (with_reducible repeat (first | refine blk_drewN ?_ _ | refine blk_drew ?_ | refine blk_alloc ?_ _)); refine blk_put (cs := #[.int .u8 1, .int .u8 0, .int .u16 0, .int .i64 0]) ?_ 3 _ rfl; (with_reducible repeat (first | refine blk_drewN ?_ _ | refine blk_drew ?_ | refine blk_alloc ?_ _)); refine blk_put (cs := #[.int .u8 1, .int .u8 0, .int .u16 0, .int .i64 0]) ?_ 2 _ rfl; (with_reducible repeat (first | refine blk_drewN ?_ _ | refine blk_drew ?_ | refine blk_alloc ?_ _)); refine blk_put (cs := #[.int .u8 1, .int .u8 0, .int .u16 0, .int .i64 0]) ?_ 1 _ rfl; (with_reducible repeat (first | refine blk_drewN ?_ _ | refine blk_drew ?_ | refine blk_alloc ?_ _)); refine blk_put (cs := #[.int .u8 0, .int .u8 0, .int .u16 0, .int .i64 0]) ?_ 0 _ rfl; (with_reducible repeat (first | refine blk_drewN ?_ _ | refine blk_drew ?_ | refine blk_alloc ?_ _)); exact BK409.out) hb); have n5_ := Aside0.mk (below_step (by repeat (first | (with_reducible first | exact HB.out | apply below_alloc | apply pw_below_drewN | apply below_drew1 | refine below_set ?_ GE405.out | refine below_set ?_ GE406.out | refine below_set ?_ GE407.out | refine below_set ?_ GE408.out | refine below_set ?_ GE409.out) | exact HB.out)) hb); clear BK405; clear BK406; clear BK407; clear BK408; clear BK409; clear HB; have BK405 := n0_; have BK406 := n1_; have BK407 := n2_; have BK408 := n3_; have BK409 := n4_; have HB := n5_; clear n0_ n1_ n2_ n3_ n4_ n5_; (try clear hb); (try clear hb2); (try clear hk); (try clear hi); have hcz28_0 : w27.cell? ⟨gb405, 0, none⟩ = some (.slice A0_0 l0_0.length c0_0) := (blk_cell BK405.out 0).trans rfl; have hcz28_1 : w27.cell? ⟨gb405, 1, none⟩ = some (.slice A0_1 l0_1.length c0_1) := (blk_cell BK405.out 1).trans rfl; have hcz28_2 : w27.cell? ⟨gb405, 2, none⟩ = some (.slice A0_2 l0_2.length c0_2) := (blk_cell BK405.out 2).trans rfl; have hcz28_3 : w27.cell? ⟨gb405, 3, none⟩ = some (.slice A0_3 l0_3.length c0_3) := (blk_cell BK405.out 3).trans rfl; have hfz28_0 := blk_frozen BK405.out 0; have hfz28_1 := blk_frozen BK405.out 1; have hfz28_2 := blk_frozen BK405.out 2; have hfz28_3 := blk_frozen BK405.out 3; have hnb29 := NB407_408.out; have hnc29 := NB408_407.out; have hnb30 := NB407_409.out; have hnc30 := NB409_407.out; have hcz31_0 : w27.cell? ⟨gb407, 0, none⟩ = some (.int .u8 a2_0) := (blk_cell BK407.out 0).trans rfl; have hcz31_1 : w27.cell? ⟨gb407, 1, none⟩ = some (.int .u8 a2_1) := (blk_cell BK407.out 1).trans rfl; have hcz31_2 : w27.cell? ⟨gb407, 2, none⟩ = some (.int .u16 a2_2) := (blk_cell BK407.out 2).trans rfl; have hcz31_3 : w27.cell? ⟨gb407, 3, none⟩ = some (.int .i64 a2_3) := (blk_cell BK407.out 3).trans rfl; have hfz31_0 := blk_frozen BK407.out 0; have hfz31_1 := blk_frozen BK407.out 1; have hfz31_2 := blk_frozen BK407.out 2; have hfz31_3 := blk_frozen BK407.out 3) | (go_at_call 25; (with_reducible refine (vals_May.calls k _ _ l0_0 _ _ l0_1 _ _ l0_2 _ _ l0_3 a2_0 a2_1 a2_2 a2_3 t411 _ ?side1 ?side2 ?side3 ?side4 ?side5 ?side6 ?side7 ?side8 A17.out).mono ?_); (case side1 => repeat (first | exact (Kd.C_below HR0_0.out HB.out) | (with_reducible refine Kd.C_alloc ?_ _) | (with_reducible refine Kd.C_drewN ?_ _) | (with_reducible refine Kd.C_drew ?_))); (case side2 => exact HC0_0.out); (case side3 => repeat (first | exact (Kd.C_below HR0_1.out HB.out) | (with_reducible refine Kd.C_alloc ?_ _) | (with_reducible refine Kd.C_drewN ?_ _) | (with_reducible refine Kd.C_drew ?_))); (case side4 => exact HC0_1.out); (case side5 => repeat (first | exact (Kd.C_below HR0_2.out HB.out) | (with_reducible refine Kd.C_alloc ?_ _) | (with_reducible refine Kd.C_drewN ?_ _) | (with_reducible refine Kd.C_drew ?_))); (case side6 => exact HC0_2.out); (case side7 => repeat (first | exact (Kd.C_below HR0_3.out HB.out) | (with_reducible refine Kd.C_alloc ?_ _) | (with_reducible refine Kd.C_drewN ?_ _) | (with_reducible refine Kd.C_drew ?_))); (case side8 => exact HC0_3.out); rintro e w32 ⟨rfl, hb⟩; have n0_ := Aside0.mk (blk_below (g := gb405) (o := .cells #[.slice A0_0 l0_0.length c0_0, .slice A0_1 l0_1.length c0_1, .slice A0_2 l0_2.length c0_2, .slice A0_3 l0_3.length c0_3] 54 (0, 0)) (by (with_reducible repeat (first | refine blk_drewN ?_ _ | refine blk_drew ?_ | refine blk_alloc ?_ _)); exact BK405.out) hb); have n1_ := Aside0.mk (blk_below (g := gb406) (o := .cells #[.int .u8 a1_0, .int .u8 a1_1, .int .u16 a1_2, .int .i64 a1_3] 32 (0, 0)) (by (with_reducible repeat (first | refine blk_drewN ?_ _ | refine blk_drew ?_ | refine blk_alloc ?_ _)); exact BK406.out) hb); have n2_ := Aside0.mk (blk_below (g := gb407) (o := .cells #[.int .u8 a2_0, .int .u8 a2_1, .int .u16 a2_2, .int .i64 a2_3] 32 (0, 0)) (by (with_reducible repeat (first | refine blk_drewN ?_ _ | refine blk_drew ?_ | refine blk_alloc ?_ _)); exact BK407.out) hb); have n3_ := Aside0.mk (blk_below (g := gb408) (o := .cells #[.int .u8 0, .int .u8 0, .int .u16 0, .int .i64 0] 32 (0, 0)) (by (with_reducible repeat (first | refine blk_drewN ?_ _ | refine blk_drew ?_ | refine blk_alloc ?_ _)); exact BK408.out) hb); have n4_ := Aside0.mk (blk_below (g := gb409) (o := .cells #[.int .u8 1, .int .u8 0, .int .u16 0, .int .i64 0] 32 (0, 0)) (by (with_reducible repeat (first | refine blk_drewN ?_ _ | refine blk_drew ?_ | refine blk_alloc ?_ _)); exact BK409.out) hb); have n5_ := Aside0.mk (below_step (by repeat (first | (with_reducible first | exact HB.out | apply below_alloc | apply pw_below_drewN | apply below_drew1 | refine below_set ?_ GE405.out | refine below_set ?_ GE406.out | refine below_set ?_ GE407.out | refine below_set ?_ GE408.out | refine below_set ?_ GE409.out) | exact HB.out)) hb); clear BK405; clear BK406; clear BK407; clear BK408; clear BK409; clear HB; have BK405 := n0_; have BK406 := n1_; have BK407 := n2_; have BK408 := n3_; have BK409 := n4_; have HB := n5_; clear n0_ n1_ n2_ n3_ n4_ n5_; (try clear hb); (try clear hb2); (try clear hk); (try clear hi)))
      go_meet
      case rel => exact ⟨_, (!t411), (by first | rfl | (simp; done) | (simp [*]; done)), H', ⟨by first | omega | exact Nat.le_refl _⟩, ⟨by (with_reducible repeat (first | refine blk_drewN ?_ _ | refine blk_drew ?_ | refine blk_alloc ?_ _)); exact BK405.out⟩, ⟨by (with_reducible repeat (first | refine blk_drewN ?_ _ | refine blk_drew ?_ | refine blk_alloc ?_ _)); exact BK406.out⟩, ⟨by (with_reducible repeat (first | refine blk_drewN ?_ _ | refine blk_drew ?_ | refine blk_alloc ?_ _)); exact BK407.out⟩, ⟨by (with_reducible repeat (first | refine blk_drewN ?_ _ | refine blk_drew ?_ | refine blk_alloc ?_ _)); exact BK408.out⟩, ⟨by (with_reducible repeat (first | refine blk_drewN ?_ _ | refine blk_drew ?_ | refine blk_alloc ?_ _)); exact BK409.out⟩, ⟨by repeat (first | (with_reducible first | exact HB.out | apply below_alloc | apply pw_below_drewN | apply below_drew1 | refine below_set ?_ GE405.out | refine below_set ?_ GE406.out | refine below_set ?_ GE407.out | refine below_set ?_ GE408.out | refine below_set ?_ GE409.out) | exact HB.out)⟩⟩
    · replace c16 := Bool.eq_false_iff.mpr c16
      subst c16
      have H1 : (vals_Join.j0 k true l0_0 l0_1 l0_2 l0_3 a1_0 a1_1 a1_2 a1_3 a2_0 a2_1 a2_2 a2_3 1 0 0 0) = some (r1, r2, r3, r4) := by rw [if_neg (show ¬ (false = true) by decide)] at H; exact H
      clear H
      have H := H1
      clear H1
      have H' := Aside0.mk H
      clear H
      have hnb33 := NB405_406.out
      have hnc33 := NB406_405.out
      have hnb34 := NB405_407.out
      have hnc34 := NB407_405.out
      have hnb35 := NB405_408.out
      have hnc35 := NB408_405.out
      have hnb36 := NB405_409.out
      have hnc36 := NB409_405.out
      have hcz37_0 : w9.cell? ⟨gb405, 0, none⟩ = some (.slice A0_0 l0_0.length c0_0) := (blk_cell BK405.out 0).trans rfl
      have hcz37_1 : w9.cell? ⟨gb405, 1, none⟩ = some (.slice A0_1 l0_1.length c0_1) := (blk_cell BK405.out 1).trans rfl
      have hcz37_2 : w9.cell? ⟨gb405, 2, none⟩ = some (.slice A0_2 l0_2.length c0_2) := (blk_cell BK405.out 2).trans rfl
      have hcz37_3 : w9.cell? ⟨gb405, 3, none⟩ = some (.slice A0_3 l0_3.length c0_3) := (blk_cell BK405.out 3).trans rfl
      have hfz37_0 := blk_frozen BK405.out 0
      have hfz37_1 := blk_frozen BK405.out 1
      have hfz37_2 := blk_frozen BK405.out 2
      have hfz37_3 := blk_frozen BK405.out 3
      have hnb38 := NB406_407.out
      have hnc38 := NB407_406.out
      have hnb39 := NB406_408.out
      have hnc39 := NB408_406.out
      have hnb40 := NB406_409.out
      have hnc40 := NB409_406.out
      have hcz41_0 : w9.cell? ⟨gb406, 0, none⟩ = some (.int .u8 a1_0) := (blk_cell BK406.out 0).trans rfl
      have hcz41_1 : w9.cell? ⟨gb406, 1, none⟩ = some (.int .u8 a1_1) := (blk_cell BK406.out 1).trans rfl
      have hcz41_2 : w9.cell? ⟨gb406, 2, none⟩ = some (.int .u16 a1_2) := (blk_cell BK406.out 2).trans rfl
      have hcz41_3 : w9.cell? ⟨gb406, 3, none⟩ = some (.int .i64 a1_3) := (blk_cell BK406.out 3).trans rfl
      have hfz41_0 := blk_frozen BK406.out 0
      have hfz41_1 := blk_frozen BK406.out 1
      have hfz41_2 := blk_frozen BK406.out 2
      have hfz41_3 := blk_frozen BK406.out 3
      go_wp2_with (first | ((with_reducible refine gate_callee (f := 25) rfl ?_); refine goesL_ (some 14) rfl rfl Try.func25 (by kernel_rfl) rfl #[.agg #[.slice A0_0 l0_0.length c0_0, .slice A0_1 l0_1.length c0_1, .slice A0_2 l0_2.length c0_2, .slice A0_3 l0_3.length c0_3], .agg #[.int .u8 a1_0, .int .u8 a1_1, .int .u16 a1_2, .int .i64 a1_3]] rfl (by (try simp only [List.map_toArray, List.map_cons, List.map_nil]); first | done | rfl | (simp only [List.length_drop, List.length_take]; rfl)) ?_; (with_reducible refine (vals_May.calls k _ _ l0_0 _ _ l0_1 _ _ l0_2 _ _ l0_3 a1_0 a1_1 a1_2 a1_3 false _ ?side1 ?side2 ?side3 ?side4 ?side5 ?side6 ?side7 ?side8 A15.out).mono ?_); (case side1 => exact Kd.C_below HR0_0.out (by repeat (first | (with_reducible first | exact HB.out | apply below_alloc | apply pw_below_drewN | apply below_drew1 | refine below_set ?_ GE405.out | refine below_set ?_ GE406.out | refine below_set ?_ GE407.out | refine below_set ?_ GE408.out | refine below_set ?_ GE409.out) | exact HB.out))); (case side2 => exact HC0_0.out); (case side3 => exact Kd.C_below HR0_1.out (by repeat (first | (with_reducible first | exact HB.out | apply below_alloc | apply pw_below_drewN | apply below_drew1 | refine below_set ?_ GE405.out | refine below_set ?_ GE406.out | refine below_set ?_ GE407.out | refine below_set ?_ GE408.out | refine below_set ?_ GE409.out) | exact HB.out))); (case side4 => exact HC0_1.out); (case side5 => exact Kd.C_below HR0_2.out (by repeat (first | (with_reducible first | exact HB.out | apply below_alloc | apply pw_below_drewN | apply below_drew1 | refine below_set ?_ GE405.out | refine below_set ?_ GE406.out | refine below_set ?_ GE407.out | refine below_set ?_ GE408.out | refine below_set ?_ GE409.out) | exact HB.out))); (case side6 => exact HC0_2.out); (case side7 => exact Kd.C_below HR0_3.out (by repeat (first | (with_reducible first | exact HB.out | apply below_alloc | apply pw_below_drewN | apply below_drew1 | refine below_set ?_ GE405.out | refine below_set ?_ GE406.out | refine below_set ?_ GE407.out | refine below_set ?_ GE408.out | refine below_set ?_ GE409.out) | exact HB.out))); (case side8 => exact HC0_3.out); rintro e w42 ⟨rfl, hb⟩; refine ⟨_, rfl, ?_⟩; have n0_ := Aside0.mk (blk_below (g := gb405) (o := .cells #[.slice A0_0 l0_0.length c0_0, .slice A0_1 l0_1.length c0_1, .slice A0_2 l0_2.length c0_2, .slice A0_3 l0_3.length c0_3] 54 (0, 0)) (by (with_reducible repeat (first | refine blk_drewN ?_ _ | refine blk_drew ?_ | refine blk_alloc ?_ _)); refine blk_far ?_ NB405_409.out _; (with_reducible repeat (first | refine blk_drewN ?_ _ | refine blk_drew ?_ | refine blk_alloc ?_ _)); refine blk_far ?_ NB405_409.out _; (with_reducible repeat (first | refine blk_drewN ?_ _ | refine blk_drew ?_ | refine blk_alloc ?_ _)); refine blk_far ?_ NB405_409.out _; (with_reducible repeat (first | refine blk_drewN ?_ _ | refine blk_drew ?_ | refine blk_alloc ?_ _)); refine blk_far ?_ NB405_409.out _; (with_reducible repeat (first | refine blk_drewN ?_ _ | refine blk_drew ?_ | refine blk_alloc ?_ _)); exact BK405.out) hb); have n1_ := Aside0.mk (blk_below (g := gb406) (o := .cells #[.int .u8 a1_0, .int .u8 a1_1, .int .u16 a1_2, .int .i64 a1_3] 32 (0, 0)) (by (with_reducible repeat (first | refine blk_drewN ?_ _ | refine blk_drew ?_ | refine blk_alloc ?_ _)); refine blk_far ?_ NB406_409.out _; (with_reducible repeat (first | refine blk_drewN ?_ _ | refine blk_drew ?_ | refine blk_alloc ?_ _)); refine blk_far ?_ NB406_409.out _; (with_reducible repeat (first | refine blk_drewN ?_ _ | refine blk_drew ?_ | refine blk_alloc ?_ _)); refine blk_far ?_ NB406_409.out _; (with_reducible repeat (first | refine blk_drewN ?_ _ | refine blk_drew ?_ | refine blk_alloc ?_ _)); refine blk_far ?_ NB406_409.out _; (with_reducible repeat (first | refine blk_drewN ?_ _ | refine blk_drew ?_ | refine blk_alloc ?_ _)); exact BK406.out) hb); have n2_ := Aside0.mk (blk_below (g := gb407) (o := .cells #[.int .u8 a2_0, .int .u8 a2_1, .int .u16 a2_2, .int .i64 a2_3] 32 (0, 0)) (by (with_reducible repeat (first | refine blk_drewN ?_ _ | refine blk_drew ?_ | refine blk_alloc ?_ _)); refine blk_far ?_ NB407_409.out _; (with_reducible repeat (first | refine blk_drewN ?_ _ | refine blk_drew ?_ | refine blk_alloc ?_ _)); refine blk_far ?_ NB407_409.out _; (with_reducible repeat (first | refine blk_drewN ?_ _ | refine blk_drew ?_ | refine blk_alloc ?_ _)); refine blk_far ?_ NB407_409.out _; (with_reducible repeat (first | refine blk_drewN ?_ _ | refine blk_drew ?_ | refine blk_alloc ?_ _)); refine blk_far ?_ NB407_409.out _; (with_reducible repeat (first | refine blk_drewN ?_ _ | refine blk_drew ?_ | refine blk_alloc ?_ _)); exact BK407.out) hb); have n3_ := Aside0.mk (blk_below (g := gb408) (o := .cells #[.int .u8 0, .int .u8 0, .int .u16 0, .int .i64 0] 32 (0, 0)) (by (with_reducible repeat (first | refine blk_drewN ?_ _ | refine blk_drew ?_ | refine blk_alloc ?_ _)); refine blk_far ?_ NB408_409.out _; (with_reducible repeat (first | refine blk_drewN ?_ _ | refine blk_drew ?_ | refine blk_alloc ?_ _)); refine blk_far ?_ NB408_409.out _; (with_reducible repeat (first | refine blk_drewN ?_ _ | refine blk_drew ?_ | refine blk_alloc ?_ _)); refine blk_far ?_ NB408_409.out _; (with_reducible repeat (first | refine blk_drewN ?_ _ | refine blk_drew ?_ | refine blk_alloc ?_ _)); refine blk_far ?_ NB408_409.out _; (with_reducible repeat (first | refine blk_drewN ?_ _ | refine blk_drew ?_ | refine blk_alloc ?_ _)); exact BK408.out) hb); have n4_ := Aside0.mk (blk_below (g := gb409) (o := .cells #[.int .u8 1, .int .u8 0, .int .u16 0, .int .i64 0] 32 (0, 0)) (by (with_reducible repeat (first | refine blk_drewN ?_ _ | refine blk_drew ?_ | refine blk_alloc ?_ _)); refine blk_put (cs := #[.int .u8 1, .int .u8 0, .int .u16 0, .int .i64 0]) ?_ 3 _ rfl; (with_reducible repeat (first | refine blk_drewN ?_ _ | refine blk_drew ?_ | refine blk_alloc ?_ _)); refine blk_put (cs := #[.int .u8 1, .int .u8 0, .int .u16 0, .int .i64 0]) ?_ 2 _ rfl; (with_reducible repeat (first | refine blk_drewN ?_ _ | refine blk_drew ?_ | refine blk_alloc ?_ _)); refine blk_put (cs := #[.int .u8 1, .int .u8 0, .int .u16 0, .int .i64 0]) ?_ 1 _ rfl; (with_reducible repeat (first | refine blk_drewN ?_ _ | refine blk_drew ?_ | refine blk_alloc ?_ _)); refine blk_put (cs := #[.int .u8 0, .int .u8 0, .int .u16 0, .int .i64 0]) ?_ 0 _ rfl; (with_reducible repeat (first | refine blk_drewN ?_ _ | refine blk_drew ?_ | refine blk_alloc ?_ _)); exact BK409.out) hb); have n5_ := Aside0.mk (below_step (by repeat (first | (with_reducible first | exact HB.out | apply below_alloc | apply pw_below_drewN | apply below_drew1 | refine below_set ?_ GE405.out | refine below_set ?_ GE406.out | refine below_set ?_ GE407.out | refine below_set ?_ GE408.out | refine below_set ?_ GE409.out) | exact HB.out)) hb); clear BK405; clear BK406; clear BK407; clear BK408; clear BK409; clear HB; have BK405 := n0_; have BK406 := n1_; have BK407 := n2_; have BK408 := n3_; have BK409 := n4_; have HB := n5_; clear n0_ n1_ n2_ n3_ n4_ n5_; (try clear hb); (try clear hb2); (try clear hk); (try clear hi)))
      go_meet
      case rel => exact ⟨_, (true), (by first | rfl | (simp; done) | (simp [*]; done)), H', ⟨by first | omega | exact Nat.le_refl _⟩, ⟨by (with_reducible repeat (first | refine blk_drewN ?_ _ | refine blk_drew ?_ | refine blk_alloc ?_ _)); exact BK405.out⟩, ⟨by (with_reducible repeat (first | refine blk_drewN ?_ _ | refine blk_drew ?_ | refine blk_alloc ?_ _)); exact BK406.out⟩, ⟨by (with_reducible repeat (first | refine blk_drewN ?_ _ | refine blk_drew ?_ | refine blk_alloc ?_ _)); exact BK407.out⟩, ⟨by (with_reducible repeat (first | refine blk_drewN ?_ _ | refine blk_drew ?_ | refine blk_alloc ?_ _)); exact BK408.out⟩, ⟨by (with_reducible repeat (first | refine blk_drewN ?_ _ | refine blk_drew ?_ | refine blk_alloc ?_ _)); exact BK409.out⟩, ⟨by repeat (first | (with_reducible first | exact HB.out | apply below_alloc | apply pw_below_drewN | apply below_drew1 | refine below_set ?_ GE405.out | refine below_set ?_ GE406.out | refine below_set ?_ GE407.out | refine below_set ?_ GE408.out | refine below_set ?_ GE409.out) | exact HB.out)⟩⟩
  case rest =>
    clear HC4
    try clear c1
    try clear c2
    try clear p2
    try clear c3
    try clear c4
    try clear c10
    try clear c11
    try clear c12
    try clear c13
    try clear c16
    try clear c18
    try clear c19
    try clear c20
    try clear c21
    try clear c22
    try clear c23
    try clear c24
    try clear c25
    try clear c29
    try clear c30
    try clear c33
    try clear c34
    try clear c35
    try clear c36
    try clear c38
    try clear c39
    try clear c40
    try clear hcz14_0
    try clear hcz14_1
    try clear hcz14_2
    try clear hcz14_3
    try clear hcz22_0
    try clear hcz22_1
    try clear hcz22_2
    try clear hcz22_3
    try clear hcz26_0
    try clear hcz26_1
    try clear hcz26_2
    try clear hcz26_3
    try clear hcz28_0
    try clear hcz28_1
    try clear hcz28_2
    try clear hcz28_3
    try clear hcz31_0
    try clear hcz31_1
    try clear hcz31_2
    try clear hcz31_3
    try clear hcz37_0
    try clear hcz37_1
    try clear hcz37_2
    try clear hcz37_3
    try clear hcz41_0
    try clear hcz41_1
    try clear hcz41_2
    try clear hcz41_3
    try clear hfz14_0
    try clear hfz14_1
    try clear hfz14_2
    try clear hfz14_3
    try clear hfz22_0
    try clear hfz22_1
    try clear hfz22_2
    try clear hfz22_3
    try clear hfz26_0
    try clear hfz26_1
    try clear hfz26_2
    try clear hfz26_3
    try clear hfz28_0
    try clear hfz28_1
    try clear hfz28_2
    try clear hfz28_3
    try clear hfz31_0
    try clear hfz31_1
    try clear hfz31_2
    try clear hfz31_3
    try clear hfz37_0
    try clear hfz37_1
    try clear hfz37_2
    try clear hfz37_3
    try clear hfz41_0
    try clear hfz41_1
    try clear hfz41_2
    try clear hfz41_3
    obtain ⟨kq, x21_3, rfl, HA, HJ3, BK405, BK406, BK407, BK408, BK409, HB⟩ := hcut
    cases kq with
    | zero => exact absurd HA.out (by simp [vals_Join.j0])
    | succ kj3 =>
      have H := HA.out
      clear HA
      simp only [vals_Join.j0] at H
      by_cases c43 : x21_3 = true
      · subst c43
        have H1 : (some (1, 0, 0, 0)) = some (r1, r2, r3, r4) := by rw [if_pos rfl] at H; exact H
        clear H
        have H := H1
        clear H1
        simp only [Option.some.injEq, Prod.mk.injEq] at H
        obtain ⟨rfl, rfl, rfl, rfl⟩ := H
        have hnb44 := NB409_405.out
        have hnc44 := NB405_409.out
        have hnb45 := NB409_406.out
        have hnc45 := NB406_409.out
        have hnb46 := NB409_407.out
        have hnc46 := NB407_409.out
        have hnb47 := NB409_408.out
        have hnc47 := NB408_409.out
        have hcz48_0 : wc.cell? ⟨gb409, 0, none⟩ = some (.int .u8 1) := (blk_cell BK409.out 0).trans rfl
        have hcz48_1 : wc.cell? ⟨gb409, 1, none⟩ = some (.int .u8 0) := (blk_cell BK409.out 1).trans rfl
        have hcz48_2 : wc.cell? ⟨gb409, 2, none⟩ = some (.int .u16 0) := (blk_cell BK409.out 2).trans rfl
        have hcz48_3 : wc.cell? ⟨gb409, 3, none⟩ = some (.int .i64 0) := (blk_cell BK409.out 3).trans rfl
        have hfz48_0 := blk_frozen BK409.out 0
        have hfz48_1 := blk_frozen BK409.out 1
        have hfz48_2 := blk_frozen BK409.out 2
        have hfz48_3 := blk_frozen BK409.out 3
        have hnb49 := NB408_405.out
        have hnc49 := NB405_408.out
        have hnb50 := NB408_406.out
        have hnc50 := NB406_408.out
        have hnb51 := NB408_407.out
        have hnc51 := NB407_408.out
        have hcz52_0 : wc.cell? ⟨gb408, 0, none⟩ = some (.int .u8 0) := (blk_cell BK408.out 0).trans rfl
        have hcz52_1 : wc.cell? ⟨gb408, 1, none⟩ = some (.int .u8 0) := (blk_cell BK408.out 1).trans rfl
        have hcz52_2 : wc.cell? ⟨gb408, 2, none⟩ = some (.int .u16 0) := (blk_cell BK408.out 2).trans rfl
        have hcz52_3 : wc.cell? ⟨gb408, 3, none⟩ = some (.int .i64 0) := (blk_cell BK408.out 3).trans rfl
        have hfz52_0 := blk_frozen BK408.out 0
        have hfz52_1 := blk_frozen BK408.out 1
        have hfz52_2 := blk_frozen BK408.out 2
        have hfz52_3 := blk_frozen BK408.out 3
        go_wp2
        refine bodyPost_ret (results_cell_row rfl _ _ gb408 32 #[.int .u8 1, .int .u8 0, .int .u16 0, .int .i64 0] (0, 0) _ rfl (by (with_reducible repeat (first | refine blk_drewN ?_ _ | refine blk_drew ?_ | refine blk_alloc ?_ _)); refine blk_put (cs := #[.int .u8 1, .int .u8 0, .int .u16 0, .int .i64 0]) ?_ 3 _ rfl; (with_reducible repeat (first | refine blk_drewN ?_ _ | refine blk_drew ?_ | refine blk_alloc ?_ _)); refine blk_put (cs := #[.int .u8 1, .int .u8 0, .int .u16 0, .int .i64 0]) ?_ 2 _ rfl; (with_reducible repeat (first | refine blk_drewN ?_ _ | refine blk_drew ?_ | refine blk_alloc ?_ _)); refine blk_put (cs := #[.int .u8 1, .int .u8 0, .int .u16 0, .int .i64 0]) ?_ 1 _ rfl; (with_reducible repeat (first | refine blk_drewN ?_ _ | refine blk_drew ?_ | refine blk_alloc ?_ _)); refine blk_put (cs := #[.int .u8 0, .int .u8 0, .int .u16 0, .int .i64 0]) ?_ 0 _ rfl; (with_reducible repeat (first | refine blk_drewN ?_ _ | refine blk_drew ?_ | refine blk_alloc ?_ _)); exact BK408.out) Try.underlying32 rfl (by kernel_rfl)) rfl ?_
        exact ⟨by first | rfl | (simp [errW_none, errW_some] <;> rfl) | (simp [*, errW_none, errW_some] <;> rfl), by repeat (first | (with_reducible first | exact HB.out | apply below_alloc | apply pw_below_drewN | apply below_drew1 | refine below_set ?_ GE405.out | refine below_set ?_ GE406.out | refine below_set ?_ GE407.out | refine below_set ?_ GE408.out | refine below_set ?_ GE409.out) | exact HB.out)⟩
      · replace c43 := Bool.eq_false_iff.mpr c43
        subst c43
        have H1 : (if (a1_0 == a2_0 && ((a1_1 == a2_1 && (a1_2 == a2_2)) && (a1_3 == a2_3))) = true then (some (a1_0, a1_1, a1_2, a1_3)) else (if a1_0 = 3 then (vals_Join.j1 kj3 (a2_0 == 4) l0_0 l0_1 l0_2 l0_3 a1_0 a1_1 a1_2 a1_3 a2_0 a2_1 a2_2 a2_3 1 0 0 0) else (vals_Join.j1 kj3 false l0_0 l0_1 l0_2 l0_3 a1_0 a1_1 a1_2 a1_3 a2_0 a2_1 a2_2 a2_3 1 0 0 0))) = some (r1, r2, r3, r4) := by rw [if_neg (show ¬ (false = true) by decide)] at H; exact H
        clear H
        have H := H1
        clear H1
        by_cases c53 : (a1_0 == a2_0 && ((a1_1 == a2_1 && (a1_2 == a2_2)) && (a1_3 == a2_3))) = true
        · rw [if_pos c53] at H
          have c53b0 : (a1_0 == a2_0 && ((a1_1 == a2_1 && (a1_2 == a2_2)) && (a1_3 == a2_3))) = true := c53
          (try (have c53b1 : decide (a1_0 = a2_0 && ((a1_1 == a2_1 && (a1_2 == a2_2)) && (a1_3 == a2_3))) = true := by simpa using c53))
          (try (have c53b2 : (a1_0 == a2_0 && ((a1_1 == a2_1 && (a1_2 == a2_2)) && (a1_3 == a2_3))) = true := by simpa using c53))
          clear c53
          simp only [Option.some.injEq, Prod.mk.injEq] at H
          obtain ⟨rfl, rfl, rfl, rfl⟩ := H
          have hnb54 := NB406_405.out
          have hnc54 := NB405_406.out
          have hnb55 := NB406_407.out
          have hnc55 := NB407_406.out
          have hnb56 := NB406_408.out
          have hnc56 := NB408_406.out
          have hnb57 := NB406_409.out
          have hnc57 := NB409_406.out
          have hcz58_0 : wc.cell? ⟨gb406, 0, none⟩ = some (.int .u8 a1_0) := (blk_cell BK406.out 0).trans rfl
          have hcz58_1 : wc.cell? ⟨gb406, 1, none⟩ = some (.int .u8 a1_1) := (blk_cell BK406.out 1).trans rfl
          have hcz58_2 : wc.cell? ⟨gb406, 2, none⟩ = some (.int .u16 a1_2) := (blk_cell BK406.out 2).trans rfl
          have hcz58_3 : wc.cell? ⟨gb406, 3, none⟩ = some (.int .i64 a1_3) := (blk_cell BK406.out 3).trans rfl
          have hfz58_0 := blk_frozen BK406.out 0
          have hfz58_1 := blk_frozen BK406.out 1
          have hfz58_2 := blk_frozen BK406.out 2
          have hfz58_3 := blk_frozen BK406.out 3
          have hnb59 := NB407_405.out
          have hnc59 := NB405_407.out
          have hnb60 := NB407_408.out
          have hnc60 := NB408_407.out
          have hnb61 := NB407_409.out
          have hnc61 := NB409_407.out
          have hcz62_0 : wc.cell? ⟨gb407, 0, none⟩ = some (.int .u8 a2_0) := (blk_cell BK407.out 0).trans rfl
          have hcz62_1 : wc.cell? ⟨gb407, 1, none⟩ = some (.int .u8 a2_1) := (blk_cell BK407.out 1).trans rfl
          have hcz62_2 : wc.cell? ⟨gb407, 2, none⟩ = some (.int .u16 a2_2) := (blk_cell BK407.out 2).trans rfl
          have hcz62_3 : wc.cell? ⟨gb407, 3, none⟩ = some (.int .i64 a2_3) := (blk_cell BK407.out 3).trans rfl
          have hfz62_0 := blk_frozen BK407.out 0
          have hfz62_1 := blk_frozen BK407.out 1
          have hfz62_2 := blk_frozen BK407.out 2
          have hfz62_3 := blk_frozen BK407.out 3
          have hnb63 := NB408_405.out
          have hnc63 := NB405_408.out
          have hnb64 := NB408_409.out
          have hnc64 := NB409_408.out
          have hcz65_0 : wc.cell? ⟨gb408, 0, none⟩ = some (.int .u8 0) := (blk_cell BK408.out 0).trans rfl
          have hcz65_1 : wc.cell? ⟨gb408, 1, none⟩ = some (.int .u8 0) := (blk_cell BK408.out 1).trans rfl
          have hcz65_2 : wc.cell? ⟨gb408, 2, none⟩ = some (.int .u16 0) := (blk_cell BK408.out 2).trans rfl
          have hcz65_3 : wc.cell? ⟨gb408, 3, none⟩ = some (.int .i64 0) := (blk_cell BK408.out 3).trans rfl
          have hfz65_0 := blk_frozen BK408.out 0
          have hfz65_1 := blk_frozen BK408.out 1
          have hfz65_2 := blk_frozen BK408.out 2
          have hfz65_3 := blk_frozen BK408.out 3
          go_wp2
          refine bodyPost_ret (results_cell_row rfl _ _ gb408 32 #[.int .u8 a1_0, .int .u8 a1_1, .int .u16 a1_2, .int .i64 a1_3] (0, 0) _ rfl (by (with_reducible repeat (first | refine blk_drewN ?_ _ | refine blk_drew ?_ | refine blk_alloc ?_ _)); refine blk_put (cs := #[.int .u8 a1_0, .int .u8 a1_1, .int .u16 a1_2, .int .i64 0]) ?_ 3 _ rfl; (with_reducible repeat (first | refine blk_drewN ?_ _ | refine blk_drew ?_ | refine blk_alloc ?_ _)); refine blk_put (cs := #[.int .u8 a1_0, .int .u8 a1_1, .int .u16 0, .int .i64 0]) ?_ 2 _ rfl; (with_reducible repeat (first | refine blk_drewN ?_ _ | refine blk_drew ?_ | refine blk_alloc ?_ _)); refine blk_put (cs := #[.int .u8 a1_0, .int .u8 0, .int .u16 0, .int .i64 0]) ?_ 1 _ rfl; (with_reducible repeat (first | refine blk_drewN ?_ _ | refine blk_drew ?_ | refine blk_alloc ?_ _)); refine blk_put (cs := #[.int .u8 0, .int .u8 0, .int .u16 0, .int .i64 0]) ?_ 0 _ rfl; (with_reducible repeat (first | refine blk_drewN ?_ _ | refine blk_drew ?_ | refine blk_alloc ?_ _)); exact BK408.out) Try.underlying32 rfl (by kernel_rfl)) rfl ?_
          exact ⟨by first | rfl | (simp [errW_none, errW_some] <;> rfl) | (simp [*, errW_none, errW_some] <;> rfl), by repeat (first | (with_reducible first | exact HB.out | apply below_alloc | apply pw_below_drewN | apply below_drew1 | refine below_set ?_ GE405.out | refine below_set ?_ GE406.out | refine below_set ?_ GE407.out | refine below_set ?_ GE408.out | refine below_set ?_ GE409.out) | exact HB.out)⟩
        · rw [if_neg c53] at H
          have c53b0 : (a1_0 == a2_0 && ((a1_1 == a2_1 && (a1_2 == a2_2)) && (a1_3 == a2_3))) = false := by simpa using c53
          (try (have c53b1 : decide (a1_0 = a2_0 && ((a1_1 == a2_1 && (a1_2 == a2_2)) && (a1_3 == a2_3))) = false := by simpa using c53))
          (try (have c53b2 : (a1_0 == a2_0 && ((a1_1 == a2_1 && (a1_2 == a2_2)) && (a1_3 == a2_3))) = false := by simpa using c53))
          (try (have c53b3 : ¬ (a1_0 = a2_0 && ((a1_1 == a2_1 && (a1_2 == a2_2)) && (a1_3 == a2_3))) := by simpa using c53))
          clear c53
          have HC66 := Aside0.mk H
          clear H
          have hnb67 := NB406_405.out
          have hnc67 := NB405_406.out
          have hnb68 := NB406_407.out
          have hnc68 := NB407_406.out
          have hnb69 := NB406_408.out
          have hnc69 := NB408_406.out
          have hnb70 := NB406_409.out
          have hnc70 := NB409_406.out
          have hcz71_0 : wc.cell? ⟨gb406, 0, none⟩ = some (.int .u8 a1_0) := (blk_cell BK406.out 0).trans rfl
          have hcz71_1 : wc.cell? ⟨gb406, 1, none⟩ = some (.int .u8 a1_1) := (blk_cell BK406.out 1).trans rfl
          have hcz71_2 : wc.cell? ⟨gb406, 2, none⟩ = some (.int .u16 a1_2) := (blk_cell BK406.out 2).trans rfl
          have hcz71_3 : wc.cell? ⟨gb406, 3, none⟩ = some (.int .i64 a1_3) := (blk_cell BK406.out 3).trans rfl
          have hfz71_0 := blk_frozen BK406.out 0
          have hfz71_1 := blk_frozen BK406.out 1
          have hfz71_2 := blk_frozen BK406.out 2
          have hfz71_3 := blk_frozen BK406.out 3
          have hnb72 := NB407_405.out
          have hnc72 := NB405_407.out
          have hnb73 := NB407_408.out
          have hnc73 := NB408_407.out
          have hnb74 := NB407_409.out
          have hnc74 := NB409_407.out
          have hcz75_0 : wc.cell? ⟨gb407, 0, none⟩ = some (.int .u8 a2_0) := (blk_cell BK407.out 0).trans rfl
          have hcz75_1 : wc.cell? ⟨gb407, 1, none⟩ = some (.int .u8 a2_1) := (blk_cell BK407.out 1).trans rfl
          have hcz75_2 : wc.cell? ⟨gb407, 2, none⟩ = some (.int .u16 a2_2) := (blk_cell BK407.out 2).trans rfl
          have hcz75_3 : wc.cell? ⟨gb407, 3, none⟩ = some (.int .i64 a2_3) := (blk_cell BK407.out 3).trans rfl
          have hfz75_0 := blk_frozen BK407.out 0
          have hfz75_1 := blk_frozen BK407.out 1
          have hfz75_2 := blk_frozen BK407.out 2
          have hfz75_3 := blk_frozen BK407.out 3
          go_upto_region 6 with (fail)
          go_cut [28] (fun v28 wc => ∃ (kq : Nat) (x28_65 : Bool), v28 = .bool x28_65 ∧ Aside0 (vals_Join.j1 kq x28_65 l0_0 l0_1 l0_2 l0_3 a1_0 a1_1 a1_2 a1_3 a2_0 a2_1 a2_2 a2_3 1 0 0 0 = some (r1, r2, r3, r4)) ∧ Aside0 (kq ≤ kj3) ∧ Aside0 (wc.heap[gb405]? = some (.cells #[(.slice A0_0 l0_0.length c0_0), (.slice A0_1 l0_1.length c0_1), (.slice A0_2 l0_2.length c0_2), (.slice A0_3 l0_3.length c0_3)] 54 (0, 0))) ∧ Aside0 (wc.heap[gb406]? = some (.cells #[.int .u8 a1_0, .int .u8 a1_1, .int .u16 a1_2, .int .i64 a1_3] 32 (0, 0))) ∧ Aside0 (wc.heap[gb407]? = some (.cells #[.int .u8 a2_0, .int .u8 a2_1, .int .u16 a2_2, .int .i64 a2_3] 32 (0, 0))) ∧ Aside0 (wc.heap[gb408]? = some (.cells #[.int .u8 0, .int .u8 0, .int .u16 0, .int .i64 0] 32 (0, 0))) ∧ Aside0 (wc.heap[gb409]? = some (.cells #[.int .u8 1, .int .u8 0, .int .u16 0, .int .i64 0] 32 (0, 0))) ∧ Aside0 (Below w.heap.size w wc))
          case first =>
            have H := HC66.out
            clear HC66
            by_cases c76 : a1_0 = 3
            · rw [if_pos c76] at H
              have c76b0 : (a1_0 == 3) = true := beq_iff_eq.mpr c76
              have c76b1 : (a1_0 != 3) = false := bne_eq_false_iff_eq.mpr c76
              clear c76
              (first | rw [c76b0] | (simp only [i64_w, i32_w]; rw [c76b0]) | skip)
              have H' := Aside0.mk H
              clear H
              have hnb77 := NB406_405.out
              have hnc77 := NB405_406.out
              have hnb78 := NB406_407.out
              have hnc78 := NB407_406.out
              have hnb79 := NB406_408.out
              have hnc79 := NB408_406.out
              have hnb80 := NB406_409.out
              have hnc80 := NB409_406.out
              have hcz81_0 : wc.cell? ⟨gb406, 0, none⟩ = some (.int .u8 a1_0) := (blk_cell BK406.out 0).trans rfl
              have hcz81_1 : wc.cell? ⟨gb406, 1, none⟩ = some (.int .u8 a1_1) := (blk_cell BK406.out 1).trans rfl
              have hcz81_2 : wc.cell? ⟨gb406, 2, none⟩ = some (.int .u16 a1_2) := (blk_cell BK406.out 2).trans rfl
              have hcz81_3 : wc.cell? ⟨gb406, 3, none⟩ = some (.int .i64 a1_3) := (blk_cell BK406.out 3).trans rfl
              have hfz81_0 := blk_frozen BK406.out 0
              have hfz81_1 := blk_frozen BK406.out 1
              have hfz81_2 := blk_frozen BK406.out 2
              have hfz81_3 := blk_frozen BK406.out 3
              have hnb82 := NB407_405.out
              have hnc82 := NB405_407.out
              have hnb83 := NB407_408.out
              have hnc83 := NB408_407.out
              have hnb84 := NB407_409.out
              have hnc84 := NB409_407.out
              have hcz85_0 : wc.cell? ⟨gb407, 0, none⟩ = some (.int .u8 a2_0) := (blk_cell BK407.out 0).trans rfl
              have hcz85_1 : wc.cell? ⟨gb407, 1, none⟩ = some (.int .u8 a2_1) := (blk_cell BK407.out 1).trans rfl
              have hcz85_2 : wc.cell? ⟨gb407, 2, none⟩ = some (.int .u16 a2_2) := (blk_cell BK407.out 2).trans rfl
              have hcz85_3 : wc.cell? ⟨gb407, 3, none⟩ = some (.int .i64 a2_3) := (blk_cell BK407.out 3).trans rfl
              have hfz85_0 := blk_frozen BK407.out 0
              have hfz85_1 := blk_frozen BK407.out 1
              have hfz85_2 := blk_frozen BK407.out 2
              have hfz85_3 := blk_frozen BK407.out 3
              go_wp2
              go_meet
              case rel => exact ⟨_, ((a2_0 == 4)), (by first | rfl | (simp; done) | (simp [*]; done)), H', ⟨by have := HJ3.out; first | omega | exact Nat.le_refl _⟩, ⟨by (with_reducible repeat (first | refine blk_drewN ?_ _ | refine blk_drew ?_ | refine blk_alloc ?_ _)); exact BK405.out⟩, ⟨by (with_reducible repeat (first | refine blk_drewN ?_ _ | refine blk_drew ?_ | refine blk_alloc ?_ _)); exact BK406.out⟩, ⟨by (with_reducible repeat (first | refine blk_drewN ?_ _ | refine blk_drew ?_ | refine blk_alloc ?_ _)); exact BK407.out⟩, ⟨by (with_reducible repeat (first | refine blk_drewN ?_ _ | refine blk_drew ?_ | refine blk_alloc ?_ _)); exact BK408.out⟩, ⟨by (with_reducible repeat (first | refine blk_drewN ?_ _ | refine blk_drew ?_ | refine blk_alloc ?_ _)); exact BK409.out⟩, ⟨by repeat (first | (with_reducible first | exact HB.out | apply below_alloc | apply pw_below_drewN | apply below_drew1 | refine below_set ?_ GE405.out | refine below_set ?_ GE406.out | refine below_set ?_ GE407.out | refine below_set ?_ GE408.out | refine below_set ?_ GE409.out) | exact HB.out)⟩⟩
            · rw [if_neg c76] at H
              have c76b0 : (a1_0 == 3) = false := beq_eq_false_iff_ne.mpr c76
              have c76b1 : (a1_0 != 3) = true := bne_iff_ne.mpr c76
              (first | rw [c76b0] | (simp only [i64_w, i32_w]; rw [c76b0]) | skip)
              have H' := Aside0.mk H
              clear H
              have hnb86 := NB406_405.out
              have hnc86 := NB405_406.out
              have hnb87 := NB406_407.out
              have hnc87 := NB407_406.out
              have hnb88 := NB406_408.out
              have hnc88 := NB408_406.out
              have hnb89 := NB406_409.out
              have hnc89 := NB409_406.out
              have hcz90_0 : wc.cell? ⟨gb406, 0, none⟩ = some (.int .u8 a1_0) := (blk_cell BK406.out 0).trans rfl
              have hcz90_1 : wc.cell? ⟨gb406, 1, none⟩ = some (.int .u8 a1_1) := (blk_cell BK406.out 1).trans rfl
              have hcz90_2 : wc.cell? ⟨gb406, 2, none⟩ = some (.int .u16 a1_2) := (blk_cell BK406.out 2).trans rfl
              have hcz90_3 : wc.cell? ⟨gb406, 3, none⟩ = some (.int .i64 a1_3) := (blk_cell BK406.out 3).trans rfl
              have hfz90_0 := blk_frozen BK406.out 0
              have hfz90_1 := blk_frozen BK406.out 1
              have hfz90_2 := blk_frozen BK406.out 2
              have hfz90_3 := blk_frozen BK406.out 3
              go_wp2
              go_meet
              case rel => exact ⟨_, (false), (by first | rfl | (simp; done) | (simp [*]; done)), H', ⟨by have := HJ3.out; first | omega | exact Nat.le_refl _⟩, ⟨by (with_reducible repeat (first | refine blk_drewN ?_ _ | refine blk_drew ?_ | refine blk_alloc ?_ _)); exact BK405.out⟩, ⟨by (with_reducible repeat (first | refine blk_drewN ?_ _ | refine blk_drew ?_ | refine blk_alloc ?_ _)); exact BK406.out⟩, ⟨by (with_reducible repeat (first | refine blk_drewN ?_ _ | refine blk_drew ?_ | refine blk_alloc ?_ _)); exact BK407.out⟩, ⟨by (with_reducible repeat (first | refine blk_drewN ?_ _ | refine blk_drew ?_ | refine blk_alloc ?_ _)); exact BK408.out⟩, ⟨by (with_reducible repeat (first | refine blk_drewN ?_ _ | refine blk_drew ?_ | refine blk_alloc ?_ _)); exact BK409.out⟩, ⟨by repeat (first | (with_reducible first | exact HB.out | apply below_alloc | apply pw_below_drewN | apply below_drew1 | refine below_set ?_ GE405.out | refine below_set ?_ GE406.out | refine below_set ?_ GE407.out | refine below_set ?_ GE408.out | refine below_set ?_ GE409.out) | exact HB.out)⟩⟩
          case rest =>
            clear HC66
            try clear c1
            try clear c2
            try clear p2
            try clear c3
            try clear c4
            try clear c5
            try clear c6
            try clear c7
            try clear c8
            try clear c10
            try clear c11
            try clear c12
            try clear c13
            try clear c16
            try clear c18
            try clear c19
            try clear c20
            try clear c21
            try clear c22
            try clear c23
            try clear c24
            try clear c25
            try clear c29
            try clear c30
            try clear c33
            try clear c34
            try clear c35
            try clear c36
            try clear c38
            try clear c39
            try clear c40
            try clear c43
            try clear c44
            try clear c45
            try clear c46
            try clear c47
            try clear c49
            try clear c50
            try clear c51
            try clear c53
            try clear c53b0
            try clear c53b1
            try clear c53b2
            try clear c54
            try clear c55
            try clear c56
            try clear c57
            try clear c59
            try clear c60
            try clear c61
            try clear c63
            try clear c64
            try clear c67
            try clear c68
            try clear c69
            try clear c70
            try clear c72
            try clear c73
            try clear c74
            try clear c76
            try clear c76b0
            try clear c76b1
            try clear c77
            try clear c78
            try clear c79
            try clear c80
            try clear c82
            try clear c83
            try clear c84
            try clear c86
            try clear c87
            try clear c88
            try clear c89
            try clear hcz14_0
            try clear hcz14_1
            try clear hcz14_2
            try clear hcz14_3
            try clear hcz22_0
            try clear hcz22_1
            try clear hcz22_2
            try clear hcz22_3
            try clear hcz26_0
            try clear hcz26_1
            try clear hcz26_2
            try clear hcz26_3
            try clear hcz28_0
            try clear hcz28_1
            try clear hcz28_2
            try clear hcz28_3
            try clear hcz31_0
            try clear hcz31_1
            try clear hcz31_2
            try clear hcz31_3
            try clear hcz37_0
            try clear hcz37_1
            try clear hcz37_2
            try clear hcz37_3
            try clear hcz41_0
            try clear hcz41_1
            try clear hcz41_2
            try clear hcz41_3
            try clear hcz48_0
            try clear hcz48_1
            try clear hcz48_2
            try clear hcz48_3
            try clear hcz52_0
            try clear hcz52_1
            try clear hcz52_2
            try clear hcz52_3
            try clear hcz58_0
            try clear hcz58_1
            try clear hcz58_2
            try clear hcz58_3
            try clear hcz62_0
            try clear hcz62_1
            try clear hcz62_2
            try clear hcz62_3
            try clear hcz65_0
            try clear hcz65_1
            try clear hcz65_2
            try clear hcz65_3
            try clear hcz71_0
            try clear hcz71_1
            try clear hcz71_2
            try clear hcz71_3
            try clear hcz75_0
            try clear hcz75_1
            try clear hcz75_2
            try clear hcz75_3
            try clear hcz81_0
            try clear hcz81_1
            try clear hcz81_2
            try clear hcz81_3
            try clear hcz85_0
            try clear hcz85_1
            try clear hcz85_2
            try clear hcz85_3
            try clear hcz90_0
            try clear hcz90_1
            try clear hcz90_2
            try clear hcz90_3
            try clear hfz14_0
            try clear hfz14_1
            try clear hfz14_2
            try clear hfz14_3
            try clear hfz22_0
            try clear hfz22_1
            try clear hfz22_2
            try clear hfz22_3
            try clear hfz26_0
            try clear hfz26_1
            try clear hfz26_2
            try clear hfz26_3
            try clear hfz28_0
            try clear hfz28_1
            try clear hfz28_2
            try clear hfz28_3
            try clear hfz31_0
            try clear hfz31_1
            try clear hfz31_2
            try clear hfz31_3
            try clear hfz37_0
            try clear hfz37_1
            try clear hfz37_2
            try clear hfz37_3
            try clear hfz41_0
            try clear hfz41_1
            try clear hfz41_2
            try clear hfz41_3
            try clear hfz48_0
            try clear hfz48_1
            try clear hfz48_2
            try clear hfz48_3
            try clear hfz52_0
            try clear hfz52_1
            try clear hfz52_2
            try clear hfz52_3
            try clear hfz58_0
            try clear hfz58_1
            try clear hfz58_2
            try clear hfz58_3
            try clear hfz62_0
            try clear hfz62_1
            try clear hfz62_2
            try clear hfz62_3
            try clear hfz65_0
            try clear hfz65_1
            try clear hfz65_2
            try clear hfz65_3
            try clear hfz71_0
            try clear hfz71_1
            try clear hfz71_2
            try clear hfz71_3
            try clear hfz75_0
            try clear hfz75_1
            try clear hfz75_2
            try clear hfz75_3
            try clear hfz81_0
            try clear hfz81_1
            try clear hfz81_2
            try clear hfz81_3
            try clear hfz85_0
            try clear hfz85_1
            try clear hfz85_2
            try clear hfz85_3
            try clear hfz90_0
            try clear hfz90_1
            try clear hfz90_2
            try clear hfz90_3
            try clear p2
            obtain ⟨kq, x28_65, rfl, HA, HJ65, BK405, BK406, BK407, BK408, BK409, HB⟩ := hcut
            cases kq with
            | zero => exact absurd HA.out (by simp [vals_Join.j1])
            | succ kj65 =>
              have H := HA.out
              clear HA
              simp only [vals_Join.j1] at H
              by_cases c91 : x28_65 = true
              · subst c91
                have H1 : (some (a2_0, a2_1, a2_2, a2_3)) = some (r1, r2, r3, r4) := by rw [if_pos rfl] at H; exact H
                clear H
                have H := H1
                clear H1
                simp only [Option.some.injEq, Prod.mk.injEq] at H
                obtain ⟨rfl, rfl, rfl, rfl⟩ := H
                have hnb92 := NB407_405.out
                have hnc92 := NB405_407.out
                have hnb93 := NB407_406.out
                have hnc93 := NB406_407.out
                have hnb94 := NB407_408.out
                have hnc94 := NB408_407.out
                have hnb95 := NB407_409.out
                have hnc95 := NB409_407.out
                have hcz96_0 : wc.cell? ⟨gb407, 0, none⟩ = some (.int .u8 a2_0) := (blk_cell BK407.out 0).trans rfl
                have hcz96_1 : wc.cell? ⟨gb407, 1, none⟩ = some (.int .u8 a2_1) := (blk_cell BK407.out 1).trans rfl
                have hcz96_2 : wc.cell? ⟨gb407, 2, none⟩ = some (.int .u16 a2_2) := (blk_cell BK407.out 2).trans rfl
                have hcz96_3 : wc.cell? ⟨gb407, 3, none⟩ = some (.int .i64 a2_3) := (blk_cell BK407.out 3).trans rfl
                have hfz96_0 := blk_frozen BK407.out 0
                have hfz96_1 := blk_frozen BK407.out 1
                have hfz96_2 := blk_frozen BK407.out 2
                have hfz96_3 := blk_frozen BK407.out 3
                have hnb97 := NB408_405.out
                have hnc97 := NB405_408.out
                have hnb98 := NB408_406.out
                have hnc98 := NB406_408.out
                have hnb99 := NB408_409.out
                have hnc99 := NB409_408.out
                have hcz100_0 : wc.cell? ⟨gb408, 0, none⟩ = some (.int .u8 0) := (blk_cell BK408.out 0).trans rfl
                have hcz100_1 : wc.cell? ⟨gb408, 1, none⟩ = some (.int .u8 0) := (blk_cell BK408.out 1).trans rfl
                have hcz100_2 : wc.cell? ⟨gb408, 2, none⟩ = some (.int .u16 0) := (blk_cell BK408.out 2).trans rfl
                have hcz100_3 : wc.cell? ⟨gb408, 3, none⟩ = some (.int .i64 0) := (blk_cell BK408.out 3).trans rfl
                have hfz100_0 := blk_frozen BK408.out 0
                have hfz100_1 := blk_frozen BK408.out 1
                have hfz100_2 := blk_frozen BK408.out 2
                have hfz100_3 := blk_frozen BK408.out 3
                go_wp2
                refine bodyPost_ret (results_cell_row rfl _ _ gb408 32 #[.int .u8 a2_0, .int .u8 a2_1, .int .u16 a2_2, .int .i64 a2_3] (0, 0) _ rfl (by (with_reducible repeat (first | refine blk_drewN ?_ _ | refine blk_drew ?_ | refine blk_alloc ?_ _)); refine blk_put (cs := #[.int .u8 a2_0, .int .u8 a2_1, .int .u16 a2_2, .int .i64 0]) ?_ 3 _ rfl; (with_reducible repeat (first | refine blk_drewN ?_ _ | refine blk_drew ?_ | refine blk_alloc ?_ _)); refine blk_put (cs := #[.int .u8 a2_0, .int .u8 a2_1, .int .u16 0, .int .i64 0]) ?_ 2 _ rfl; (with_reducible repeat (first | refine blk_drewN ?_ _ | refine blk_drew ?_ | refine blk_alloc ?_ _)); refine blk_put (cs := #[.int .u8 a2_0, .int .u8 0, .int .u16 0, .int .i64 0]) ?_ 1 _ rfl; (with_reducible repeat (first | refine blk_drewN ?_ _ | refine blk_drew ?_ | refine blk_alloc ?_ _)); refine blk_put (cs := #[.int .u8 0, .int .u8 0, .int .u16 0, .int .i64 0]) ?_ 0 _ rfl; (with_reducible repeat (first | refine blk_drewN ?_ _ | refine blk_drew ?_ | refine blk_alloc ?_ _)); exact BK408.out) Try.underlying32 rfl (by kernel_rfl)) rfl ?_
                exact ⟨by first | rfl | (simp [errW_none, errW_some] <;> rfl) | (simp [*, errW_none, errW_some] <;> rfl), by repeat (first | (with_reducible first | exact HB.out | apply below_alloc | apply pw_below_drewN | apply below_drew1 | refine below_set ?_ GE405.out | refine below_set ?_ GE406.out | refine below_set ?_ GE407.out | refine below_set ?_ GE408.out | refine below_set ?_ GE409.out) | exact HB.out)⟩
              · replace c91 := Bool.eq_false_iff.mpr c91
                subst c91
                have H1 : (if a1_0 = 4 then (vals_Join.j2 kj65 (a2_0 == 3) l0_0 l0_1 l0_2 l0_3 a1_0 a1_1 a1_2 a1_3 a2_0 a2_1 a2_2 a2_3 1 0 0 0) else (vals_Join.j2 kj65 false l0_0 l0_1 l0_2 l0_3 a1_0 a1_1 a1_2 a1_3 a2_0 a2_1 a2_2 a2_3 1 0 0 0)) = some (r1, r2, r3, r4) := by rw [if_neg (show ¬ (false = true) by decide)] at H; exact H
                clear H
                have H := H1
                clear H1
                have HC101 := Aside0.mk H
                clear H
                go_upto_region 8 with (fail)
                go_cut [38] (fun v38 wc => ∃ (kq : Nat) (x38_100 : Bool), v38 = .bool x38_100 ∧ Aside0 (vals_Join.j2 kq x38_100 l0_0 l0_1 l0_2 l0_3 a1_0 a1_1 a1_2 a1_3 a2_0 a2_1 a2_2 a2_3 1 0 0 0 = some (r1, r2, r3, r4)) ∧ Aside0 (kq ≤ kj65) ∧ Aside0 (wc.heap[gb405]? = some (.cells #[(.slice A0_0 l0_0.length c0_0), (.slice A0_1 l0_1.length c0_1), (.slice A0_2 l0_2.length c0_2), (.slice A0_3 l0_3.length c0_3)] 54 (0, 0))) ∧ Aside0 (wc.heap[gb406]? = some (.cells #[.int .u8 a1_0, .int .u8 a1_1, .int .u16 a1_2, .int .i64 a1_3] 32 (0, 0))) ∧ Aside0 (wc.heap[gb407]? = some (.cells #[.int .u8 a2_0, .int .u8 a2_1, .int .u16 a2_2, .int .i64 a2_3] 32 (0, 0))) ∧ Aside0 (wc.heap[gb408]? = some (.cells #[.int .u8 0, .int .u8 0, .int .u16 0, .int .i64 0] 32 (0, 0))) ∧ Aside0 (wc.heap[gb409]? = some (.cells #[.int .u8 1, .int .u8 0, .int .u16 0, .int .i64 0] 32 (0, 0))) ∧ Aside0 (Below w.heap.size w wc))
                case first =>
                  have H := HC101.out
                  clear HC101
                  by_cases c102 : a1_0 = 4
                  · rw [if_pos c102] at H
                    have c102b0 : (a1_0 == 4) = true := beq_iff_eq.mpr c102
                    have c102b1 : (a1_0 != 4) = false := bne_eq_false_iff_eq.mpr c102
                    clear c102
                    (first | rw [c102b0] | (simp only [i64_w, i32_w]; rw [c102b0]) | skip)
                    have H' := Aside0.mk H
                    clear H
                    have hnb103 := NB406_405.out
                    have hnc103 := NB405_406.out
                    have hnb104 := NB406_407.out
                    have hnc104 := NB407_406.out
                    have hnb105 := NB406_408.out
                    have hnc105 := NB408_406.out
                    have hnb106 := NB406_409.out
                    have hnc106 := NB409_406.out
                    have hcz107_0 : wc.cell? ⟨gb406, 0, none⟩ = some (.int .u8 a1_0) := (blk_cell BK406.out 0).trans rfl
                    have hcz107_1 : wc.cell? ⟨gb406, 1, none⟩ = some (.int .u8 a1_1) := (blk_cell BK406.out 1).trans rfl
                    have hcz107_2 : wc.cell? ⟨gb406, 2, none⟩ = some (.int .u16 a1_2) := (blk_cell BK406.out 2).trans rfl
                    have hcz107_3 : wc.cell? ⟨gb406, 3, none⟩ = some (.int .i64 a1_3) := (blk_cell BK406.out 3).trans rfl
                    have hfz107_0 := blk_frozen BK406.out 0
                    have hfz107_1 := blk_frozen BK406.out 1
                    have hfz107_2 := blk_frozen BK406.out 2
                    have hfz107_3 := blk_frozen BK406.out 3
                    have hnb108 := NB407_405.out
                    have hnc108 := NB405_407.out
                    have hnb109 := NB407_408.out
                    have hnc109 := NB408_407.out
                    have hnb110 := NB407_409.out
                    have hnc110 := NB409_407.out
                    have hcz111_0 : wc.cell? ⟨gb407, 0, none⟩ = some (.int .u8 a2_0) := (blk_cell BK407.out 0).trans rfl
                    have hcz111_1 : wc.cell? ⟨gb407, 1, none⟩ = some (.int .u8 a2_1) := (blk_cell BK407.out 1).trans rfl
                    have hcz111_2 : wc.cell? ⟨gb407, 2, none⟩ = some (.int .u16 a2_2) := (blk_cell BK407.out 2).trans rfl
                    have hcz111_3 : wc.cell? ⟨gb407, 3, none⟩ = some (.int .i64 a2_3) := (blk_cell BK407.out 3).trans rfl
                    have hfz111_0 := blk_frozen BK407.out 0
                    have hfz111_1 := blk_frozen BK407.out 1
                    have hfz111_2 := blk_frozen BK407.out 2
                    have hfz111_3 := blk_frozen BK407.out 3
                    go_wp2
                    go_meet
                    case rel => exact ⟨_, ((a2_0 == 3)), (by first | rfl | (simp; done) | (simp [*]; done)), H', ⟨by have := HJ3.out; have := HJ65.out; first | omega | exact Nat.le_refl _⟩, ⟨by (with_reducible repeat (first | refine blk_drewN ?_ _ | refine blk_drew ?_ | refine blk_alloc ?_ _)); exact BK405.out⟩, ⟨by (with_reducible repeat (first | refine blk_drewN ?_ _ | refine blk_drew ?_ | refine blk_alloc ?_ _)); exact BK406.out⟩, ⟨by (with_reducible repeat (first | refine blk_drewN ?_ _ | refine blk_drew ?_ | refine blk_alloc ?_ _)); exact BK407.out⟩, ⟨by (with_reducible repeat (first | refine blk_drewN ?_ _ | refine blk_drew ?_ | refine blk_alloc ?_ _)); exact BK408.out⟩, ⟨by (with_reducible repeat (first | refine blk_drewN ?_ _ | refine blk_drew ?_ | refine blk_alloc ?_ _)); exact BK409.out⟩, ⟨by repeat (first | (with_reducible first | exact HB.out | apply below_alloc | apply pw_below_drewN | apply below_drew1 | refine below_set ?_ GE405.out | refine below_set ?_ GE406.out | refine below_set ?_ GE407.out | refine below_set ?_ GE408.out | refine below_set ?_ GE409.out) | exact HB.out)⟩⟩
                  · rw [if_neg c102] at H
                    have c102b0 : (a1_0 == 4) = false := beq_eq_false_iff_ne.mpr c102
                    have c102b1 : (a1_0 != 4) = true := bne_iff_ne.mpr c102
                    (first | rw [c102b0] | (simp only [i64_w, i32_w]; rw [c102b0]) | skip)
                    have H' := Aside0.mk H
                    clear H
                    have hnb112 := NB406_405.out
                    have hnc112 := NB405_406.out
                    have hnb113 := NB406_407.out
                    have hnc113 := NB407_406.out
                    have hnb114 := NB406_408.out
                    have hnc114 := NB408_406.out
                    have hnb115 := NB406_409.out
                    have hnc115 := NB409_406.out
                    have hcz116_0 : wc.cell? ⟨gb406, 0, none⟩ = some (.int .u8 a1_0) := (blk_cell BK406.out 0).trans rfl
                    have hcz116_1 : wc.cell? ⟨gb406, 1, none⟩ = some (.int .u8 a1_1) := (blk_cell BK406.out 1).trans rfl
                    have hcz116_2 : wc.cell? ⟨gb406, 2, none⟩ = some (.int .u16 a1_2) := (blk_cell BK406.out 2).trans rfl
                    have hcz116_3 : wc.cell? ⟨gb406, 3, none⟩ = some (.int .i64 a1_3) := (blk_cell BK406.out 3).trans rfl
                    have hfz116_0 := blk_frozen BK406.out 0
                    have hfz116_1 := blk_frozen BK406.out 1
                    have hfz116_2 := blk_frozen BK406.out 2
                    have hfz116_3 := blk_frozen BK406.out 3
                    go_wp2
                    go_meet
                    case rel => exact ⟨_, (false), (by first | rfl | (simp; done) | (simp [*]; done)), H', ⟨by have := HJ3.out; have := HJ65.out; first | omega | exact Nat.le_refl _⟩, ⟨by (with_reducible repeat (first | refine blk_drewN ?_ _ | refine blk_drew ?_ | refine blk_alloc ?_ _)); exact BK405.out⟩, ⟨by (with_reducible repeat (first | refine blk_drewN ?_ _ | refine blk_drew ?_ | refine blk_alloc ?_ _)); exact BK406.out⟩, ⟨by (with_reducible repeat (first | refine blk_drewN ?_ _ | refine blk_drew ?_ | refine blk_alloc ?_ _)); exact BK407.out⟩, ⟨by (with_reducible repeat (first | refine blk_drewN ?_ _ | refine blk_drew ?_ | refine blk_alloc ?_ _)); exact BK408.out⟩, ⟨by (with_reducible repeat (first | refine blk_drewN ?_ _ | refine blk_drew ?_ | refine blk_alloc ?_ _)); exact BK409.out⟩, ⟨by repeat (first | (with_reducible first | exact HB.out | apply below_alloc | apply pw_below_drewN | apply below_drew1 | refine below_set ?_ GE405.out | refine below_set ?_ GE406.out | refine below_set ?_ GE407.out | refine below_set ?_ GE408.out | refine below_set ?_ GE409.out) | exact HB.out)⟩⟩
                case rest =>
                  clear HC101
                  try clear c1
                  try clear c2
                  try clear p2
                  try clear c3
                  try clear c4
                  try clear c5
                  try clear c6
                  try clear c7
                  try clear c8
                  try clear c9
                  try clear c10
                  try clear c11
                  try clear c12
                  try clear c13
                  try clear c16
                  try clear c18
                  try clear c19
                  try clear c20
                  try clear c21
                  try clear c22
                  try clear c23
                  try clear c24
                  try clear c25
                  try clear c29
                  try clear c30
                  try clear c33
                  try clear c34
                  try clear c35
                  try clear c36
                  try clear c38
                  try clear c39
                  try clear c40
                  try clear c43
                  try clear c44
                  try clear c45
                  try clear c46
                  try clear c47
                  try clear c49
                  try clear c50
                  try clear c51
                  try clear c53
                  try clear c53b0
                  try clear c53b1
                  try clear c53b2
                  try clear c54
                  try clear c55
                  try clear c56
                  try clear c57
                  try clear c59
                  try clear c60
                  try clear c61
                  try clear c63
                  try clear c64
                  try clear c67
                  try clear c68
                  try clear c69
                  try clear c70
                  try clear c72
                  try clear c73
                  try clear c74
                  try clear c76
                  try clear c76b0
                  try clear c76b1
                  try clear c77
                  try clear c78
                  try clear c79
                  try clear c80
                  try clear c82
                  try clear c83
                  try clear c84
                  try clear c86
                  try clear c87
                  try clear c88
                  try clear c89
                  try clear c91
                  try clear c92
                  try clear c93
                  try clear c94
                  try clear c95
                  try clear c97
                  try clear c98
                  try clear c99
                  try clear c102
                  try clear c102b0
                  try clear c102b1
                  try clear c103
                  try clear c104
                  try clear c105
                  try clear c106
                  try clear c108
                  try clear c109
                  try clear c110
                  try clear c112
                  try clear c113
                  try clear c114
                  try clear c115
                  try clear hcz100_0
                  try clear hcz100_1
                  try clear hcz100_2
                  try clear hcz100_3
                  try clear hcz107_0
                  try clear hcz107_1
                  try clear hcz107_2
                  try clear hcz107_3
                  try clear hcz111_0
                  try clear hcz111_1
                  try clear hcz111_2
                  try clear hcz111_3
                  try clear hcz116_0
                  try clear hcz116_1
                  try clear hcz116_2
                  try clear hcz116_3
                  try clear hcz14_0
                  try clear hcz14_1
                  try clear hcz14_2
                  try clear hcz14_3
                  try clear hcz22_0
                  try clear hcz22_1
                  try clear hcz22_2
                  try clear hcz22_3
                  try clear hcz26_0
                  try clear hcz26_1
                  try clear hcz26_2
                  try clear hcz26_3
                  try clear hcz28_0
                  try clear hcz28_1
                  try clear hcz28_2
                  try clear hcz28_3
                  try clear hcz31_0
                  try clear hcz31_1
                  try clear hcz31_2
                  try clear hcz31_3
                  try clear hcz37_0
                  try clear hcz37_1
                  try clear hcz37_2
                  try clear hcz37_3
                  try clear hcz41_0
                  try clear hcz41_1
                  try clear hcz41_2
                  try clear hcz41_3
                  try clear hcz48_0
                  try clear hcz48_1
                  try clear hcz48_2
                  try clear hcz48_3
                  try clear hcz52_0
                  try clear hcz52_1
                  try clear hcz52_2
                  try clear hcz52_3
                  try clear hcz58_0
                  try clear hcz58_1
                  try clear hcz58_2
                  try clear hcz58_3
                  try clear hcz62_0
                  try clear hcz62_1
                  try clear hcz62_2
                  try clear hcz62_3
                  try clear hcz65_0
                  try clear hcz65_1
                  try clear hcz65_2
                  try clear hcz65_3
                  try clear hcz71_0
                  try clear hcz71_1
                  try clear hcz71_2
                  try clear hcz71_3
                  try clear hcz75_0
                  try clear hcz75_1
                  try clear hcz75_2
                  try clear hcz75_3
                  try clear hcz81_0
                  try clear hcz81_1
                  try clear hcz81_2
                  try clear hcz81_3
                  try clear hcz85_0
                  try clear hcz85_1
                  try clear hcz85_2
                  try clear hcz85_3
                  try clear hcz90_0
                  try clear hcz90_1
                  try clear hcz90_2
                  try clear hcz90_3
                  try clear hcz96_0
                  try clear hcz96_1
                  try clear hcz96_2
                  try clear hcz96_3
                  try clear hfz100_0
                  try clear hfz100_1
                  try clear hfz100_2
                  try clear hfz100_3
                  try clear hfz107_0
                  try clear hfz107_1
                  try clear hfz107_2
                  try clear hfz107_3
                  try clear hfz111_0
                  try clear hfz111_1
                  try clear hfz111_2
                  try clear hfz111_3
                  try clear hfz116_0
                  try clear hfz116_1
                  try clear hfz116_2
                  try clear hfz116_3
                  try clear hfz14_0
                  try clear hfz14_1
                  try clear hfz14_2
                  try clear hfz14_3
                  try clear hfz22_0
                  try clear hfz22_1
                  try clear hfz22_2
                  try clear hfz22_3
                  try clear hfz26_0
                  try clear hfz26_1
                  try clear hfz26_2
                  try clear hfz26_3
                  try clear hfz28_0
                  try clear hfz28_1
                  try clear hfz28_2
                  try clear hfz28_3
                  try clear hfz31_0
                  try clear hfz31_1
                  try clear hfz31_2
                  try clear hfz31_3
                  try clear hfz37_0
                  try clear hfz37_1
                  try clear hfz37_2
                  try clear hfz37_3
                  try clear hfz41_0
                  try clear hfz41_1
                  try clear hfz41_2
                  try clear hfz41_3
                  try clear hfz48_0
                  try clear hfz48_1
                  try clear hfz48_2
                  try clear hfz48_3
                  try clear hfz52_0
                  try clear hfz52_1
                  try clear hfz52_2
                  try clear hfz52_3
                  try clear hfz58_0
                  try clear hfz58_1
                  try clear hfz58_2
                  try clear hfz58_3
                  try clear hfz62_0
                  try clear hfz62_1
                  try clear hfz62_2
                  try clear hfz62_3
                  try clear hfz65_0
                  try clear hfz65_1
                  try clear hfz65_2
                  try clear hfz65_3
                  try clear hfz71_0
                  try clear hfz71_1
                  try clear hfz71_2
                  try clear hfz71_3
                  try clear hfz75_0
                  try clear hfz75_1
                  try clear hfz75_2
                  try clear hfz75_3
                  try clear hfz81_0
                  try clear hfz81_1
                  try clear hfz81_2
                  try clear hfz81_3
                  try clear hfz85_0
                  try clear hfz85_1
                  try clear hfz85_2
                  try clear hfz85_3
                  try clear hfz90_0
                  try clear hfz90_1
                  try clear hfz90_2
                  try clear hfz90_3
                  try clear hfz96_0
                  try clear hfz96_1
                  try clear hfz96_2
                  try clear hfz96_3
                  try clear p2
                  obtain ⟨kq, x38_100, rfl, HA, HJ100, BK405, BK406, BK407, BK408, BK409, HB⟩ := hcut
                  cases kq with
                  | zero => exact absurd HA.out (by simp [vals_Join.j2])
                  | succ kj100 =>
                    have H := HA.out
                    clear HA
                    simp only [vals_Join.j2] at H
                    by_cases c117 : x38_100 = true
                    · subst c117
                      have H1 : (some (a1_0, a1_1, a1_2, a1_3)) = some (r1, r2, r3, r4) := by rw [if_pos rfl] at H; exact H
                      clear H
                      have H := H1
                      clear H1
                      simp only [Option.some.injEq, Prod.mk.injEq] at H
                      obtain ⟨rfl, rfl, rfl, rfl⟩ := H
                      have hnb118 := NB406_405.out
                      have hnc118 := NB405_406.out
                      have hnb119 := NB406_407.out
                      have hnc119 := NB407_406.out
                      have hnb120 := NB406_408.out
                      have hnc120 := NB408_406.out
                      have hnb121 := NB406_409.out
                      have hnc121 := NB409_406.out
                      have hcz122_0 : wc.cell? ⟨gb406, 0, none⟩ = some (.int .u8 a1_0) := (blk_cell BK406.out 0).trans rfl
                      have hcz122_1 : wc.cell? ⟨gb406, 1, none⟩ = some (.int .u8 a1_1) := (blk_cell BK406.out 1).trans rfl
                      have hcz122_2 : wc.cell? ⟨gb406, 2, none⟩ = some (.int .u16 a1_2) := (blk_cell BK406.out 2).trans rfl
                      have hcz122_3 : wc.cell? ⟨gb406, 3, none⟩ = some (.int .i64 a1_3) := (blk_cell BK406.out 3).trans rfl
                      have hfz122_0 := blk_frozen BK406.out 0
                      have hfz122_1 := blk_frozen BK406.out 1
                      have hfz122_2 := blk_frozen BK406.out 2
                      have hfz122_3 := blk_frozen BK406.out 3
                      have hnb123 := NB408_405.out
                      have hnc123 := NB405_408.out
                      have hnb124 := NB408_407.out
                      have hnc124 := NB407_408.out
                      have hnb125 := NB408_409.out
                      have hnc125 := NB409_408.out
                      have hcz126_0 : wc.cell? ⟨gb408, 0, none⟩ = some (.int .u8 0) := (blk_cell BK408.out 0).trans rfl
                      have hcz126_1 : wc.cell? ⟨gb408, 1, none⟩ = some (.int .u8 0) := (blk_cell BK408.out 1).trans rfl
                      have hcz126_2 : wc.cell? ⟨gb408, 2, none⟩ = some (.int .u16 0) := (blk_cell BK408.out 2).trans rfl
                      have hcz126_3 : wc.cell? ⟨gb408, 3, none⟩ = some (.int .i64 0) := (blk_cell BK408.out 3).trans rfl
                      have hfz126_0 := blk_frozen BK408.out 0
                      have hfz126_1 := blk_frozen BK408.out 1
                      have hfz126_2 := blk_frozen BK408.out 2
                      have hfz126_3 := blk_frozen BK408.out 3
                      go_wp2
                      refine bodyPost_ret (results_cell_row rfl _ _ gb408 32 #[.int .u8 a1_0, .int .u8 a1_1, .int .u16 a1_2, .int .i64 a1_3] (0, 0) _ rfl (by (with_reducible repeat (first | refine blk_drewN ?_ _ | refine blk_drew ?_ | refine blk_alloc ?_ _)); refine blk_put (cs := #[.int .u8 a1_0, .int .u8 a1_1, .int .u16 a1_2, .int .i64 0]) ?_ 3 _ rfl; (with_reducible repeat (first | refine blk_drewN ?_ _ | refine blk_drew ?_ | refine blk_alloc ?_ _)); refine blk_put (cs := #[.int .u8 a1_0, .int .u8 a1_1, .int .u16 0, .int .i64 0]) ?_ 2 _ rfl; (with_reducible repeat (first | refine blk_drewN ?_ _ | refine blk_drew ?_ | refine blk_alloc ?_ _)); refine blk_put (cs := #[.int .u8 a1_0, .int .u8 0, .int .u16 0, .int .i64 0]) ?_ 1 _ rfl; (with_reducible repeat (first | refine blk_drewN ?_ _ | refine blk_drew ?_ | refine blk_alloc ?_ _)); refine blk_put (cs := #[.int .u8 0, .int .u8 0, .int .u16 0, .int .i64 0]) ?_ 0 _ rfl; (with_reducible repeat (first | refine blk_drewN ?_ _ | refine blk_drew ?_ | refine blk_alloc ?_ _)); exact BK408.out) Try.underlying32 rfl (by kernel_rfl)) rfl ?_
                      exact ⟨by first | rfl | (simp [errW_none, errW_some] <;> rfl) | (simp [*, errW_none, errW_some] <;> rfl), by repeat (first | (with_reducible first | exact HB.out | apply below_alloc | apply pw_below_drewN | apply below_drew1 | refine below_set ?_ GE405.out | refine below_set ?_ GE406.out | refine below_set ?_ GE407.out | refine below_set ?_ GE408.out | refine below_set ?_ GE409.out) | exact HB.out)⟩
                    · replace c117 := Bool.eq_false_iff.mpr c117
                      subst c117
                      have H1 : (if a1_0 = 4 then (if a2_0 = 4 then (if a1_1 = a2_1 then ((hier_Common.f l0_0 l0_1 l0_2 l0_3 (wrap64 (a1_2)) (wrap64 (a2_2))).bind fun t414 => (some (4, a1_1, IntKind.u16.wrap (t414), 0))) else ((vals_object.f 0).bind fun bt415 => (some (bt415.1, bt415.2.1, bt415.2.2.1, bt415.2.2.2)))) else (some (1, 0, 0, 0))) else (some (1, 0, 0, 0))) = some (r1, r2, r3, r4) := by rw [if_neg (show ¬ (false = true) by decide)] at H; exact H
                      clear H
                      have H := H1
                      clear H1
                      by_cases c127 : a1_0 = 4
                      · rw [if_pos c127] at H
                        have c127b0 : (a1_0 == 4) = true := beq_iff_eq.mpr c127
                        have c127b1 : (a1_0 != 4) = false := bne_eq_false_iff_eq.mpr c127
                        clear c127
                        by_cases c128 : a2_0 = 4
                        · rw [if_pos c128] at H
                          have c128b0 : (a2_0 == 4) = true := beq_iff_eq.mpr c128
                          have c128b1 : (a2_0 != 4) = false := bne_eq_false_iff_eq.mpr c128
                          clear c128
                          by_cases c129 : a1_1 = a2_1
                          · rw [if_pos c129] at H
                            have c129b0 : (a1_1 == a2_1) = true := beq_iff_eq.mpr c129
                            have c129b1 : (a1_1 != a2_1) = false := bne_eq_false_iff_eq.mpr c129
                            clear c129
                            replace H := Option.bind_eq_some_iff.mp H
                            obtain ⟨t414, A1300, H⟩ := H
                            replace H : (some (4, a1_1, IntKind.u16.wrap (t414), 0)) = some (r1, r2, r3, r4) := H
                            have A130 := Aside0.mk A1300
                            clear A1300
                            simp only [Option.some.injEq, Prod.mk.injEq] at H
                            obtain ⟨rfl, rfl, rfl, rfl⟩ := H
                            have hnb131 := NB406_405.out
                            have hnc131 := NB405_406.out
                            have hnb132 := NB406_407.out
                            have hnc132 := NB407_406.out
                            have hnb133 := NB406_408.out
                            have hnc133 := NB408_406.out
                            have hnb134 := NB406_409.out
                            have hnc134 := NB409_406.out
                            have hcz135_0 : wc.cell? ⟨gb406, 0, none⟩ = some (.int .u8 a1_0) := (blk_cell BK406.out 0).trans rfl
                            have hcz135_1 : wc.cell? ⟨gb406, 1, none⟩ = some (.int .u8 a1_1) := (blk_cell BK406.out 1).trans rfl
                            have hcz135_2 : wc.cell? ⟨gb406, 2, none⟩ = some (.int .u16 a1_2) := (blk_cell BK406.out 2).trans rfl
                            have hcz135_3 : wc.cell? ⟨gb406, 3, none⟩ = some (.int .i64 a1_3) := (blk_cell BK406.out 3).trans rfl
                            have hfz135_0 := blk_frozen BK406.out 0
                            have hfz135_1 := blk_frozen BK406.out 1
                            have hfz135_2 := blk_frozen BK406.out 2
                            have hfz135_3 := blk_frozen BK406.out 3
                            have hnb136 := NB407_405.out
                            have hnc136 := NB405_407.out
                            have hnb137 := NB407_408.out
                            have hnc137 := NB408_407.out
                            have hnb138 := NB407_409.out
                            have hnc138 := NB409_407.out
                            have hcz139_0 : wc.cell? ⟨gb407, 0, none⟩ = some (.int .u8 a2_0) := (blk_cell BK407.out 0).trans rfl
                            have hcz139_1 : wc.cell? ⟨gb407, 1, none⟩ = some (.int .u8 a2_1) := (blk_cell BK407.out 1).trans rfl
                            have hcz139_2 : wc.cell? ⟨gb407, 2, none⟩ = some (.int .u16 a2_2) := (blk_cell BK407.out 2).trans rfl
                            have hcz139_3 : wc.cell? ⟨gb407, 3, none⟩ = some (.int .i64 a2_3) := (blk_cell BK407.out 3).trans rfl
                            have hfz139_0 := blk_frozen BK407.out 0
                            have hfz139_1 := blk_frozen BK407.out 1
                            have hfz139_2 := blk_frozen BK407.out 2
                            have hfz139_3 := blk_frozen BK407.out 3
                            try go_wp2
                            have n0_ := Aside0.mk (blk_drew BK405.out)
                            have n1_ := Aside0.mk (blk_drew BK406.out)
                            have n2_ := Aside0.mk (blk_drew BK407.out)
                            have n3_ := Aside0.mk (blk_drew BK408.out)
                            have n4_ := Aside0.mk (blk_drew BK409.out)
                            have n5_ := Aside0.mk (below_drew1 HB.out)
                            clear BK405
                            clear BK406
                            clear BK407
                            clear BK408
                            clear BK409
                            clear HB
                            have BK405 := n0_
                            have BK406 := n1_
                            have BK407 := n2_
                            have BK408 := n3_
                            have BK409 := n4_
                            have HB := n5_
                            clear n0_ n1_ n2_ n3_ n4_ n5_
                            refine start_ (n := 8) (S := fun w' => w'.cell? ⟨gb406, 0, none⟩ = some (.int .u8 a1_0) ∧ w'.cell? ⟨gb406, 1, none⟩ = some (.int .u8 a1_1) ∧ w'.cell? ⟨gb406, 2, none⟩ = some (.int .u16 a1_2) ∧ w'.cell? ⟨gb406, 3, none⟩ = some (.int .i64 a1_3) ∧ w'.cell? ⟨gb407, 0, none⟩ = some (.int .u8 a2_0) ∧ w'.cell? ⟨gb407, 1, none⟩ = some (.int .u8 a2_1) ∧ w'.cell? ⟨gb407, 2, none⟩ = some (.int .u16 a2_2) ∧ w'.cell? ⟨gb407, 3, none⟩ = some (.int .i64 a2_3)) (ds := []) #[false, false, false, false, false, false, false, false] (by kernel_rfl) rfl rfl ⟨(blk_cell BK406.out 0).trans rfl, (blk_cell BK406.out 1).trans rfl, (blk_cell BK406.out 2).trans rfl, (blk_cell BK406.out 3).trans rfl, (blk_cell BK407.out 0).trans rfl, (blk_cell BK407.out 1).trans rfl, (blk_cell BK407.out 2).trans rfl, (blk_cell BK407.out 3).trans rfl⟩ (fun hHeld => ?_); refine with_tabW vals_Join.tab12 vals_Join.bits12 (fun HT_ HW_ => ?_)
                            generalize wc.drew = w140 at BK405 BK406 BK407 BK408 BK409 HB hHeld ⊢
                            refine pure_ (i := 0) (N := some 58) (v := ?_) (a' := ?_) #[true, false, false, false, false, false, false, false] rfl rfl (any_of HT_.out (by kernel_rfl)) (fun _ _ _ h => h) (Or.inl ⟨by rfl, ?_⟩) ?_ ?_
                            rotate_left
                            · intro w'
                              go_simp
                              with_reducible rfl
                            rotate_left
                            · simp only [Act.put, List.setIfInBounds_toArray, List.set_cons_zero, List.set_cons_succ, i64_w, i32_w]
                              rfl
                            refine pure_ (i := 2) (N := some 60) (v := ?_) (a' := ?_) #[true, false, true, false, false, false, false, false] rfl rfl (any_of HT_.out (by kernel_rfl)) (fun _ _ _ h => h) (Or.inl ⟨by rfl, ?_⟩) ?_ ?_
                            rotate_left
                            · intro w'
                              go_simp
                              with_reducible rfl
                            rotate_left
                            · simp only [Act.put, List.setIfInBounds_toArray, List.set_cons_zero, List.set_cons_succ, i64_w, i32_w]
                              rfl
                            refine take_ (i := 1) (N := some 59) (v := ?_) (a' := ?_) #[true, true, true, false, false, false, false, false] rfl rfl (take_ofW HT_.out HW_.out (by kernel_rfl)) (fun _ _ _ h => h) (Or.inl ⟨by rfl, ?_⟩) hHeld ?_ ?_
                            rotate_left
                            · rintro w' ⟨s0, s1, s2, s3, s4, s5, s6, s7⟩
                              go_simp
                              with_reducible rfl
                            rotate_left
                            · simp only [Act.put, List.setIfInBounds_toArray, List.set_cons_zero, List.set_cons_succ, i64_w, i32_w]
                              rfl
                            refine take_ (i := 3) (N := some 61) (v := ?_) (a' := ?_) #[true, true, true, true, false, false, false, false] rfl rfl (take_ofW HT_.out HW_.out (by kernel_rfl)) (fun _ _ _ h => h) (Or.inl ⟨by rfl, ?_⟩) hHeld ?_ ?_
                            rotate_left
                            · rintro w' ⟨s0, s1, s2, s3, s4, s5, s6, s7⟩
                              go_simp
                              with_reducible rfl
                            rotate_left
                            · simp only [Act.put, List.setIfInBounds_toArray, List.set_cons_zero, List.set_cons_succ, i64_w, i32_w]
                              rfl
                            refine join_ (σ := Nat × Nat) 2 #[true, true, true, true, true, true, false, false] (fun s_ => [(8, .pointer (some ⟨s_.1, 0, none⟩)), (9, .pointer (some ⟨s_.2, 0, none⟩))]) (fun s_ w' => (w'.cell? ⟨gb406, 0, none⟩ = some (.int .u8 a1_0) ∧ w'.cell? ⟨gb406, 1, none⟩ = some (.int .u8 a1_1) ∧ w'.cell? ⟨gb406, 2, none⟩ = some (.int .u16 a1_2) ∧ w'.cell? ⟨gb406, 3, none⟩ = some (.int .i64 a1_3) ∧ w'.cell? ⟨gb407, 0, none⟩ = some (.int .u8 a2_0) ∧ w'.cell? ⟨gb407, 1, none⟩ = some (.int .u8 a2_1) ∧ w'.cell? ⟨gb407, 2, none⟩ = some (.int .u16 a2_2) ∧ w'.cell? ⟨gb407, 3, none⟩ = some (.int .i64 a2_3)) ∧ (w'.heap[gb405]? = some (.cells #[.slice A0_0 l0_0.length c0_0, .slice A0_1 l0_1.length c0_1, .slice A0_2 l0_2.length c0_2, .slice A0_3 l0_3.length c0_3] 54 (0, 0))) ∧ (w'.heap[gb406]? = some (.cells #[.int .u8 a1_0, .int .u8 a1_1, .int .u16 a1_2, .int .i64 a1_3] 32 (0, 0))) ∧ (w'.heap[gb407]? = some (.cells #[.int .u8 a2_0, .int .u8 a2_1, .int .u16 a2_2, .int .i64 a2_3] 32 (0, 0))) ∧ (w'.heap[gb408]? = some (.cells #[.int .u8 0, .int .u8 0, .int .u16 0, .int .i64 0] 32 (0, 0))) ∧ (w'.heap[gb409]? = some (.cells #[.int .u8 1, .int .u8 0, .int .u16 0, .int .i64 0] 32 (0, 0))) ∧ (w'.heap[s_.1]? = some (.cells #[.int .u8 0, .int .u16 0] 30 (0, 0))) ∧ (w'.heap[s_.2]? = some (.cells #[.int .u8 0, .int .u16 0] 30 (0, 0))) ∧ (w.heap.size ≤ s_.1) ∧ (w.heap.size ≤ s_.1) ∧ (gb405 ≠ s_.1) ∧ (s_.1 ≠ gb405) ∧ (gb406 ≠ s_.1) ∧ (s_.1 ≠ gb406) ∧ (gb407 ≠ s_.1) ∧ (s_.1 ≠ gb407) ∧ (gb408 ≠ s_.1) ∧ (s_.1 ≠ gb408) ∧ (gb409 ≠ s_.1) ∧ (s_.1 ≠ gb409) ∧ (s_.2 ≠ s_.1) ∧ (s_.1 ≠ s_.2) ∧ (w.heap.size ≤ s_.2) ∧ (w.heap.size ≤ s_.2) ∧ (gb405 ≠ s_.2) ∧ (s_.2 ≠ gb405) ∧ (gb406 ≠ s_.2) ∧ (s_.2 ≠ gb406) ∧ (gb407 ≠ s_.2) ∧ (s_.2 ≠ gb407) ∧ (gb408 ≠ s_.2) ∧ (s_.2 ≠ gb408) ∧ (gb409 ≠ s_.2) ∧ (s_.2 ≠ gb409) ∧ (Below w.heap.size w w')) ?_ ?_
                            rotate_left
                            · intro hCont
                              refine two_ (i := 4) (j := 5) (Ni := some 8) (Nj := some 9) #[true, true, true, true, true, false, false, false] #[true, true, true, true, false, true, false, false] rfl rfl rfl rfl (two_of HT_.out (by kernel_rfl)) (by decide) (by decide) (fun K hK => ?_) (fun K hK => ?_)
                              · skip
                                refine box_step ?hg (N := 8) ?hd (cs := #[.int .u8 0, .int .u16 0]) (t := 30) ?hr ?_; (case hd => rfl); (case hg => rfl); (case hr => first | (go_simp; done) | (go_simp; rfl))
                                intro gb412 hg w141 hbox hb
                                have n0_ := Aside0.mk (blk_below (g := gb405) (o := .cells #[.slice A0_0 l0_0.length c0_0, .slice A0_1 l0_1.length c0_1, .slice A0_2 l0_2.length c0_2, .slice A0_3 l0_3.length c0_3] 54 (0, 0)) (by (with_reducible repeat (first | refine blk_drewN ?_ _ | refine blk_drew ?_ | refine blk_alloc ?_ _)); exact BK405.out) hb)
                                have n1_ := Aside0.mk (blk_below (g := gb406) (o := .cells #[.int .u8 a1_0, .int .u8 a1_1, .int .u16 a1_2, .int .i64 a1_3] 32 (0, 0)) (by (with_reducible repeat (first | refine blk_drewN ?_ _ | refine blk_drew ?_ | refine blk_alloc ?_ _)); exact BK406.out) hb)
                                have n2_ := Aside0.mk (blk_below (g := gb407) (o := .cells #[.int .u8 a2_0, .int .u8 a2_1, .int .u16 a2_2, .int .i64 a2_3] 32 (0, 0)) (by (with_reducible repeat (first | refine blk_drewN ?_ _ | refine blk_drew ?_ | refine blk_alloc ?_ _)); exact BK407.out) hb)
                                have n3_ := Aside0.mk (blk_below (g := gb408) (o := .cells #[.int .u8 0, .int .u8 0, .int .u16 0, .int .i64 0] 32 (0, 0)) (by (with_reducible repeat (first | refine blk_drewN ?_ _ | refine blk_drew ?_ | refine blk_alloc ?_ _)); exact BK408.out) hb)
                                have n4_ := Aside0.mk (blk_below (g := gb409) (o := .cells #[.int .u8 1, .int .u8 0, .int .u16 0, .int .i64 0] 32 (0, 0)) (by (with_reducible repeat (first | refine blk_drewN ?_ _ | refine blk_drew ?_ | refine blk_alloc ?_ _)); exact BK409.out) hb)
                                have n5_ := Aside0.mk (below_step (by repeat (first | (with_reducible first | exact HB.out | apply below_alloc | apply pw_below_drewN | apply below_drew1 | refine below_set ?_ GE405.out | refine below_set ?_ GE406.out | refine below_set ?_ GE407.out | refine below_set ?_ GE408.out | refine below_set ?_ GE409.out) | exact HB.out)) hb)
                                have n6_ := Aside0.mk (hbox)
                                have n7_ := Aside0.mk ((by rw [hg]; exact (below_size (by repeat (first | (with_reducible first | exact HB.out | apply below_alloc | apply pw_below_drewN | apply below_drew1 | refine below_set ?_ GE405.out | refine below_set ?_ GE406.out | refine below_set ?_ GE407.out | refine below_set ?_ GE408.out | refine below_set ?_ GE409.out) | exact HB.out))) : w.heap.size ≤ gb412))
                                have n8_ := Aside0.mk ((by rw [hg]; exact (below_size (by repeat (first | (with_reducible first | exact HB.out | apply below_alloc | apply pw_below_drewN | apply below_drew1 | refine below_set ?_ GE405.out | refine below_set ?_ GE406.out | refine below_set ?_ GE407.out | refine below_set ?_ GE408.out | refine below_set ?_ GE409.out) | exact HB.out))) : w.heap.size ≤ gb412))
                                have n9_ := Aside0.mk ((by rw [hg]; exact Nat.ne_of_lt (blk_lt (g := gb405) (o := .cells #[.slice A0_0 l0_0.length c0_0, .slice A0_1 l0_1.length c0_1, .slice A0_2 l0_2.length c0_2, .slice A0_3 l0_3.length c0_3] 54 (0, 0)) (by (with_reducible repeat (first | refine blk_drewN ?_ _ | refine blk_drew ?_ | refine blk_alloc ?_ _)); exact BK405.out)) : gb405 ≠ gb412))
                                have n10_ := Aside0.mk ((by rw [hg]; exact Nat.ne_of_gt (blk_lt (g := gb405) (o := .cells #[.slice A0_0 l0_0.length c0_0, .slice A0_1 l0_1.length c0_1, .slice A0_2 l0_2.length c0_2, .slice A0_3 l0_3.length c0_3] 54 (0, 0)) (by (with_reducible repeat (first | refine blk_drewN ?_ _ | refine blk_drew ?_ | refine blk_alloc ?_ _)); exact BK405.out)) : gb412 ≠ gb405))
                                have n11_ := Aside0.mk ((by rw [hg]; exact Nat.ne_of_lt (blk_lt (g := gb406) (o := .cells #[.int .u8 a1_0, .int .u8 a1_1, .int .u16 a1_2, .int .i64 a1_3] 32 (0, 0)) (by (with_reducible repeat (first | refine blk_drewN ?_ _ | refine blk_drew ?_ | refine blk_alloc ?_ _)); exact BK406.out)) : gb406 ≠ gb412))
                                have n12_ := Aside0.mk ((by rw [hg]; exact Nat.ne_of_gt (blk_lt (g := gb406) (o := .cells #[.int .u8 a1_0, .int .u8 a1_1, .int .u16 a1_2, .int .i64 a1_3] 32 (0, 0)) (by (with_reducible repeat (first | refine blk_drewN ?_ _ | refine blk_drew ?_ | refine blk_alloc ?_ _)); exact BK406.out)) : gb412 ≠ gb406))
                                have n13_ := Aside0.mk ((by rw [hg]; exact Nat.ne_of_lt (blk_lt (g := gb407) (o := .cells #[.int .u8 a2_0, .int .u8 a2_1, .int .u16 a2_2, .int .i64 a2_3] 32 (0, 0)) (by (with_reducible repeat (first | refine blk_drewN ?_ _ | refine blk_drew ?_ | refine blk_alloc ?_ _)); exact BK407.out)) : gb407 ≠ gb412))
                                have n14_ := Aside0.mk ((by rw [hg]; exact Nat.ne_of_gt (blk_lt (g := gb407) (o := .cells #[.int .u8 a2_0, .int .u8 a2_1, .int .u16 a2_2, .int .i64 a2_3] 32 (0, 0)) (by (with_reducible repeat (first | refine blk_drewN ?_ _ | refine blk_drew ?_ | refine blk_alloc ?_ _)); exact BK407.out)) : gb412 ≠ gb407))
                                have n15_ := Aside0.mk ((by rw [hg]; exact Nat.ne_of_lt (blk_lt (g := gb408) (o := .cells #[.int .u8 0, .int .u8 0, .int .u16 0, .int .i64 0] 32 (0, 0)) (by (with_reducible repeat (first | refine blk_drewN ?_ _ | refine blk_drew ?_ | refine blk_alloc ?_ _)); exact BK408.out)) : gb408 ≠ gb412))
                                have n16_ := Aside0.mk ((by rw [hg]; exact Nat.ne_of_gt (blk_lt (g := gb408) (o := .cells #[.int .u8 0, .int .u8 0, .int .u16 0, .int .i64 0] 32 (0, 0)) (by (with_reducible repeat (first | refine blk_drewN ?_ _ | refine blk_drew ?_ | refine blk_alloc ?_ _)); exact BK408.out)) : gb412 ≠ gb408))
                                have n17_ := Aside0.mk ((by rw [hg]; exact Nat.ne_of_lt (blk_lt (g := gb409) (o := .cells #[.int .u8 1, .int .u8 0, .int .u16 0, .int .i64 0] 32 (0, 0)) (by (with_reducible repeat (first | refine blk_drewN ?_ _ | refine blk_drew ?_ | refine blk_alloc ?_ _)); exact BK409.out)) : gb409 ≠ gb412))
                                have n18_ := Aside0.mk ((by rw [hg]; exact Nat.ne_of_gt (blk_lt (g := gb409) (o := .cells #[.int .u8 1, .int .u8 0, .int .u16 0, .int .i64 0] 32 (0, 0)) (by (with_reducible repeat (first | refine blk_drewN ?_ _ | refine blk_drew ?_ | refine blk_alloc ?_ _)); exact BK409.out)) : gb412 ≠ gb409))
                                clear BK405
                                clear BK406
                                clear BK407
                                clear BK408
                                clear BK409
                                clear HB
                                have BK405 := n0_
                                have BK406 := n1_
                                have BK407 := n2_
                                have BK408 := n3_
                                have BK409 := n4_
                                have HB := n5_
                                have BK412 := n6_
                                have GW412 := n7_
                                have GE412 := n8_
                                have NB405_412 := n9_
                                have NB412_405 := n10_
                                have NB406_412 := n11_
                                have NB412_406 := n12_
                                have NB407_412 := n13_
                                have NB412_407 := n14_
                                have NB408_412 := n15_
                                have NB412_408 := n16_
                                have NB409_412 := n17_
                                have NB412_409 := n18_
                                clear n0_ n1_ n2_ n3_ n4_ n5_ n6_ n7_ n8_ n9_ n10_ n11_ n12_ n13_ n14_ n15_ n16_ n17_ n18_
                                clear hb hbox hg
                                refine hK.out _ _ ⟨(blk_cell BK406.out 0).trans rfl, (blk_cell BK406.out 1).trans rfl, (blk_cell BK406.out 2).trans rfl, (blk_cell BK406.out 3).trans rfl, (blk_cell BK407.out 0).trans rfl, (blk_cell BK407.out 1).trans rfl, (blk_cell BK407.out 2).trans rfl, (blk_cell BK407.out 3).trans rfl⟩ (fun hHeld => ?_)
                                clear hK K
                                refine norm_ (a' := ?_) ?_ ?_
                                rotate_left
                                · show Act.put _ (some 8) _ = _
                                  simp only [Act.put, List.setIfInBounds_toArray, List.set_cons_zero, List.set_cons_succ, i64_w, i32_w]
                                  rfl
                                refine one_ (i := 5) (N := some 9) #[true, true, true, true, true, true, false, false] rfl rfl (one_of HT_.out (by kernel_rfl)) (by decide) (fun K hK => ?_)
                                refine box_step ?hg (N := 9) ?hd (cs := #[.int .u8 0, .int .u16 0]) (t := 30) ?hr ?_; (case hd => rfl); (case hg => rfl); (case hr => first | (go_simp; done) | (go_simp; rfl))
                                intro gb413 hg w142 hbox hb
                                have n0_ := Aside0.mk (blk_below (g := gb405) (o := .cells #[.slice A0_0 l0_0.length c0_0, .slice A0_1 l0_1.length c0_1, .slice A0_2 l0_2.length c0_2, .slice A0_3 l0_3.length c0_3] 54 (0, 0)) (by (with_reducible repeat (first | refine blk_drewN ?_ _ | refine blk_drew ?_ | refine blk_alloc ?_ _)); exact BK405.out) hb)
                                have n1_ := Aside0.mk (blk_below (g := gb406) (o := .cells #[.int .u8 a1_0, .int .u8 a1_1, .int .u16 a1_2, .int .i64 a1_3] 32 (0, 0)) (by (with_reducible repeat (first | refine blk_drewN ?_ _ | refine blk_drew ?_ | refine blk_alloc ?_ _)); exact BK406.out) hb)
                                have n2_ := Aside0.mk (blk_below (g := gb407) (o := .cells #[.int .u8 a2_0, .int .u8 a2_1, .int .u16 a2_2, .int .i64 a2_3] 32 (0, 0)) (by (with_reducible repeat (first | refine blk_drewN ?_ _ | refine blk_drew ?_ | refine blk_alloc ?_ _)); exact BK407.out) hb)
                                have n3_ := Aside0.mk (blk_below (g := gb408) (o := .cells #[.int .u8 0, .int .u8 0, .int .u16 0, .int .i64 0] 32 (0, 0)) (by (with_reducible repeat (first | refine blk_drewN ?_ _ | refine blk_drew ?_ | refine blk_alloc ?_ _)); exact BK408.out) hb)
                                have n4_ := Aside0.mk (blk_below (g := gb409) (o := .cells #[.int .u8 1, .int .u8 0, .int .u16 0, .int .i64 0] 32 (0, 0)) (by (with_reducible repeat (first | refine blk_drewN ?_ _ | refine blk_drew ?_ | refine blk_alloc ?_ _)); exact BK409.out) hb)
                                have n5_ := Aside0.mk (blk_below (g := gb412) (o := .cells #[.int .u8 0, .int .u16 0] 30 (0, 0)) (by (with_reducible repeat (first | refine blk_drewN ?_ _ | refine blk_drew ?_ | refine blk_alloc ?_ _)); exact BK412.out) hb)
                                have n6_ := Aside0.mk (below_step (by repeat (first | (with_reducible first | exact HB.out | apply below_alloc | apply pw_below_drewN | apply below_drew1 | refine below_set ?_ GE405.out | refine below_set ?_ GE406.out | refine below_set ?_ GE407.out | refine below_set ?_ GE408.out | refine below_set ?_ GE409.out | refine below_set ?_ GE412.out) | exact HB.out)) hb)
                                have n7_ := Aside0.mk (hbox)
                                have n8_ := Aside0.mk ((by rw [hg]; exact (below_size (by repeat (first | (with_reducible first | exact HB.out | apply below_alloc | apply pw_below_drewN | apply below_drew1 | refine below_set ?_ GE405.out | refine below_set ?_ GE406.out | refine below_set ?_ GE407.out | refine below_set ?_ GE408.out | refine below_set ?_ GE409.out | refine below_set ?_ GE412.out) | exact HB.out))) : w.heap.size ≤ gb413))
                                have n9_ := Aside0.mk ((by rw [hg]; exact (below_size (by repeat (first | (with_reducible first | exact HB.out | apply below_alloc | apply pw_below_drewN | apply below_drew1 | refine below_set ?_ GE405.out | refine below_set ?_ GE406.out | refine below_set ?_ GE407.out | refine below_set ?_ GE408.out | refine below_set ?_ GE409.out | refine below_set ?_ GE412.out) | exact HB.out))) : w.heap.size ≤ gb413))
                                have n10_ := Aside0.mk ((by rw [hg]; exact Nat.ne_of_lt (blk_lt (g := gb405) (o := .cells #[.slice A0_0 l0_0.length c0_0, .slice A0_1 l0_1.length c0_1, .slice A0_2 l0_2.length c0_2, .slice A0_3 l0_3.length c0_3] 54 (0, 0)) (by (with_reducible repeat (first | refine blk_drewN ?_ _ | refine blk_drew ?_ | refine blk_alloc ?_ _)); exact BK405.out)) : gb405 ≠ gb413))
                                have n11_ := Aside0.mk ((by rw [hg]; exact Nat.ne_of_gt (blk_lt (g := gb405) (o := .cells #[.slice A0_0 l0_0.length c0_0, .slice A0_1 l0_1.length c0_1, .slice A0_2 l0_2.length c0_2, .slice A0_3 l0_3.length c0_3] 54 (0, 0)) (by (with_reducible repeat (first | refine blk_drewN ?_ _ | refine blk_drew ?_ | refine blk_alloc ?_ _)); exact BK405.out)) : gb413 ≠ gb405))
                                have n12_ := Aside0.mk ((by rw [hg]; exact Nat.ne_of_lt (blk_lt (g := gb406) (o := .cells #[.int .u8 a1_0, .int .u8 a1_1, .int .u16 a1_2, .int .i64 a1_3] 32 (0, 0)) (by (with_reducible repeat (first | refine blk_drewN ?_ _ | refine blk_drew ?_ | refine blk_alloc ?_ _)); exact BK406.out)) : gb406 ≠ gb413))
                                have n13_ := Aside0.mk ((by rw [hg]; exact Nat.ne_of_gt (blk_lt (g := gb406) (o := .cells #[.int .u8 a1_0, .int .u8 a1_1, .int .u16 a1_2, .int .i64 a1_3] 32 (0, 0)) (by (with_reducible repeat (first | refine blk_drewN ?_ _ | refine blk_drew ?_ | refine blk_alloc ?_ _)); exact BK406.out)) : gb413 ≠ gb406))
                                have n14_ := Aside0.mk ((by rw [hg]; exact Nat.ne_of_lt (blk_lt (g := gb407) (o := .cells #[.int .u8 a2_0, .int .u8 a2_1, .int .u16 a2_2, .int .i64 a2_3] 32 (0, 0)) (by (with_reducible repeat (first | refine blk_drewN ?_ _ | refine blk_drew ?_ | refine blk_alloc ?_ _)); exact BK407.out)) : gb407 ≠ gb413))
                                have n15_ := Aside0.mk ((by rw [hg]; exact Nat.ne_of_gt (blk_lt (g := gb407) (o := .cells #[.int .u8 a2_0, .int .u8 a2_1, .int .u16 a2_2, .int .i64 a2_3] 32 (0, 0)) (by (with_reducible repeat (first | refine blk_drewN ?_ _ | refine blk_drew ?_ | refine blk_alloc ?_ _)); exact BK407.out)) : gb413 ≠ gb407))
                                have n16_ := Aside0.mk ((by rw [hg]; exact Nat.ne_of_lt (blk_lt (g := gb408) (o := .cells #[.int .u8 0, .int .u8 0, .int .u16 0, .int .i64 0] 32 (0, 0)) (by (with_reducible repeat (first | refine blk_drewN ?_ _ | refine blk_drew ?_ | refine blk_alloc ?_ _)); exact BK408.out)) : gb408 ≠ gb413))
                                have n17_ := Aside0.mk ((by rw [hg]; exact Nat.ne_of_gt (blk_lt (g := gb408) (o := .cells #[.int .u8 0, .int .u8 0, .int .u16 0, .int .i64 0] 32 (0, 0)) (by (with_reducible repeat (first | refine blk_drewN ?_ _ | refine blk_drew ?_ | refine blk_alloc ?_ _)); exact BK408.out)) : gb413 ≠ gb408))
                                have n18_ := Aside0.mk ((by rw [hg]; exact Nat.ne_of_lt (blk_lt (g := gb409) (o := .cells #[.int .u8 1, .int .u8 0, .int .u16 0, .int .i64 0] 32 (0, 0)) (by (with_reducible repeat (first | refine blk_drewN ?_ _ | refine blk_drew ?_ | refine blk_alloc ?_ _)); exact BK409.out)) : gb409 ≠ gb413))
                                have n19_ := Aside0.mk ((by rw [hg]; exact Nat.ne_of_gt (blk_lt (g := gb409) (o := .cells #[.int .u8 1, .int .u8 0, .int .u16 0, .int .i64 0] 32 (0, 0)) (by (with_reducible repeat (first | refine blk_drewN ?_ _ | refine blk_drew ?_ | refine blk_alloc ?_ _)); exact BK409.out)) : gb413 ≠ gb409))
                                have n20_ := Aside0.mk ((by rw [hg]; exact Nat.ne_of_lt (blk_lt (g := gb412) (o := .cells #[.int .u8 0, .int .u16 0] 30 (0, 0)) (by (with_reducible repeat (first | refine blk_drewN ?_ _ | refine blk_drew ?_ | refine blk_alloc ?_ _)); exact BK412.out)) : gb412 ≠ gb413))
                                have n21_ := Aside0.mk ((by rw [hg]; exact Nat.ne_of_gt (blk_lt (g := gb412) (o := .cells #[.int .u8 0, .int .u16 0] 30 (0, 0)) (by (with_reducible repeat (first | refine blk_drewN ?_ _ | refine blk_drew ?_ | refine blk_alloc ?_ _)); exact BK412.out)) : gb413 ≠ gb412))
                                clear BK405
                                clear BK406
                                clear BK407
                                clear BK408
                                clear BK409
                                clear BK412
                                clear HB
                                have BK405 := n0_
                                have BK406 := n1_
                                have BK407 := n2_
                                have BK408 := n3_
                                have BK409 := n4_
                                have BK412 := n5_
                                have HB := n6_
                                have BK413 := n7_
                                have GW413 := n8_
                                have GE413 := n9_
                                have NB405_413 := n10_
                                have NB413_405 := n11_
                                have NB406_413 := n12_
                                have NB413_406 := n13_
                                have NB407_413 := n14_
                                have NB413_407 := n15_
                                have NB408_413 := n16_
                                have NB413_408 := n17_
                                have NB409_413 := n18_
                                have NB413_409 := n19_
                                have NB412_413 := n20_
                                have NB413_412 := n21_
                                clear n0_ n1_ n2_ n3_ n4_ n5_ n6_ n7_ n8_ n9_ n10_ n11_ n12_ n13_ n14_ n15_ n16_ n17_ n18_ n19_ n20_ n21_
                                clear hb hbox hg
                                refine hK.out _ _ ⟨(blk_cell BK406.out 0).trans rfl, (blk_cell BK406.out 1).trans rfl, (blk_cell BK406.out 2).trans rfl, (blk_cell BK406.out 3).trans rfl, (blk_cell BK407.out 0).trans rfl, (blk_cell BK407.out 1).trans rfl, (blk_cell BK407.out 2).trans rfl, (blk_cell BK407.out 3).trans rfl⟩ (fun hHeld => ?_)
                                clear hK K
                                refine norm_ (a' := ?_) ?_ ?_
                                rotate_left
                                · show Act.put _ (some 9) _ = _
                                  simp only [Act.put, List.setIfInBounds_toArray, List.set_cons_zero, List.set_cons_succ, i64_w, i32_w]
                                  rfl
                                exact norm_ (by simp only [putAll, Act.put, List.setIfInBounds_toArray, List.set_cons_zero, List.set_cons_succ]) (hCont (gb412, gb413) _ ⟨hHeld, (by (with_reducible repeat (first | refine blk_drewN ?_ _ | refine blk_drew ?_ | refine blk_alloc ?_ _)); exact BK405.out), (by (with_reducible repeat (first | refine blk_drewN ?_ _ | refine blk_drew ?_ | refine blk_alloc ?_ _)); exact BK406.out), (by (with_reducible repeat (first | refine blk_drewN ?_ _ | refine blk_drew ?_ | refine blk_alloc ?_ _)); exact BK407.out), (by (with_reducible repeat (first | refine blk_drewN ?_ _ | refine blk_drew ?_ | refine blk_alloc ?_ _)); exact BK408.out), (by (with_reducible repeat (first | refine blk_drewN ?_ _ | refine blk_drew ?_ | refine blk_alloc ?_ _)); exact BK409.out), (by (with_reducible repeat (first | refine blk_drewN ?_ _ | refine blk_drew ?_ | refine blk_alloc ?_ _)); exact BK412.out), (by (with_reducible repeat (first | refine blk_drewN ?_ _ | refine blk_drew ?_ | refine blk_alloc ?_ _)); exact BK413.out), GW412.out, GE412.out, NB405_412.out, NB412_405.out, NB406_412.out, NB412_406.out, NB407_412.out, NB412_407.out, NB408_412.out, NB412_408.out, NB409_412.out, NB412_409.out, NB413_412.out, NB412_413.out, GW413.out, GE413.out, NB405_413.out, NB413_405.out, NB406_413.out, NB413_406.out, NB407_413.out, NB413_407.out, NB408_413.out, NB413_408.out, NB409_413.out, NB413_409.out, (by repeat (first | (with_reducible first | exact HB.out | apply below_alloc | apply pw_below_drewN | apply below_drew1 | refine below_set ?_ GE405.out | refine below_set ?_ GE406.out | refine below_set ?_ GE407.out | refine below_set ?_ GE408.out | refine below_set ?_ GE409.out | refine below_set ?_ GE412.out | refine below_set ?_ GE413.out) | exact HB.out))⟩)
                              · skip
                                refine box_step ?hg (N := 9) ?hd (cs := #[.int .u8 0, .int .u16 0]) (t := 30) ?hr ?_; (case hd => rfl); (case hg => rfl); (case hr => first | (go_simp; done) | (go_simp; rfl))
                                intro gb413 hg w141 hbox hb
                                have n0_ := Aside0.mk (blk_below (g := gb405) (o := .cells #[.slice A0_0 l0_0.length c0_0, .slice A0_1 l0_1.length c0_1, .slice A0_2 l0_2.length c0_2, .slice A0_3 l0_3.length c0_3] 54 (0, 0)) (by (with_reducible repeat (first | refine blk_drewN ?_ _ | refine blk_drew ?_ | refine blk_alloc ?_ _)); exact BK405.out) hb)
                                have n1_ := Aside0.mk (blk_below (g := gb406) (o := .cells #[.int .u8 a1_0, .int .u8 a1_1, .int .u16 a1_2, .int .i64 a1_3] 32 (0, 0)) (by (with_reducible repeat (first | refine blk_drewN ?_ _ | refine blk_drew ?_ | refine blk_alloc ?_ _)); exact BK406.out) hb)
                                have n2_ := Aside0.mk (blk_below (g := gb407) (o := .cells #[.int .u8 a2_0, .int .u8 a2_1, .int .u16 a2_2, .int .i64 a2_3] 32 (0, 0)) (by (with_reducible repeat (first | refine blk_drewN ?_ _ | refine blk_drew ?_ | refine blk_alloc ?_ _)); exact BK407.out) hb)
                                have n3_ := Aside0.mk (blk_below (g := gb408) (o := .cells #[.int .u8 0, .int .u8 0, .int .u16 0, .int .i64 0] 32 (0, 0)) (by (with_reducible repeat (first | refine blk_drewN ?_ _ | refine blk_drew ?_ | refine blk_alloc ?_ _)); exact BK408.out) hb)
                                have n4_ := Aside0.mk (blk_below (g := gb409) (o := .cells #[.int .u8 1, .int .u8 0, .int .u16 0, .int .i64 0] 32 (0, 0)) (by (with_reducible repeat (first | refine blk_drewN ?_ _ | refine blk_drew ?_ | refine blk_alloc ?_ _)); exact BK409.out) hb)
                                have n5_ := Aside0.mk (below_step (by repeat (first | (with_reducible first | exact HB.out | apply below_alloc | apply pw_below_drewN | apply below_drew1 | refine below_set ?_ GE405.out | refine below_set ?_ GE406.out | refine below_set ?_ GE407.out | refine below_set ?_ GE408.out | refine below_set ?_ GE409.out) | exact HB.out)) hb)
                                have n6_ := Aside0.mk (hbox)
                                have n7_ := Aside0.mk ((by rw [hg]; exact (below_size (by repeat (first | (with_reducible first | exact HB.out | apply below_alloc | apply pw_below_drewN | apply below_drew1 | refine below_set ?_ GE405.out | refine below_set ?_ GE406.out | refine below_set ?_ GE407.out | refine below_set ?_ GE408.out | refine below_set ?_ GE409.out) | exact HB.out))) : w.heap.size ≤ gb413))
                                have n8_ := Aside0.mk ((by rw [hg]; exact (below_size (by repeat (first | (with_reducible first | exact HB.out | apply below_alloc | apply pw_below_drewN | apply below_drew1 | refine below_set ?_ GE405.out | refine below_set ?_ GE406.out | refine below_set ?_ GE407.out | refine below_set ?_ GE408.out | refine below_set ?_ GE409.out) | exact HB.out))) : w.heap.size ≤ gb413))
                                have n9_ := Aside0.mk ((by rw [hg]; exact Nat.ne_of_lt (blk_lt (g := gb405) (o := .cells #[.slice A0_0 l0_0.length c0_0, .slice A0_1 l0_1.length c0_1, .slice A0_2 l0_2.length c0_2, .slice A0_3 l0_3.length c0_3] 54 (0, 0)) (by (with_reducible repeat (first | refine blk_drewN ?_ _ | refine blk_drew ?_ | refine blk_alloc ?_ _)); exact BK405.out)) : gb405 ≠ gb413))
                                have n10_ := Aside0.mk ((by rw [hg]; exact Nat.ne_of_gt (blk_lt (g := gb405) (o := .cells #[.slice A0_0 l0_0.length c0_0, .slice A0_1 l0_1.length c0_1, .slice A0_2 l0_2.length c0_2, .slice A0_3 l0_3.length c0_3] 54 (0, 0)) (by (with_reducible repeat (first | refine blk_drewN ?_ _ | refine blk_drew ?_ | refine blk_alloc ?_ _)); exact BK405.out)) : gb413 ≠ gb405))
                                have n11_ := Aside0.mk ((by rw [hg]; exact Nat.ne_of_lt (blk_lt (g := gb406) (o := .cells #[.int .u8 a1_0, .int .u8 a1_1, .int .u16 a1_2, .int .i64 a1_3] 32 (0, 0)) (by (with_reducible repeat (first | refine blk_drewN ?_ _ | refine blk_drew ?_ | refine blk_alloc ?_ _)); exact BK406.out)) : gb406 ≠ gb413))
                                have n12_ := Aside0.mk ((by rw [hg]; exact Nat.ne_of_gt (blk_lt (g := gb406) (o := .cells #[.int .u8 a1_0, .int .u8 a1_1, .int .u16 a1_2, .int .i64 a1_3] 32 (0, 0)) (by (with_reducible repeat (first | refine blk_drewN ?_ _ | refine blk_drew ?_ | refine blk_alloc ?_ _)); exact BK406.out)) : gb413 ≠ gb406))
                                have n13_ := Aside0.mk ((by rw [hg]; exact Nat.ne_of_lt (blk_lt (g := gb407) (o := .cells #[.int .u8 a2_0, .int .u8 a2_1, .int .u16 a2_2, .int .i64 a2_3] 32 (0, 0)) (by (with_reducible repeat (first | refine blk_drewN ?_ _ | refine blk_drew ?_ | refine blk_alloc ?_ _)); exact BK407.out)) : gb407 ≠ gb413))
                                have n14_ := Aside0.mk ((by rw [hg]; exact Nat.ne_of_gt (blk_lt (g := gb407) (o := .cells #[.int .u8 a2_0, .int .u8 a2_1, .int .u16 a2_2, .int .i64 a2_3] 32 (0, 0)) (by (with_reducible repeat (first | refine blk_drewN ?_ _ | refine blk_drew ?_ | refine blk_alloc ?_ _)); exact BK407.out)) : gb413 ≠ gb407))
                                have n15_ := Aside0.mk ((by rw [hg]; exact Nat.ne_of_lt (blk_lt (g := gb408) (o := .cells #[.int .u8 0, .int .u8 0, .int .u16 0, .int .i64 0] 32 (0, 0)) (by (with_reducible repeat (first | refine blk_drewN ?_ _ | refine blk_drew ?_ | refine blk_alloc ?_ _)); exact BK408.out)) : gb408 ≠ gb413))
                                have n16_ := Aside0.mk ((by rw [hg]; exact Nat.ne_of_gt (blk_lt (g := gb408) (o := .cells #[.int .u8 0, .int .u8 0, .int .u16 0, .int .i64 0] 32 (0, 0)) (by (with_reducible repeat (first | refine blk_drewN ?_ _ | refine blk_drew ?_ | refine blk_alloc ?_ _)); exact BK408.out)) : gb413 ≠ gb408))
                                have n17_ := Aside0.mk ((by rw [hg]; exact Nat.ne_of_lt (blk_lt (g := gb409) (o := .cells #[.int .u8 1, .int .u8 0, .int .u16 0, .int .i64 0] 32 (0, 0)) (by (with_reducible repeat (first | refine blk_drewN ?_ _ | refine blk_drew ?_ | refine blk_alloc ?_ _)); exact BK409.out)) : gb409 ≠ gb413))
                                have n18_ := Aside0.mk ((by rw [hg]; exact Nat.ne_of_gt (blk_lt (g := gb409) (o := .cells #[.int .u8 1, .int .u8 0, .int .u16 0, .int .i64 0] 32 (0, 0)) (by (with_reducible repeat (first | refine blk_drewN ?_ _ | refine blk_drew ?_ | refine blk_alloc ?_ _)); exact BK409.out)) : gb413 ≠ gb409))
                                clear BK405
                                clear BK406
                                clear BK407
                                clear BK408
                                clear BK409
                                clear HB
                                have BK405 := n0_
                                have BK406 := n1_
                                have BK407 := n2_
                                have BK408 := n3_
                                have BK409 := n4_
                                have HB := n5_
                                have BK413 := n6_
                                have GW413 := n7_
                                have GE413 := n8_
                                have NB405_413 := n9_
                                have NB413_405 := n10_
                                have NB406_413 := n11_
                                have NB413_406 := n12_
                                have NB407_413 := n13_
                                have NB413_407 := n14_
                                have NB408_413 := n15_
                                have NB413_408 := n16_
                                have NB409_413 := n17_
                                have NB413_409 := n18_
                                clear n0_ n1_ n2_ n3_ n4_ n5_ n6_ n7_ n8_ n9_ n10_ n11_ n12_ n13_ n14_ n15_ n16_ n17_ n18_
                                clear hb hbox hg
                                refine hK.out _ _ ⟨(blk_cell BK406.out 0).trans rfl, (blk_cell BK406.out 1).trans rfl, (blk_cell BK406.out 2).trans rfl, (blk_cell BK406.out 3).trans rfl, (blk_cell BK407.out 0).trans rfl, (blk_cell BK407.out 1).trans rfl, (blk_cell BK407.out 2).trans rfl, (blk_cell BK407.out 3).trans rfl⟩ (fun hHeld => ?_)
                                clear hK K
                                refine norm_ (a' := ?_) ?_ ?_
                                rotate_left
                                · show Act.put _ (some 9) _ = _
                                  simp only [Act.put, List.setIfInBounds_toArray, List.set_cons_zero, List.set_cons_succ, i64_w, i32_w]
                                  rfl
                                refine one_ (i := 4) (N := some 8) #[true, true, true, true, true, true, false, false] rfl rfl (one_of HT_.out (by kernel_rfl)) (by decide) (fun K hK => ?_)
                                refine box_step ?hg (N := 8) ?hd (cs := #[.int .u8 0, .int .u16 0]) (t := 30) ?hr ?_; (case hd => rfl); (case hg => rfl); (case hr => first | (go_simp; done) | (go_simp; rfl))
                                intro gb412 hg w142 hbox hb
                                have n0_ := Aside0.mk (blk_below (g := gb405) (o := .cells #[.slice A0_0 l0_0.length c0_0, .slice A0_1 l0_1.length c0_1, .slice A0_2 l0_2.length c0_2, .slice A0_3 l0_3.length c0_3] 54 (0, 0)) (by (with_reducible repeat (first | refine blk_drewN ?_ _ | refine blk_drew ?_ | refine blk_alloc ?_ _)); exact BK405.out) hb)
                                have n1_ := Aside0.mk (blk_below (g := gb406) (o := .cells #[.int .u8 a1_0, .int .u8 a1_1, .int .u16 a1_2, .int .i64 a1_3] 32 (0, 0)) (by (with_reducible repeat (first | refine blk_drewN ?_ _ | refine blk_drew ?_ | refine blk_alloc ?_ _)); exact BK406.out) hb)
                                have n2_ := Aside0.mk (blk_below (g := gb407) (o := .cells #[.int .u8 a2_0, .int .u8 a2_1, .int .u16 a2_2, .int .i64 a2_3] 32 (0, 0)) (by (with_reducible repeat (first | refine blk_drewN ?_ _ | refine blk_drew ?_ | refine blk_alloc ?_ _)); exact BK407.out) hb)
                                have n3_ := Aside0.mk (blk_below (g := gb408) (o := .cells #[.int .u8 0, .int .u8 0, .int .u16 0, .int .i64 0] 32 (0, 0)) (by (with_reducible repeat (first | refine blk_drewN ?_ _ | refine blk_drew ?_ | refine blk_alloc ?_ _)); exact BK408.out) hb)
                                have n4_ := Aside0.mk (blk_below (g := gb409) (o := .cells #[.int .u8 1, .int .u8 0, .int .u16 0, .int .i64 0] 32 (0, 0)) (by (with_reducible repeat (first | refine blk_drewN ?_ _ | refine blk_drew ?_ | refine blk_alloc ?_ _)); exact BK409.out) hb)
                                have n5_ := Aside0.mk (blk_below (g := gb413) (o := .cells #[.int .u8 0, .int .u16 0] 30 (0, 0)) (by (with_reducible repeat (first | refine blk_drewN ?_ _ | refine blk_drew ?_ | refine blk_alloc ?_ _)); exact BK413.out) hb)
                                have n6_ := Aside0.mk (below_step (by repeat (first | (with_reducible first | exact HB.out | apply below_alloc | apply pw_below_drewN | apply below_drew1 | refine below_set ?_ GE405.out | refine below_set ?_ GE406.out | refine below_set ?_ GE407.out | refine below_set ?_ GE408.out | refine below_set ?_ GE409.out | refine below_set ?_ GE413.out) | exact HB.out)) hb)
                                have n7_ := Aside0.mk (hbox)
                                have n8_ := Aside0.mk ((by rw [hg]; exact (below_size (by repeat (first | (with_reducible first | exact HB.out | apply below_alloc | apply pw_below_drewN | apply below_drew1 | refine below_set ?_ GE405.out | refine below_set ?_ GE406.out | refine below_set ?_ GE407.out | refine below_set ?_ GE408.out | refine below_set ?_ GE409.out | refine below_set ?_ GE413.out) | exact HB.out))) : w.heap.size ≤ gb412))
                                have n9_ := Aside0.mk ((by rw [hg]; exact (below_size (by repeat (first | (with_reducible first | exact HB.out | apply below_alloc | apply pw_below_drewN | apply below_drew1 | refine below_set ?_ GE405.out | refine below_set ?_ GE406.out | refine below_set ?_ GE407.out | refine below_set ?_ GE408.out | refine below_set ?_ GE409.out | refine below_set ?_ GE413.out) | exact HB.out))) : w.heap.size ≤ gb412))
                                have n10_ := Aside0.mk ((by rw [hg]; exact Nat.ne_of_lt (blk_lt (g := gb405) (o := .cells #[.slice A0_0 l0_0.length c0_0, .slice A0_1 l0_1.length c0_1, .slice A0_2 l0_2.length c0_2, .slice A0_3 l0_3.length c0_3] 54 (0, 0)) (by (with_reducible repeat (first | refine blk_drewN ?_ _ | refine blk_drew ?_ | refine blk_alloc ?_ _)); exact BK405.out)) : gb405 ≠ gb412))
                                have n11_ := Aside0.mk ((by rw [hg]; exact Nat.ne_of_gt (blk_lt (g := gb405) (o := .cells #[.slice A0_0 l0_0.length c0_0, .slice A0_1 l0_1.length c0_1, .slice A0_2 l0_2.length c0_2, .slice A0_3 l0_3.length c0_3] 54 (0, 0)) (by (with_reducible repeat (first | refine blk_drewN ?_ _ | refine blk_drew ?_ | refine blk_alloc ?_ _)); exact BK405.out)) : gb412 ≠ gb405))
                                have n12_ := Aside0.mk ((by rw [hg]; exact Nat.ne_of_lt (blk_lt (g := gb406) (o := .cells #[.int .u8 a1_0, .int .u8 a1_1, .int .u16 a1_2, .int .i64 a1_3] 32 (0, 0)) (by (with_reducible repeat (first | refine blk_drewN ?_ _ | refine blk_drew ?_ | refine blk_alloc ?_ _)); exact BK406.out)) : gb406 ≠ gb412))
                                have n13_ := Aside0.mk ((by rw [hg]; exact Nat.ne_of_gt (blk_lt (g := gb406) (o := .cells #[.int .u8 a1_0, .int .u8 a1_1, .int .u16 a1_2, .int .i64 a1_3] 32 (0, 0)) (by (with_reducible repeat (first | refine blk_drewN ?_ _ | refine blk_drew ?_ | refine blk_alloc ?_ _)); exact BK406.out)) : gb412 ≠ gb406))
                                have n14_ := Aside0.mk ((by rw [hg]; exact Nat.ne_of_lt (blk_lt (g := gb407) (o := .cells #[.int .u8 a2_0, .int .u8 a2_1, .int .u16 a2_2, .int .i64 a2_3] 32 (0, 0)) (by (with_reducible repeat (first | refine blk_drewN ?_ _ | refine blk_drew ?_ | refine blk_alloc ?_ _)); exact BK407.out)) : gb407 ≠ gb412))
                                have n15_ := Aside0.mk ((by rw [hg]; exact Nat.ne_of_gt (blk_lt (g := gb407) (o := .cells #[.int .u8 a2_0, .int .u8 a2_1, .int .u16 a2_2, .int .i64 a2_3] 32 (0, 0)) (by (with_reducible repeat (first | refine blk_drewN ?_ _ | refine blk_drew ?_ | refine blk_alloc ?_ _)); exact BK407.out)) : gb412 ≠ gb407))
                                have n16_ := Aside0.mk ((by rw [hg]; exact Nat.ne_of_lt (blk_lt (g := gb408) (o := .cells #[.int .u8 0, .int .u8 0, .int .u16 0, .int .i64 0] 32 (0, 0)) (by (with_reducible repeat (first | refine blk_drewN ?_ _ | refine blk_drew ?_ | refine blk_alloc ?_ _)); exact BK408.out)) : gb408 ≠ gb412))
                                have n17_ := Aside0.mk ((by rw [hg]; exact Nat.ne_of_gt (blk_lt (g := gb408) (o := .cells #[.int .u8 0, .int .u8 0, .int .u16 0, .int .i64 0] 32 (0, 0)) (by (with_reducible repeat (first | refine blk_drewN ?_ _ | refine blk_drew ?_ | refine blk_alloc ?_ _)); exact BK408.out)) : gb412 ≠ gb408))
                                have n18_ := Aside0.mk ((by rw [hg]; exact Nat.ne_of_lt (blk_lt (g := gb409) (o := .cells #[.int .u8 1, .int .u8 0, .int .u16 0, .int .i64 0] 32 (0, 0)) (by (with_reducible repeat (first | refine blk_drewN ?_ _ | refine blk_drew ?_ | refine blk_alloc ?_ _)); exact BK409.out)) : gb409 ≠ gb412))
                                have n19_ := Aside0.mk ((by rw [hg]; exact Nat.ne_of_gt (blk_lt (g := gb409) (o := .cells #[.int .u8 1, .int .u8 0, .int .u16 0, .int .i64 0] 32 (0, 0)) (by (with_reducible repeat (first | refine blk_drewN ?_ _ | refine blk_drew ?_ | refine blk_alloc ?_ _)); exact BK409.out)) : gb412 ≠ gb409))
                                have n20_ := Aside0.mk ((by rw [hg]; exact Nat.ne_of_lt (blk_lt (g := gb413) (o := .cells #[.int .u8 0, .int .u16 0] 30 (0, 0)) (by (with_reducible repeat (first | refine blk_drewN ?_ _ | refine blk_drew ?_ | refine blk_alloc ?_ _)); exact BK413.out)) : gb413 ≠ gb412))
                                have n21_ := Aside0.mk ((by rw [hg]; exact Nat.ne_of_gt (blk_lt (g := gb413) (o := .cells #[.int .u8 0, .int .u16 0] 30 (0, 0)) (by (with_reducible repeat (first | refine blk_drewN ?_ _ | refine blk_drew ?_ | refine blk_alloc ?_ _)); exact BK413.out)) : gb412 ≠ gb413))
                                clear BK405
                                clear BK406
                                clear BK407
                                clear BK408
                                clear BK409
                                clear BK413
                                clear HB
                                have BK405 := n0_
                                have BK406 := n1_
                                have BK407 := n2_
                                have BK408 := n3_
                                have BK409 := n4_
                                have BK413 := n5_
                                have HB := n6_
                                have BK412 := n7_
                                have GW412 := n8_
                                have GE412 := n9_
                                have NB405_412 := n10_
                                have NB412_405 := n11_
                                have NB406_412 := n12_
                                have NB412_406 := n13_
                                have NB407_412 := n14_
                                have NB412_407 := n15_
                                have NB408_412 := n16_
                                have NB412_408 := n17_
                                have NB409_412 := n18_
                                have NB412_409 := n19_
                                have NB413_412 := n20_
                                have NB412_413 := n21_
                                clear n0_ n1_ n2_ n3_ n4_ n5_ n6_ n7_ n8_ n9_ n10_ n11_ n12_ n13_ n14_ n15_ n16_ n17_ n18_ n19_ n20_ n21_
                                clear hb hbox hg
                                refine hK.out _ _ ⟨(blk_cell BK406.out 0).trans rfl, (blk_cell BK406.out 1).trans rfl, (blk_cell BK406.out 2).trans rfl, (blk_cell BK406.out 3).trans rfl, (blk_cell BK407.out 0).trans rfl, (blk_cell BK407.out 1).trans rfl, (blk_cell BK407.out 2).trans rfl, (blk_cell BK407.out 3).trans rfl⟩ (fun hHeld => ?_)
                                clear hK K
                                refine norm_ (a' := ?_) ?_ ?_
                                rotate_left
                                · show Act.put _ (some 8) _ = _
                                  simp only [Act.put, List.setIfInBounds_toArray, List.set_cons_zero, List.set_cons_succ, i64_w, i32_w]
                                  rfl
                                exact norm_ (by simp only [putAll, Act.put, List.setIfInBounds_toArray, List.set_cons_zero, List.set_cons_succ]) (hCont (gb412, gb413) _ ⟨hHeld, (by (with_reducible repeat (first | refine blk_drewN ?_ _ | refine blk_drew ?_ | refine blk_alloc ?_ _)); exact BK405.out), (by (with_reducible repeat (first | refine blk_drewN ?_ _ | refine blk_drew ?_ | refine blk_alloc ?_ _)); exact BK406.out), (by (with_reducible repeat (first | refine blk_drewN ?_ _ | refine blk_drew ?_ | refine blk_alloc ?_ _)); exact BK407.out), (by (with_reducible repeat (first | refine blk_drewN ?_ _ | refine blk_drew ?_ | refine blk_alloc ?_ _)); exact BK408.out), (by (with_reducible repeat (first | refine blk_drewN ?_ _ | refine blk_drew ?_ | refine blk_alloc ?_ _)); exact BK409.out), (by (with_reducible repeat (first | refine blk_drewN ?_ _ | refine blk_drew ?_ | refine blk_alloc ?_ _)); exact BK412.out), (by (with_reducible repeat (first | refine blk_drewN ?_ _ | refine blk_drew ?_ | refine blk_alloc ?_ _)); exact BK413.out), GW412.out, GE412.out, NB405_412.out, NB412_405.out, NB406_412.out, NB412_406.out, NB407_412.out, NB412_407.out, NB408_412.out, NB412_408.out, NB409_412.out, NB412_409.out, NB413_412.out, NB412_413.out, GW413.out, GE413.out, NB405_413.out, NB413_405.out, NB406_413.out, NB413_406.out, NB407_413.out, NB413_407.out, NB408_413.out, NB413_408.out, NB409_413.out, NB413_409.out, (by repeat (first | (with_reducible first | exact HB.out | apply below_alloc | apply pw_below_drewN | apply below_drew1 | refine below_set ?_ GE405.out | refine below_set ?_ GE406.out | refine below_set ?_ GE407.out | refine below_set ?_ GE408.out | refine below_set ?_ GE409.out | refine below_set ?_ GE413.out | refine below_set ?_ GE412.out) | exact HB.out))⟩)
                            rintro ⟨gb412, gb413⟩ w143 ⟨hS_, h0_, h1_, h2_, h3_, h4_, h5_, h6_, h7_, h8_, h9_, h10_, h11_, h12_, h13_, h14_, h15_, h16_, h17_, h18_, h19_, h20_, h21_, h22_, h23_, h24_, h25_, h26_, h27_, h28_, h29_, h30_, h31_, h32_, h33_⟩
                            have n0_ : Aside0 (w143.heap[gb405]? = some (.cells #[.slice A0_0 l0_0.length c0_0, .slice A0_1 l0_1.length c0_1, .slice A0_2 l0_2.length c0_2, .slice A0_3 l0_3.length c0_3] 54 (0, 0))) := ⟨h0_⟩
                            have n1_ : Aside0 (w143.heap[gb406]? = some (.cells #[.int .u8 a1_0, .int .u8 a1_1, .int .u16 a1_2, .int .i64 a1_3] 32 (0, 0))) := ⟨h1_⟩
                            have n2_ : Aside0 (w143.heap[gb407]? = some (.cells #[.int .u8 a2_0, .int .u8 a2_1, .int .u16 a2_2, .int .i64 a2_3] 32 (0, 0))) := ⟨h2_⟩
                            have n3_ : Aside0 (w143.heap[gb408]? = some (.cells #[.int .u8 0, .int .u8 0, .int .u16 0, .int .i64 0] 32 (0, 0))) := ⟨h3_⟩
                            have n4_ : Aside0 (w143.heap[gb409]? = some (.cells #[.int .u8 1, .int .u8 0, .int .u16 0, .int .i64 0] 32 (0, 0))) := ⟨h4_⟩
                            have n5_ : Aside0 (w143.heap[gb412]? = some (.cells #[.int .u8 0, .int .u16 0] 30 (0, 0))) := ⟨h5_⟩
                            have n6_ : Aside0 (w143.heap[gb413]? = some (.cells #[.int .u8 0, .int .u16 0] 30 (0, 0))) := ⟨h6_⟩
                            have n7_ : Aside0 (w.heap.size ≤ gb412) := ⟨h7_⟩
                            have n8_ : Aside0 (w.heap.size ≤ gb412) := ⟨h8_⟩
                            have n9_ : Aside0 (gb405 ≠ gb412) := ⟨h9_⟩
                            have n10_ : Aside0 (gb412 ≠ gb405) := ⟨h10_⟩
                            have n11_ : Aside0 (gb406 ≠ gb412) := ⟨h11_⟩
                            have n12_ : Aside0 (gb412 ≠ gb406) := ⟨h12_⟩
                            have n13_ : Aside0 (gb407 ≠ gb412) := ⟨h13_⟩
                            have n14_ : Aside0 (gb412 ≠ gb407) := ⟨h14_⟩
                            have n15_ : Aside0 (gb408 ≠ gb412) := ⟨h15_⟩
                            have n16_ : Aside0 (gb412 ≠ gb408) := ⟨h16_⟩
                            have n17_ : Aside0 (gb409 ≠ gb412) := ⟨h17_⟩
                            have n18_ : Aside0 (gb412 ≠ gb409) := ⟨h18_⟩
                            have n19_ : Aside0 (gb413 ≠ gb412) := ⟨h19_⟩
                            have n20_ : Aside0 (gb412 ≠ gb413) := ⟨h20_⟩
                            have n21_ : Aside0 (w.heap.size ≤ gb413) := ⟨h21_⟩
                            have n22_ : Aside0 (w.heap.size ≤ gb413) := ⟨h22_⟩
                            have n23_ : Aside0 (gb405 ≠ gb413) := ⟨h23_⟩
                            have n24_ : Aside0 (gb413 ≠ gb405) := ⟨h24_⟩
                            have n25_ : Aside0 (gb406 ≠ gb413) := ⟨h25_⟩
                            have n26_ : Aside0 (gb413 ≠ gb406) := ⟨h26_⟩
                            have n27_ : Aside0 (gb407 ≠ gb413) := ⟨h27_⟩
                            have n28_ : Aside0 (gb413 ≠ gb407) := ⟨h28_⟩
                            have n29_ : Aside0 (gb408 ≠ gb413) := ⟨h29_⟩
                            have n30_ : Aside0 (gb413 ≠ gb408) := ⟨h30_⟩
                            have n31_ : Aside0 (gb409 ≠ gb413) := ⟨h31_⟩
                            have n32_ : Aside0 (gb413 ≠ gb409) := ⟨h32_⟩
                            have n33_ : Aside0 (Below w.heap.size w w143) := ⟨h33_⟩
                            clear BK405
                            clear BK406
                            clear BK407
                            clear BK408
                            clear BK409
                            clear HB
                            clear h0_ h1_ h2_ h3_ h4_ h5_ h6_ h7_ h8_ h9_ h10_ h11_ h12_ h13_ h14_ h15_ h16_ h17_ h18_ h19_ h20_ h21_ h22_ h23_ h24_ h25_ h26_ h27_ h28_ h29_ h30_ h31_ h32_ h33_
                            have BK405 := n0_
                            have BK406 := n1_
                            have BK407 := n2_
                            have BK408 := n3_
                            have BK409 := n4_
                            have BK412 := n5_
                            have BK413 := n6_
                            have GW412 := n7_
                            have GE412 := n8_
                            have NB405_412 := n9_
                            have NB412_405 := n10_
                            have NB406_412 := n11_
                            have NB412_406 := n12_
                            have NB407_412 := n13_
                            have NB412_407 := n14_
                            have NB408_412 := n15_
                            have NB412_408 := n16_
                            have NB409_412 := n17_
                            have NB412_409 := n18_
                            have NB413_412 := n19_
                            have NB412_413 := n20_
                            have GW413 := n21_
                            have GE413 := n22_
                            have NB405_413 := n23_
                            have NB413_405 := n24_
                            have NB406_413 := n25_
                            have NB413_406 := n26_
                            have NB407_413 := n27_
                            have NB413_407 := n28_
                            have NB408_413 := n29_
                            have NB413_408 := n30_
                            have NB409_413 := n31_
                            have NB413_409 := n32_
                            have HB := n33_
                            clear n0_ n1_ n2_ n3_ n4_ n5_ n6_ n7_ n8_ n9_ n10_ n11_ n12_ n13_ n14_ n15_ n16_ n17_ n18_ n19_ n20_ n21_ n22_ n23_ n24_ n25_ n26_ n27_ n28_ n29_ n30_ n31_ n32_ n33_
                            have hHeld : w143.cell? ⟨gb406, 0, none⟩ = some (.int .u8 a1_0) ∧ w143.cell? ⟨gb406, 1, none⟩ = some (.int .u8 a1_1) ∧ w143.cell? ⟨gb406, 2, none⟩ = some (.int .u16 a1_2) ∧ w143.cell? ⟨gb406, 3, none⟩ = some (.int .i64 a1_3) ∧ w143.cell? ⟨gb407, 0, none⟩ = some (.int .u8 a2_0) ∧ w143.cell? ⟨gb407, 1, none⟩ = some (.int .u8 a2_1) ∧ w143.cell? ⟨gb407, 2, none⟩ = some (.int .u16 a2_2) ∧ w143.cell? ⟨gb407, 3, none⟩ = some (.int .i64 a2_3) := hS_
                            refine norm_ (a' := ?_) ?_ ?_
                            rotate_left
                            · simp only [putAll, Act.put, List.setIfInBounds_toArray, List.set_cons_zero, List.set_cons_succ]
                              rfl
                            refine one_ (i := 6) (N := none) #[true, true, true, true, true, true, true, false] rfl rfl (one_of HT_.out (by kernel_rfl)) (by decide) (fun K hK => ?_)
                            have hs144 : w143.cell? ⟨gb412, 0, none⟩ = some (.int .u8 0) := (blk_cell BK412.out 0).trans rfl
                            have hfs144 := blk_frozen BK412.out 0
                            have hns144_0 := NB405_412.out
                            have hns144_1 := NB406_412.out
                            have hns144_2 := NB407_412.out
                            have hns144_3 := NB408_412.out
                            have hns144_4 := NB409_412.out
                            have hns144_6 := NB413_412.out
                            have hms144_0 := NB412_405.out
                            have hms144_1 := NB412_406.out
                            have hms144_2 := NB412_407.out
                            have hms144_3 := NB412_408.out
                            have hms144_4 := NB412_409.out
                            have hms144_6 := NB412_413.out
                            have hs145 : w143.cell? ⟨gb412, 1, none⟩ = some (.int .u16 0) := (blk_cell BK412.out 1).trans rfl
                            have hfs145 := blk_frozen BK412.out 1
                            have hns145_0 := NB405_412.out
                            have hns145_1 := NB406_412.out
                            have hns145_2 := NB407_412.out
                            have hns145_3 := NB408_412.out
                            have hns145_4 := NB409_412.out
                            have hns145_6 := NB413_412.out
                            have hms145_0 := NB412_405.out
                            have hms145_1 := NB412_406.out
                            have hms145_2 := NB412_407.out
                            have hms145_3 := NB412_408.out
                            have hms145_4 := NB412_409.out
                            have hms145_6 := NB412_413.out
                            refine skip_ (w1 := ?_) (by rfl) rfl ?_ ?_
                            rotate_left
                            · go_simp
                              rfl
                            refine hK.out _ _ ⟨((cell_far (p := ⟨gb412, _, none⟩) NB406_412.out _).trans (((cell_far (p := ⟨gb412, _, none⟩) NB406_412.out _).trans (hHeld.1)))), ((cell_far (p := ⟨gb412, _, none⟩) NB406_412.out _).trans (((cell_far (p := ⟨gb412, _, none⟩) NB406_412.out _).trans (hHeld.2.1)))), ((cell_far (p := ⟨gb412, _, none⟩) NB406_412.out _).trans (((cell_far (p := ⟨gb412, _, none⟩) NB406_412.out _).trans (hHeld.2.2.1)))), ((cell_far (p := ⟨gb412, _, none⟩) NB406_412.out _).trans (((cell_far (p := ⟨gb412, _, none⟩) NB406_412.out _).trans (hHeld.2.2.2.1)))), ((cell_far (p := ⟨gb412, _, none⟩) NB407_412.out _).trans (((cell_far (p := ⟨gb412, _, none⟩) NB407_412.out _).trans (hHeld.2.2.2.2.1)))), ((cell_far (p := ⟨gb412, _, none⟩) NB407_412.out _).trans (((cell_far (p := ⟨gb412, _, none⟩) NB407_412.out _).trans (hHeld.2.2.2.2.2.1)))), ((cell_far (p := ⟨gb412, _, none⟩) NB407_412.out _).trans (((cell_far (p := ⟨gb412, _, none⟩) NB407_412.out _).trans (hHeld.2.2.2.2.2.2.1)))), ((cell_far (p := ⟨gb412, _, none⟩) NB407_412.out _).trans (((cell_far (p := ⟨gb412, _, none⟩) NB407_412.out _).trans (hHeld.2.2.2.2.2.2.2))))⟩ (fun hHeld => ?_)
                            clear hK K
                            refine one_ (i := 7) (N := none) #[true, true, true, true, true, true, true, true] rfl rfl (one_of HT_.out (by kernel_rfl)) (by decide) (fun K hK => ?_)
                            have hs146 : w143.cell? ⟨gb413, 0, none⟩ = some (.int .u8 0) := (blk_cell BK413.out 0).trans rfl
                            have hfs146 := blk_frozen BK413.out 0
                            have hns146_0 := NB405_413.out
                            have hns146_1 := NB406_413.out
                            have hns146_2 := NB407_413.out
                            have hns146_3 := NB408_413.out
                            have hns146_4 := NB409_413.out
                            have hns146_5 := NB412_413.out
                            have hms146_0 := NB413_405.out
                            have hms146_1 := NB413_406.out
                            have hms146_2 := NB413_407.out
                            have hms146_3 := NB413_408.out
                            have hms146_4 := NB413_409.out
                            have hms146_5 := NB413_412.out
                            have hs147 : w143.cell? ⟨gb413, 1, none⟩ = some (.int .u16 0) := (blk_cell BK413.out 1).trans rfl
                            have hfs147 := blk_frozen BK413.out 1
                            have hns147_0 := NB405_413.out
                            have hns147_1 := NB406_413.out
                            have hns147_2 := NB407_413.out
                            have hns147_3 := NB408_413.out
                            have hns147_4 := NB409_413.out
                            have hns147_5 := NB412_413.out
                            have hms147_0 := NB413_405.out
                            have hms147_1 := NB413_406.out
                            have hms147_2 := NB413_407.out
                            have hms147_3 := NB413_408.out
                            have hms147_4 := NB413_409.out
                            have hms147_5 := NB413_412.out
                            refine skip_ (w1 := ?_) (by rfl) rfl ?_ ?_
                            rotate_left
                            · go_simp
                              rfl
                            refine hK.out _ _ ⟨((cell_far (p := ⟨gb413, _, none⟩) NB406_413.out _).trans (((cell_far (p := ⟨gb413, _, none⟩) NB406_413.out _).trans (hHeld.1)))), ((cell_far (p := ⟨gb413, _, none⟩) NB406_413.out _).trans (((cell_far (p := ⟨gb413, _, none⟩) NB406_413.out _).trans (hHeld.2.1)))), ((cell_far (p := ⟨gb413, _, none⟩) NB406_413.out _).trans (((cell_far (p := ⟨gb413, _, none⟩) NB406_413.out _).trans (hHeld.2.2.1)))), ((cell_far (p := ⟨gb413, _, none⟩) NB406_413.out _).trans (((cell_far (p := ⟨gb413, _, none⟩) NB406_413.out _).trans (hHeld.2.2.2.1)))), ((cell_far (p := ⟨gb413, _, none⟩) NB407_413.out _).trans (((cell_far (p := ⟨gb413, _, none⟩) NB407_413.out _).trans (hHeld.2.2.2.2.1)))), ((cell_far (p := ⟨gb413, _, none⟩) NB407_413.out _).trans (((cell_far (p := ⟨gb413, _, none⟩) NB407_413.out _).trans (hHeld.2.2.2.2.2.1)))), ((cell_far (p := ⟨gb413, _, none⟩) NB407_413.out _).trans (((cell_far (p := ⟨gb413, _, none⟩) NB407_413.out _).trans (hHeld.2.2.2.2.2.2.1)))), ((cell_far (p := ⟨gb413, _, none⟩) NB407_413.out _).trans (((cell_far (p := ⟨gb413, _, none⟩) NB407_413.out _).trans (hHeld.2.2.2.2.2.2.2))))⟩ (fun hHeld => ?_)
                            clear hK K
                            refine done_ (done_of HT_.out (by kernel_rfl)) ?_
                            have hnb148 := NB412_405.out
                            have hnc148 := NB405_412.out
                            have hnb149 := NB412_406.out
                            have hnc149 := NB406_412.out
                            have hnb150 := NB412_407.out
                            have hnc150 := NB407_412.out
                            have hnb151 := NB412_408.out
                            have hnc151 := NB408_412.out
                            have hnb152 := NB412_409.out
                            have hnc152 := NB409_412.out
                            have hnb153 := NB412_413.out
                            have hnc153 := NB413_412.out
                            have hcz154_0 : w143.cell? ⟨gb412, 0, none⟩ = some (.int .u8 0) := (blk_cell BK412.out 0).trans rfl
                            have hcz154_1 : w143.cell? ⟨gb412, 1, none⟩ = some (.int .u16 0) := (blk_cell BK412.out 1).trans rfl
                            have hfz154_0 := blk_frozen BK412.out 0
                            have hfz154_1 := blk_frozen BK412.out 1
                            have hnb155 := NB413_405.out
                            have hnc155 := NB405_413.out
                            have hnb156 := NB413_406.out
                            have hnc156 := NB406_413.out
                            have hnb157 := NB413_407.out
                            have hnc157 := NB407_413.out
                            have hnb158 := NB413_408.out
                            have hnc158 := NB408_413.out
                            have hnb159 := NB413_409.out
                            have hnc159 := NB409_413.out
                            have hcz160_0 : w143.cell? ⟨gb413, 0, none⟩ = some (.int .u8 0) := (blk_cell BK413.out 0).trans rfl
                            have hcz160_1 : w143.cell? ⟨gb413, 1, none⟩ = some (.int .u16 0) := (blk_cell BK413.out 1).trans rfl
                            have hfz160_0 := blk_frozen BK413.out 0
                            have hfz160_1 := blk_frozen BK413.out 1
                            have hnb161 := NB405_408.out
                            have hnc161 := NB408_405.out
                            have hnb162 := NB405_409.out
                            have hnc162 := NB409_405.out
                            have hcz163_0 : w143.cell? ⟨gb405, 0, none⟩ = some (.slice A0_0 l0_0.length c0_0) := (blk_cell BK405.out 0).trans rfl
                            have hcz163_1 : w143.cell? ⟨gb405, 1, none⟩ = some (.slice A0_1 l0_1.length c0_1) := (blk_cell BK405.out 1).trans rfl
                            have hcz163_2 : w143.cell? ⟨gb405, 2, none⟩ = some (.slice A0_2 l0_2.length c0_2) := (blk_cell BK405.out 2).trans rfl
                            have hcz163_3 : w143.cell? ⟨gb405, 3, none⟩ = some (.slice A0_3 l0_3.length c0_3) := (blk_cell BK405.out 3).trans rfl
                            have hfz163_0 := blk_frozen BK405.out 0
                            have hfz163_1 := blk_frozen BK405.out 1
                            have hfz163_2 := blk_frozen BK405.out 2
                            have hfz163_3 := blk_frozen BK405.out 3
                            try go_wp2_with (first | ((with_reducible refine gate_callee (f := 30) rfl ?_); refine goesL_ (some 75) rfl rfl Try.func30 (by kernel_rfl) rfl #[.agg #[.slice A0_0 l0_0.length c0_0, .slice A0_1 l0_1.length c0_1, .slice A0_2 l0_2.length c0_2, .slice A0_3 l0_3.length c0_3], .int .i64 (wrap64 (a1_2)), .int .i64 (wrap64 (a2_2))] rfl (by (try simp only [List.map_toArray, List.map_cons, List.map_nil]); first | done | rfl | (simp only [List.length_drop, List.length_take]; rfl)) ?_; (with_reducible refine (hier_Common.calls _ _ l0_0 _ _ l0_1 _ _ l0_2 _ _ l0_3 (wrap64 (a1_2)) (wrap64 (a2_2)) t414 _ ?side1 ?side2 ?side3 ?side4 ?side5 ?side6 ?side7 ?side8 A130.out).mono ?_); (case side1 => exact Kd.C_below HR0_0.out (by repeat (first | (with_reducible first | exact HB.out | apply below_alloc | apply pw_below_drewN | apply below_drew1 | refine below_set ?_ GE405.out | refine below_set ?_ GE406.out | refine below_set ?_ GE407.out | refine below_set ?_ GE408.out | refine below_set ?_ GE409.out | refine below_set ?_ GE412.out | refine below_set ?_ GE413.out) | exact HB.out))); (case side2 => exact HC0_0.out); (case side3 => exact Kd.C_below HR0_1.out (by repeat (first | (with_reducible first | exact HB.out | apply below_alloc | apply pw_below_drewN | apply below_drew1 | refine below_set ?_ GE405.out | refine below_set ?_ GE406.out | refine below_set ?_ GE407.out | refine below_set ?_ GE408.out | refine below_set ?_ GE409.out | refine below_set ?_ GE412.out | refine below_set ?_ GE413.out) | exact HB.out))); (case side4 => exact HC0_1.out); (case side5 => exact Kd.C_below HR0_2.out (by repeat (first | (with_reducible first | exact HB.out | apply below_alloc | apply pw_below_drewN | apply below_drew1 | refine below_set ?_ GE405.out | refine below_set ?_ GE406.out | refine below_set ?_ GE407.out | refine below_set ?_ GE408.out | refine below_set ?_ GE409.out | refine below_set ?_ GE412.out | refine below_set ?_ GE413.out) | exact HB.out))); (case side6 => exact HC0_2.out); (case side7 => exact Kd.C_below HR0_3.out (by repeat (first | (with_reducible first | exact HB.out | apply below_alloc | apply pw_below_drewN | apply below_drew1 | refine below_set ?_ GE405.out | refine below_set ?_ GE406.out | refine below_set ?_ GE407.out | refine below_set ?_ GE408.out | refine below_set ?_ GE409.out | refine below_set ?_ GE412.out | refine below_set ?_ GE413.out) | exact HB.out))); (case side8 => exact HC0_3.out); rintro e w164 ⟨rfl, hb⟩; refine ⟨_, rfl, ?_⟩; have n0_ := Aside0.mk (blk_below (g := gb405) (o := .cells #[.slice A0_0 l0_0.length c0_0, .slice A0_1 l0_1.length c0_1, .slice A0_2 l0_2.length c0_2, .slice A0_3 l0_3.length c0_3] 54 (0, 0)) (by (with_reducible repeat (first | refine blk_drewN ?_ _ | refine blk_drew ?_ | refine blk_alloc ?_ _)); refine blk_far ?_ NB405_413.out _; (with_reducible repeat (first | refine blk_drewN ?_ _ | refine blk_drew ?_ | refine blk_alloc ?_ _)); refine blk_far ?_ NB405_413.out _; (with_reducible repeat (first | refine blk_drewN ?_ _ | refine blk_drew ?_ | refine blk_alloc ?_ _)); refine blk_far ?_ NB405_412.out _; (with_reducible repeat (first | refine blk_drewN ?_ _ | refine blk_drew ?_ | refine blk_alloc ?_ _)); refine blk_far ?_ NB405_412.out _; (with_reducible repeat (first | refine blk_drewN ?_ _ | refine blk_drew ?_ | refine blk_alloc ?_ _)); exact BK405.out) hb); have n1_ := Aside0.mk (blk_below (g := gb406) (o := .cells #[.int .u8 a1_0, .int .u8 a1_1, .int .u16 a1_2, .int .i64 a1_3] 32 (0, 0)) (by (with_reducible repeat (first | refine blk_drewN ?_ _ | refine blk_drew ?_ | refine blk_alloc ?_ _)); refine blk_far ?_ NB406_413.out _; (with_reducible repeat (first | refine blk_drewN ?_ _ | refine blk_drew ?_ | refine blk_alloc ?_ _)); refine blk_far ?_ NB406_413.out _; (with_reducible repeat (first | refine blk_drewN ?_ _ | refine blk_drew ?_ | refine blk_alloc ?_ _)); refine blk_far ?_ NB406_412.out _; (with_reducible repeat (first | refine blk_drewN ?_ _ | refine blk_drew ?_ | refine blk_alloc ?_ _)); refine blk_far ?_ NB406_412.out _; (with_reducible repeat (first | refine blk_drewN ?_ _ | refine blk_drew ?_ | refine blk_alloc ?_ _)); exact BK406.out) hb); have n2_ := Aside0.mk (blk_below (g := gb407) (o := .cells #[.int .u8 a2_0, .int .u8 a2_1, .int .u16 a2_2, .int .i64 a2_3] 32 (0, 0)) (by (with_reducible repeat (first | refine blk_drewN ?_ _ | refine blk_drew ?_ | refine blk_alloc ?_ _)); refine blk_far ?_ NB407_413.out _; (with_reducible repeat (first | refine blk_drewN ?_ _ | refine blk_drew ?_ | refine blk_alloc ?_ _)); refine blk_far ?_ NB407_413.out _; (with_reducible repeat (first | refine blk_drewN ?_ _ | refine blk_drew ?_ | refine blk_alloc ?_ _)); refine blk_far ?_ NB407_412.out _; (with_reducible repeat (first | refine blk_drewN ?_ _ | refine blk_drew ?_ | refine blk_alloc ?_ _)); refine blk_far ?_ NB407_412.out _; (with_reducible repeat (first | refine blk_drewN ?_ _ | refine blk_drew ?_ | refine blk_alloc ?_ _)); exact BK407.out) hb); have n3_ := Aside0.mk (blk_below (g := gb408) (o := .cells #[.int .u8 0, .int .u8 0, .int .u16 0, .int .i64 0] 32 (0, 0)) (by (with_reducible repeat (first | refine blk_drewN ?_ _ | refine blk_drew ?_ | refine blk_alloc ?_ _)); refine blk_far ?_ NB408_413.out _; (with_reducible repeat (first | refine blk_drewN ?_ _ | refine blk_drew ?_ | refine blk_alloc ?_ _)); refine blk_far ?_ NB408_413.out _; (with_reducible repeat (first | refine blk_drewN ?_ _ | refine blk_drew ?_ | refine blk_alloc ?_ _)); refine blk_far ?_ NB408_412.out _; (with_reducible repeat (first | refine blk_drewN ?_ _ | refine blk_drew ?_ | refine blk_alloc ?_ _)); refine blk_far ?_ NB408_412.out _; (with_reducible repeat (first | refine blk_drewN ?_ _ | refine blk_drew ?_ | refine blk_alloc ?_ _)); exact BK408.out) hb); have n4_ := Aside0.mk (blk_below (g := gb409) (o := .cells #[.int .u8 1, .int .u8 0, .int .u16 0, .int .i64 0] 32 (0, 0)) (by (with_reducible repeat (first | refine blk_drewN ?_ _ | refine blk_drew ?_ | refine blk_alloc ?_ _)); refine blk_far ?_ NB409_413.out _; (with_reducible repeat (first | refine blk_drewN ?_ _ | refine blk_drew ?_ | refine blk_alloc ?_ _)); refine blk_far ?_ NB409_413.out _; (with_reducible repeat (first | refine blk_drewN ?_ _ | refine blk_drew ?_ | refine blk_alloc ?_ _)); refine blk_far ?_ NB409_412.out _; (with_reducible repeat (first | refine blk_drewN ?_ _ | refine blk_drew ?_ | refine blk_alloc ?_ _)); refine blk_far ?_ NB409_412.out _; (with_reducible repeat (first | refine blk_drewN ?_ _ | refine blk_drew ?_ | refine blk_alloc ?_ _)); exact BK409.out) hb); have n5_ := Aside0.mk (blk_below (g := gb412) (o := .cells #[.int .u8 a1_1, .int .u16 a1_2] 30 (0, 0)) (by (with_reducible repeat (first | refine blk_drewN ?_ _ | refine blk_drew ?_ | refine blk_alloc ?_ _)); refine blk_far ?_ NB412_413.out _; (with_reducible repeat (first | refine blk_drewN ?_ _ | refine blk_drew ?_ | refine blk_alloc ?_ _)); refine blk_far ?_ NB412_413.out _; (with_reducible repeat (first | refine blk_drewN ?_ _ | refine blk_drew ?_ | refine blk_alloc ?_ _)); refine blk_put (cs := #[.int .u8 a1_1, .int .u16 0]) ?_ 1 _ rfl; (with_reducible repeat (first | refine blk_drewN ?_ _ | refine blk_drew ?_ | refine blk_alloc ?_ _)); refine blk_put (cs := #[.int .u8 0, .int .u16 0]) ?_ 0 _ rfl; (with_reducible repeat (first | refine blk_drewN ?_ _ | refine blk_drew ?_ | refine blk_alloc ?_ _)); exact BK412.out) hb); have n6_ := Aside0.mk (blk_below (g := gb413) (o := .cells #[.int .u8 a2_1, .int .u16 a2_2] 30 (0, 0)) (by (with_reducible repeat (first | refine blk_drewN ?_ _ | refine blk_drew ?_ | refine blk_alloc ?_ _)); refine blk_put (cs := #[.int .u8 a2_1, .int .u16 0]) ?_ 1 _ rfl; (with_reducible repeat (first | refine blk_drewN ?_ _ | refine blk_drew ?_ | refine blk_alloc ?_ _)); refine blk_put (cs := #[.int .u8 0, .int .u16 0]) ?_ 0 _ rfl; (with_reducible repeat (first | refine blk_drewN ?_ _ | refine blk_drew ?_ | refine blk_alloc ?_ _)); refine blk_far ?_ NB413_412.out _; (with_reducible repeat (first | refine blk_drewN ?_ _ | refine blk_drew ?_ | refine blk_alloc ?_ _)); refine blk_far ?_ NB413_412.out _; (with_reducible repeat (first | refine blk_drewN ?_ _ | refine blk_drew ?_ | refine blk_alloc ?_ _)); exact BK413.out) hb); have n7_ := Aside0.mk (below_step (by repeat (first | (with_reducible first | exact HB.out | apply below_alloc | apply pw_below_drewN | apply below_drew1 | refine below_set ?_ GE405.out | refine below_set ?_ GE406.out | refine below_set ?_ GE407.out | refine below_set ?_ GE408.out | refine below_set ?_ GE409.out | refine below_set ?_ GE412.out | refine below_set ?_ GE413.out) | exact HB.out)) hb); clear BK405; clear BK406; clear BK407; clear BK408; clear BK409; clear BK412; clear BK413; clear HB; have BK405 := n0_; have BK406 := n1_; have BK407 := n2_; have BK408 := n3_; have BK409 := n4_; have BK412 := n5_; have BK413 := n6_; have HB := n7_; clear n0_ n1_ n2_ n3_ n4_ n5_ n6_ n7_; (try clear hb); (try clear hb2); (try clear hk); (try clear hi); have hcz165_0 : w164.cell? ⟨gb412, 0, none⟩ = some (.int .u8 a1_1) := (blk_cell BK412.out 0).trans rfl; have hcz165_1 : w164.cell? ⟨gb412, 1, none⟩ = some (.int .u16 a1_2) := (blk_cell BK412.out 1).trans rfl; have hfz165_0 := blk_frozen BK412.out 0; have hfz165_1 := blk_frozen BK412.out 1; have hnb166 := NB408_409.out; have hnc166 := NB409_408.out; have hcz167_0 : w164.cell? ⟨gb408, 0, none⟩ = some (.int .u8 0) := (blk_cell BK408.out 0).trans rfl; have hcz167_1 : w164.cell? ⟨gb408, 1, none⟩ = some (.int .u8 0) := (blk_cell BK408.out 1).trans rfl; have hcz167_2 : w164.cell? ⟨gb408, 2, none⟩ = some (.int .u16 0) := (blk_cell BK408.out 2).trans rfl; have hcz167_3 : w164.cell? ⟨gb408, 3, none⟩ = some (.int .i64 0) := (blk_cell BK408.out 3).trans rfl; have hfz167_0 := blk_frozen BK408.out 0; have hfz167_1 := blk_frozen BK408.out 1; have hfz167_2 := blk_frozen BK408.out 2; have hfz167_3 := blk_frozen BK408.out 3))
                            refine bodyPost_ret (results_cell_row rfl _ _ gb408 32 #[.int .u8 4, .int .u8 a1_1, .int .u16 (IntKind.u16.wrap (t414)), .int .i64 0] (0, 0) _ rfl (by (with_reducible repeat (first | refine blk_drewN ?_ _ | refine blk_drew ?_ | refine blk_alloc ?_ _)); refine blk_put (cs := #[.int .u8 4, .int .u8 a1_1, .int .u16 (IntKind.u16.wrap (t414)), .int .i64 0]) ?_ 3 _ rfl; (with_reducible repeat (first | refine blk_drewN ?_ _ | refine blk_drew ?_ | refine blk_alloc ?_ _)); refine blk_put (cs := #[.int .u8 4, .int .u8 a1_1, .int .u16 0, .int .i64 0]) ?_ 2 _ rfl; (with_reducible repeat (first | refine blk_drewN ?_ _ | refine blk_drew ?_ | refine blk_alloc ?_ _)); refine blk_put (cs := #[.int .u8 4, .int .u8 0, .int .u16 0, .int .i64 0]) ?_ 1 _ rfl; (with_reducible repeat (first | refine blk_drewN ?_ _ | refine blk_drew ?_ | refine blk_alloc ?_ _)); refine blk_put (cs := #[.int .u8 0, .int .u8 0, .int .u16 0, .int .i64 0]) ?_ 0 _ rfl; (with_reducible repeat (first | refine blk_drewN ?_ _ | refine blk_drew ?_ | refine blk_alloc ?_ _)); exact BK408.out) Try.underlying32 rfl (by kernel_rfl)) rfl ?_
                            exact ⟨by first | rfl | (simp [errW_none, errW_some] <;> rfl) | (simp [*, errW_none, errW_some] <;> rfl), by repeat (first | (with_reducible first | exact HB.out | apply below_alloc | apply pw_below_drewN | apply below_drew1 | refine below_set ?_ GE405.out | refine below_set ?_ GE406.out | refine below_set ?_ GE407.out | refine below_set ?_ GE408.out | refine below_set ?_ GE409.out | refine below_set ?_ GE412.out | refine below_set ?_ GE413.out) | exact HB.out)⟩
                          · rw [if_neg c129] at H
                            have c129b0 : (a1_1 == a2_1) = false := beq_eq_false_iff_ne.mpr c129
                            have c129b1 : (a1_1 != a2_1) = true := bne_iff_ne.mpr c129
                            replace H := Option.bind_eq_some_iff.mp H
                            obtain ⟨⟨t415, t416, t417, t418⟩, A1680, H⟩ := H
                            replace H : (some (t415, t416, t417, t418)) = some (r1, r2, r3, r4) := H
                            have A168 := Aside0.mk A1680
                            clear A1680
                            simp only [Option.some.injEq, Prod.mk.injEq] at H
                            obtain ⟨rfl, rfl, rfl, rfl⟩ := H
                            have hnb169 := NB406_405.out
                            have hnc169 := NB405_406.out
                            have hnb170 := NB406_407.out
                            have hnc170 := NB407_406.out
                            have hnb171 := NB406_408.out
                            have hnc171 := NB408_406.out
                            have hnb172 := NB406_409.out
                            have hnc172 := NB409_406.out
                            have hcz173_0 : wc.cell? ⟨gb406, 0, none⟩ = some (.int .u8 a1_0) := (blk_cell BK406.out 0).trans rfl
                            have hcz173_1 : wc.cell? ⟨gb406, 1, none⟩ = some (.int .u8 a1_1) := (blk_cell BK406.out 1).trans rfl
                            have hcz173_2 : wc.cell? ⟨gb406, 2, none⟩ = some (.int .u16 a1_2) := (blk_cell BK406.out 2).trans rfl
                            have hcz173_3 : wc.cell? ⟨gb406, 3, none⟩ = some (.int .i64 a1_3) := (blk_cell BK406.out 3).trans rfl
                            have hfz173_0 := blk_frozen BK406.out 0
                            have hfz173_1 := blk_frozen BK406.out 1
                            have hfz173_2 := blk_frozen BK406.out 2
                            have hfz173_3 := blk_frozen BK406.out 3
                            have hnb174 := NB407_405.out
                            have hnc174 := NB405_407.out
                            have hnb175 := NB407_408.out
                            have hnc175 := NB408_407.out
                            have hnb176 := NB407_409.out
                            have hnc176 := NB409_407.out
                            have hcz177_0 : wc.cell? ⟨gb407, 0, none⟩ = some (.int .u8 a2_0) := (blk_cell BK407.out 0).trans rfl
                            have hcz177_1 : wc.cell? ⟨gb407, 1, none⟩ = some (.int .u8 a2_1) := (blk_cell BK407.out 1).trans rfl
                            have hcz177_2 : wc.cell? ⟨gb407, 2, none⟩ = some (.int .u16 a2_2) := (blk_cell BK407.out 2).trans rfl
                            have hcz177_3 : wc.cell? ⟨gb407, 3, none⟩ = some (.int .i64 a2_3) := (blk_cell BK407.out 3).trans rfl
                            have hfz177_0 := blk_frozen BK407.out 0
                            have hfz177_1 := blk_frozen BK407.out 1
                            have hfz177_2 := blk_frozen BK407.out 2
                            have hfz177_3 := blk_frozen BK407.out 3
                            try go_wp2
                            have n0_ := Aside0.mk (blk_drew BK405.out)
                            have n1_ := Aside0.mk (blk_drew BK406.out)
                            have n2_ := Aside0.mk (blk_drew BK407.out)
                            have n3_ := Aside0.mk (blk_drew BK408.out)
                            have n4_ := Aside0.mk (blk_drew BK409.out)
                            have n5_ := Aside0.mk (below_drew1 HB.out)
                            clear BK405
                            clear BK406
                            clear BK407
                            clear BK408
                            clear BK409
                            clear HB
                            have BK405 := n0_
                            have BK406 := n1_
                            have BK407 := n2_
                            have BK408 := n3_
                            have BK409 := n4_
                            have HB := n5_
                            clear n0_ n1_ n2_ n3_ n4_ n5_
                            refine start_ (n := 8) (S := fun w' => w'.cell? ⟨gb406, 0, none⟩ = some (.int .u8 a1_0) ∧ w'.cell? ⟨gb406, 1, none⟩ = some (.int .u8 a1_1) ∧ w'.cell? ⟨gb406, 2, none⟩ = some (.int .u16 a1_2) ∧ w'.cell? ⟨gb406, 3, none⟩ = some (.int .i64 a1_3) ∧ w'.cell? ⟨gb407, 0, none⟩ = some (.int .u8 a2_0) ∧ w'.cell? ⟨gb407, 1, none⟩ = some (.int .u8 a2_1) ∧ w'.cell? ⟨gb407, 2, none⟩ = some (.int .u16 a2_2) ∧ w'.cell? ⟨gb407, 3, none⟩ = some (.int .i64 a2_3)) (ds := []) #[false, false, false, false, false, false, false, false] (by kernel_rfl) rfl rfl ⟨(blk_cell BK406.out 0).trans rfl, (blk_cell BK406.out 1).trans rfl, (blk_cell BK406.out 2).trans rfl, (blk_cell BK406.out 3).trans rfl, (blk_cell BK407.out 0).trans rfl, (blk_cell BK407.out 1).trans rfl, (blk_cell BK407.out 2).trans rfl, (blk_cell BK407.out 3).trans rfl⟩ (fun hHeld => ?_); refine with_tabW vals_Join.tab12 vals_Join.bits12 (fun HT_ HW_ => ?_)
                            generalize wc.drew = w178 at BK405 BK406 BK407 BK408 BK409 HB hHeld ⊢
                            refine pure_ (i := 0) (N := some 58) (v := ?_) (a' := ?_) #[true, false, false, false, false, false, false, false] rfl rfl (any_of HT_.out (by kernel_rfl)) (fun _ _ _ h => h) (Or.inl ⟨by rfl, ?_⟩) ?_ ?_
                            rotate_left
                            · intro w'
                              go_simp
                              with_reducible rfl
                            rotate_left
                            · simp only [Act.put, List.setIfInBounds_toArray, List.set_cons_zero, List.set_cons_succ, i64_w, i32_w]
                              rfl
                            refine pure_ (i := 2) (N := some 60) (v := ?_) (a' := ?_) #[true, false, true, false, false, false, false, false] rfl rfl (any_of HT_.out (by kernel_rfl)) (fun _ _ _ h => h) (Or.inl ⟨by rfl, ?_⟩) ?_ ?_
                            rotate_left
                            · intro w'
                              go_simp
                              with_reducible rfl
                            rotate_left
                            · simp only [Act.put, List.setIfInBounds_toArray, List.set_cons_zero, List.set_cons_succ, i64_w, i32_w]
                              rfl
                            refine take_ (i := 1) (N := some 59) (v := ?_) (a' := ?_) #[true, true, true, false, false, false, false, false] rfl rfl (take_ofW HT_.out HW_.out (by kernel_rfl)) (fun _ _ _ h => h) (Or.inl ⟨by rfl, ?_⟩) hHeld ?_ ?_
                            rotate_left
                            · rintro w' ⟨s0, s1, s2, s3, s4, s5, s6, s7⟩
                              go_simp
                              with_reducible rfl
                            rotate_left
                            · simp only [Act.put, List.setIfInBounds_toArray, List.set_cons_zero, List.set_cons_succ, i64_w, i32_w]
                              rfl
                            refine take_ (i := 3) (N := some 61) (v := ?_) (a' := ?_) #[true, true, true, true, false, false, false, false] rfl rfl (take_ofW HT_.out HW_.out (by kernel_rfl)) (fun _ _ _ h => h) (Or.inl ⟨by rfl, ?_⟩) hHeld ?_ ?_
                            rotate_left
                            · rintro w' ⟨s0, s1, s2, s3, s4, s5, s6, s7⟩
                              go_simp
                              with_reducible rfl
                            rotate_left
                            · simp only [Act.put, List.setIfInBounds_toArray, List.set_cons_zero, List.set_cons_succ, i64_w, i32_w]
                              rfl
                            refine join_ (σ := Nat × Nat) 2 #[true, true, true, true, true, true, false, false] (fun s_ => [(8, .pointer (some ⟨s_.1, 0, none⟩)), (9, .pointer (some ⟨s_.2, 0, none⟩))]) (fun s_ w' => (w'.cell? ⟨gb406, 0, none⟩ = some (.int .u8 a1_0) ∧ w'.cell? ⟨gb406, 1, none⟩ = some (.int .u8 a1_1) ∧ w'.cell? ⟨gb406, 2, none⟩ = some (.int .u16 a1_2) ∧ w'.cell? ⟨gb406, 3, none⟩ = some (.int .i64 a1_3) ∧ w'.cell? ⟨gb407, 0, none⟩ = some (.int .u8 a2_0) ∧ w'.cell? ⟨gb407, 1, none⟩ = some (.int .u8 a2_1) ∧ w'.cell? ⟨gb407, 2, none⟩ = some (.int .u16 a2_2) ∧ w'.cell? ⟨gb407, 3, none⟩ = some (.int .i64 a2_3)) ∧ (w'.heap[gb405]? = some (.cells #[.slice A0_0 l0_0.length c0_0, .slice A0_1 l0_1.length c0_1, .slice A0_2 l0_2.length c0_2, .slice A0_3 l0_3.length c0_3] 54 (0, 0))) ∧ (w'.heap[gb406]? = some (.cells #[.int .u8 a1_0, .int .u8 a1_1, .int .u16 a1_2, .int .i64 a1_3] 32 (0, 0))) ∧ (w'.heap[gb407]? = some (.cells #[.int .u8 a2_0, .int .u8 a2_1, .int .u16 a2_2, .int .i64 a2_3] 32 (0, 0))) ∧ (w'.heap[gb408]? = some (.cells #[.int .u8 0, .int .u8 0, .int .u16 0, .int .i64 0] 32 (0, 0))) ∧ (w'.heap[gb409]? = some (.cells #[.int .u8 1, .int .u8 0, .int .u16 0, .int .i64 0] 32 (0, 0))) ∧ (w'.heap[s_.1]? = some (.cells #[.int .u8 0, .int .u16 0] 30 (0, 0))) ∧ (w'.heap[s_.2]? = some (.cells #[.int .u8 0, .int .u16 0] 30 (0, 0))) ∧ (w.heap.size ≤ s_.1) ∧ (w.heap.size ≤ s_.1) ∧ (gb405 ≠ s_.1) ∧ (s_.1 ≠ gb405) ∧ (gb406 ≠ s_.1) ∧ (s_.1 ≠ gb406) ∧ (gb407 ≠ s_.1) ∧ (s_.1 ≠ gb407) ∧ (gb408 ≠ s_.1) ∧ (s_.1 ≠ gb408) ∧ (gb409 ≠ s_.1) ∧ (s_.1 ≠ gb409) ∧ (s_.2 ≠ s_.1) ∧ (s_.1 ≠ s_.2) ∧ (w.heap.size ≤ s_.2) ∧ (w.heap.size ≤ s_.2) ∧ (gb405 ≠ s_.2) ∧ (s_.2 ≠ gb405) ∧ (gb406 ≠ s_.2) ∧ (s_.2 ≠ gb406) ∧ (gb407 ≠ s_.2) ∧ (s_.2 ≠ gb407) ∧ (gb408 ≠ s_.2) ∧ (s_.2 ≠ gb408) ∧ (gb409 ≠ s_.2) ∧ (s_.2 ≠ gb409) ∧ (Below w.heap.size w w')) ?_ ?_
                            rotate_left
                            · intro hCont
                              refine two_ (i := 4) (j := 5) (Ni := some 8) (Nj := some 9) #[true, true, true, true, true, false, false, false] #[true, true, true, true, false, true, false, false] rfl rfl rfl rfl (two_of HT_.out (by kernel_rfl)) (by decide) (by decide) (fun K hK => ?_) (fun K hK => ?_)
                              · skip
                                refine box_step ?hg (N := 8) ?hd (cs := #[.int .u8 0, .int .u16 0]) (t := 30) ?hr ?_; (case hd => rfl); (case hg => rfl); (case hr => first | (go_simp; done) | (go_simp; rfl))
                                intro gb412 hg w179 hbox hb
                                have n0_ := Aside0.mk (blk_below (g := gb405) (o := .cells #[.slice A0_0 l0_0.length c0_0, .slice A0_1 l0_1.length c0_1, .slice A0_2 l0_2.length c0_2, .slice A0_3 l0_3.length c0_3] 54 (0, 0)) (by (with_reducible repeat (first | refine blk_drewN ?_ _ | refine blk_drew ?_ | refine blk_alloc ?_ _)); exact BK405.out) hb)
                                have n1_ := Aside0.mk (blk_below (g := gb406) (o := .cells #[.int .u8 a1_0, .int .u8 a1_1, .int .u16 a1_2, .int .i64 a1_3] 32 (0, 0)) (by (with_reducible repeat (first | refine blk_drewN ?_ _ | refine blk_drew ?_ | refine blk_alloc ?_ _)); exact BK406.out) hb)
                                have n2_ := Aside0.mk (blk_below (g := gb407) (o := .cells #[.int .u8 a2_0, .int .u8 a2_1, .int .u16 a2_2, .int .i64 a2_3] 32 (0, 0)) (by (with_reducible repeat (first | refine blk_drewN ?_ _ | refine blk_drew ?_ | refine blk_alloc ?_ _)); exact BK407.out) hb)
                                have n3_ := Aside0.mk (blk_below (g := gb408) (o := .cells #[.int .u8 0, .int .u8 0, .int .u16 0, .int .i64 0] 32 (0, 0)) (by (with_reducible repeat (first | refine blk_drewN ?_ _ | refine blk_drew ?_ | refine blk_alloc ?_ _)); exact BK408.out) hb)
                                have n4_ := Aside0.mk (blk_below (g := gb409) (o := .cells #[.int .u8 1, .int .u8 0, .int .u16 0, .int .i64 0] 32 (0, 0)) (by (with_reducible repeat (first | refine blk_drewN ?_ _ | refine blk_drew ?_ | refine blk_alloc ?_ _)); exact BK409.out) hb)
                                have n5_ := Aside0.mk (below_step (by repeat (first | (with_reducible first | exact HB.out | apply below_alloc | apply pw_below_drewN | apply below_drew1 | refine below_set ?_ GE405.out | refine below_set ?_ GE406.out | refine below_set ?_ GE407.out | refine below_set ?_ GE408.out | refine below_set ?_ GE409.out) | exact HB.out)) hb)
                                have n6_ := Aside0.mk (hbox)
                                have n7_ := Aside0.mk ((by rw [hg]; exact (below_size (by repeat (first | (with_reducible first | exact HB.out | apply below_alloc | apply pw_below_drewN | apply below_drew1 | refine below_set ?_ GE405.out | refine below_set ?_ GE406.out | refine below_set ?_ GE407.out | refine below_set ?_ GE408.out | refine below_set ?_ GE409.out) | exact HB.out))) : w.heap.size ≤ gb412))
                                have n8_ := Aside0.mk ((by rw [hg]; exact (below_size (by repeat (first | (with_reducible first | exact HB.out | apply below_alloc | apply pw_below_drewN | apply below_drew1 | refine below_set ?_ GE405.out | refine below_set ?_ GE406.out | refine below_set ?_ GE407.out | refine below_set ?_ GE408.out | refine below_set ?_ GE409.out) | exact HB.out))) : w.heap.size ≤ gb412))
                                have n9_ := Aside0.mk ((by rw [hg]; exact Nat.ne_of_lt (blk_lt (g := gb405) (o := .cells #[.slice A0_0 l0_0.length c0_0, .slice A0_1 l0_1.length c0_1, .slice A0_2 l0_2.length c0_2, .slice A0_3 l0_3.length c0_3] 54 (0, 0)) (by (with_reducible repeat (first | refine blk_drewN ?_ _ | refine blk_drew ?_ | refine blk_alloc ?_ _)); exact BK405.out)) : gb405 ≠ gb412))
                                have n10_ := Aside0.mk ((by rw [hg]; exact Nat.ne_of_gt (blk_lt (g := gb405) (o := .cells #[.slice A0_0 l0_0.length c0_0, .slice A0_1 l0_1.length c0_1, .slice A0_2 l0_2.length c0_2, .slice A0_3 l0_3.length c0_3] 54 (0, 0)) (by (with_reducible repeat (first | refine blk_drewN ?_ _ | refine blk_drew ?_ | refine blk_alloc ?_ _)); exact BK405.out)) : gb412 ≠ gb405))
                                have n11_ := Aside0.mk ((by rw [hg]; exact Nat.ne_of_lt (blk_lt (g := gb406) (o := .cells #[.int .u8 a1_0, .int .u8 a1_1, .int .u16 a1_2, .int .i64 a1_3] 32 (0, 0)) (by (with_reducible repeat (first | refine blk_drewN ?_ _ | refine blk_drew ?_ | refine blk_alloc ?_ _)); exact BK406.out)) : gb406 ≠ gb412))
                                have n12_ := Aside0.mk ((by rw [hg]; exact Nat.ne_of_gt (blk_lt (g := gb406) (o := .cells #[.int .u8 a1_0, .int .u8 a1_1, .int .u16 a1_2, .int .i64 a1_3] 32 (0, 0)) (by (with_reducible repeat (first | refine blk_drewN ?_ _ | refine blk_drew ?_ | refine blk_alloc ?_ _)); exact BK406.out)) : gb412 ≠ gb406))
                                have n13_ := Aside0.mk ((by rw [hg]; exact Nat.ne_of_lt (blk_lt (g := gb407) (o := .cells #[.int .u8 a2_0, .int .u8 a2_1, .int .u16 a2_2, .int .i64 a2_3] 32 (0, 0)) (by (with_reducible repeat (first | refine blk_drewN ?_ _ | refine blk_drew ?_ | refine blk_alloc ?_ _)); exact BK407.out)) : gb407 ≠ gb412))
                                have n14_ := Aside0.mk ((by rw [hg]; exact Nat.ne_of_gt (blk_lt (g := gb407) (o := .cells #[.int .u8 a2_0, .int .u8 a2_1, .int .u16 a2_2, .int .i64 a2_3] 32 (0, 0)) (by (with_reducible repeat (first | refine blk_drewN ?_ _ | refine blk_drew ?_ | refine blk_alloc ?_ _)); exact BK407.out)) : gb412 ≠ gb407))
                                have n15_ := Aside0.mk ((by rw [hg]; exact Nat.ne_of_lt (blk_lt (g := gb408) (o := .cells #[.int .u8 0, .int .u8 0, .int .u16 0, .int .i64 0] 32 (0, 0)) (by (with_reducible repeat (first | refine blk_drewN ?_ _ | refine blk_drew ?_ | refine blk_alloc ?_ _)); exact BK408.out)) : gb408 ≠ gb412))
                                have n16_ := Aside0.mk ((by rw [hg]; exact Nat.ne_of_gt (blk_lt (g := gb408) (o := .cells #[.int .u8 0, .int .u8 0, .int .u16 0, .int .i64 0] 32 (0, 0)) (by (with_reducible repeat (first | refine blk_drewN ?_ _ | refine blk_drew ?_ | refine blk_alloc ?_ _)); exact BK408.out)) : gb412 ≠ gb408))
                                have n17_ := Aside0.mk ((by rw [hg]; exact Nat.ne_of_lt (blk_lt (g := gb409) (o := .cells #[.int .u8 1, .int .u8 0, .int .u16 0, .int .i64 0] 32 (0, 0)) (by (with_reducible repeat (first | refine blk_drewN ?_ _ | refine blk_drew ?_ | refine blk_alloc ?_ _)); exact BK409.out)) : gb409 ≠ gb412))
                                have n18_ := Aside0.mk ((by rw [hg]; exact Nat.ne_of_gt (blk_lt (g := gb409) (o := .cells #[.int .u8 1, .int .u8 0, .int .u16 0, .int .i64 0] 32 (0, 0)) (by (with_reducible repeat (first | refine blk_drewN ?_ _ | refine blk_drew ?_ | refine blk_alloc ?_ _)); exact BK409.out)) : gb412 ≠ gb409))
                                clear BK405
                                clear BK406
                                clear BK407
                                clear BK408
                                clear BK409
                                clear HB
                                have BK405 := n0_
                                have BK406 := n1_
                                have BK407 := n2_
                                have BK408 := n3_
                                have BK409 := n4_
                                have HB := n5_
                                have BK412 := n6_
                                have GW412 := n7_
                                have GE412 := n8_
                                have NB405_412 := n9_
                                have NB412_405 := n10_
                                have NB406_412 := n11_
                                have NB412_406 := n12_
                                have NB407_412 := n13_
                                have NB412_407 := n14_
                                have NB408_412 := n15_
                                have NB412_408 := n16_
                                have NB409_412 := n17_
                                have NB412_409 := n18_
                                clear n0_ n1_ n2_ n3_ n4_ n5_ n6_ n7_ n8_ n9_ n10_ n11_ n12_ n13_ n14_ n15_ n16_ n17_ n18_
                                clear hb hbox hg
                                refine hK.out _ _ ⟨(blk_cell BK406.out 0).trans rfl, (blk_cell BK406.out 1).trans rfl, (blk_cell BK406.out 2).trans rfl, (blk_cell BK406.out 3).trans rfl, (blk_cell BK407.out 0).trans rfl, (blk_cell BK407.out 1).trans rfl, (blk_cell BK407.out 2).trans rfl, (blk_cell BK407.out 3).trans rfl⟩ (fun hHeld => ?_)
                                clear hK K
                                refine norm_ (a' := ?_) ?_ ?_
                                rotate_left
                                · show Act.put _ (some 8) _ = _
                                  simp only [Act.put, List.setIfInBounds_toArray, List.set_cons_zero, List.set_cons_succ, i64_w, i32_w]
                                  rfl
                                refine one_ (i := 5) (N := some 9) #[true, true, true, true, true, true, false, false] rfl rfl (one_of HT_.out (by kernel_rfl)) (by decide) (fun K hK => ?_)
                                refine box_step ?hg (N := 9) ?hd (cs := #[.int .u8 0, .int .u16 0]) (t := 30) ?hr ?_; (case hd => rfl); (case hg => rfl); (case hr => first | (go_simp; done) | (go_simp; rfl))
                                intro gb413 hg w180 hbox hb
                                have n0_ := Aside0.mk (blk_below (g := gb405) (o := .cells #[.slice A0_0 l0_0.length c0_0, .slice A0_1 l0_1.length c0_1, .slice A0_2 l0_2.length c0_2, .slice A0_3 l0_3.length c0_3] 54 (0, 0)) (by (with_reducible repeat (first | refine blk_drewN ?_ _ | refine blk_drew ?_ | refine blk_alloc ?_ _)); exact BK405.out) hb)
                                have n1_ := Aside0.mk (blk_below (g := gb406) (o := .cells #[.int .u8 a1_0, .int .u8 a1_1, .int .u16 a1_2, .int .i64 a1_3] 32 (0, 0)) (by (with_reducible repeat (first | refine blk_drewN ?_ _ | refine blk_drew ?_ | refine blk_alloc ?_ _)); exact BK406.out) hb)
                                have n2_ := Aside0.mk (blk_below (g := gb407) (o := .cells #[.int .u8 a2_0, .int .u8 a2_1, .int .u16 a2_2, .int .i64 a2_3] 32 (0, 0)) (by (with_reducible repeat (first | refine blk_drewN ?_ _ | refine blk_drew ?_ | refine blk_alloc ?_ _)); exact BK407.out) hb)
                                have n3_ := Aside0.mk (blk_below (g := gb408) (o := .cells #[.int .u8 0, .int .u8 0, .int .u16 0, .int .i64 0] 32 (0, 0)) (by (with_reducible repeat (first | refine blk_drewN ?_ _ | refine blk_drew ?_ | refine blk_alloc ?_ _)); exact BK408.out) hb)
                                have n4_ := Aside0.mk (blk_below (g := gb409) (o := .cells #[.int .u8 1, .int .u8 0, .int .u16 0, .int .i64 0] 32 (0, 0)) (by (with_reducible repeat (first | refine blk_drewN ?_ _ | refine blk_drew ?_ | refine blk_alloc ?_ _)); exact BK409.out) hb)
                                have n5_ := Aside0.mk (blk_below (g := gb412) (o := .cells #[.int .u8 0, .int .u16 0] 30 (0, 0)) (by (with_reducible repeat (first | refine blk_drewN ?_ _ | refine blk_drew ?_ | refine blk_alloc ?_ _)); exact BK412.out) hb)
                                have n6_ := Aside0.mk (below_step (by repeat (first | (with_reducible first | exact HB.out | apply below_alloc | apply pw_below_drewN | apply below_drew1 | refine below_set ?_ GE405.out | refine below_set ?_ GE406.out | refine below_set ?_ GE407.out | refine below_set ?_ GE408.out | refine below_set ?_ GE409.out | refine below_set ?_ GE412.out) | exact HB.out)) hb)
                                have n7_ := Aside0.mk (hbox)
                                have n8_ := Aside0.mk ((by rw [hg]; exact (below_size (by repeat (first | (with_reducible first | exact HB.out | apply below_alloc | apply pw_below_drewN | apply below_drew1 | refine below_set ?_ GE405.out | refine below_set ?_ GE406.out | refine below_set ?_ GE407.out | refine below_set ?_ GE408.out | refine below_set ?_ GE409.out | refine below_set ?_ GE412.out) | exact HB.out))) : w.heap.size ≤ gb413))
                                have n9_ := Aside0.mk ((by rw [hg]; exact (below_size (by repeat (first | (with_reducible first | exact HB.out | apply below_alloc | apply pw_below_drewN | apply below_drew1 | refine below_set ?_ GE405.out | refine below_set ?_ GE406.out | refine below_set ?_ GE407.out | refine below_set ?_ GE408.out | refine below_set ?_ GE409.out | refine below_set ?_ GE412.out) | exact HB.out))) : w.heap.size ≤ gb413))
                                have n10_ := Aside0.mk ((by rw [hg]; exact Nat.ne_of_lt (blk_lt (g := gb405) (o := .cells #[.slice A0_0 l0_0.length c0_0, .slice A0_1 l0_1.length c0_1, .slice A0_2 l0_2.length c0_2, .slice A0_3 l0_3.length c0_3] 54 (0, 0)) (by (with_reducible repeat (first | refine blk_drewN ?_ _ | refine blk_drew ?_ | refine blk_alloc ?_ _)); exact BK405.out)) : gb405 ≠ gb413))
                                have n11_ := Aside0.mk ((by rw [hg]; exact Nat.ne_of_gt (blk_lt (g := gb405) (o := .cells #[.slice A0_0 l0_0.length c0_0, .slice A0_1 l0_1.length c0_1, .slice A0_2 l0_2.length c0_2, .slice A0_3 l0_3.length c0_3] 54 (0, 0)) (by (with_reducible repeat (first | refine blk_drewN ?_ _ | refine blk_drew ?_ | refine blk_alloc ?_ _)); exact BK405.out)) : gb413 ≠ gb405))
                                have n12_ := Aside0.mk ((by rw [hg]; exact Nat.ne_of_lt (blk_lt (g := gb406) (o := .cells #[.int .u8 a1_0, .int .u8 a1_1, .int .u16 a1_2, .int .i64 a1_3] 32 (0, 0)) (by (with_reducible repeat (first | refine blk_drewN ?_ _ | refine blk_drew ?_ | refine blk_alloc ?_ _)); exact BK406.out)) : gb406 ≠ gb413))
                                have n13_ := Aside0.mk ((by rw [hg]; exact Nat.ne_of_gt (blk_lt (g := gb406) (o := .cells #[.int .u8 a1_0, .int .u8 a1_1, .int .u16 a1_2, .int .i64 a1_3] 32 (0, 0)) (by (with_reducible repeat (first | refine blk_drewN ?_ _ | refine blk_drew ?_ | refine blk_alloc ?_ _)); exact BK406.out)) : gb413 ≠ gb406))
                                have n14_ := Aside0.mk ((by rw [hg]; exact Nat.ne_of_lt (blk_lt (g := gb407) (o := .cells #[.int .u8 a2_0, .int .u8 a2_1, .int .u16 a2_2, .int .i64 a2_3] 32 (0, 0)) (by (with_reducible repeat (first | refine blk_drewN ?_ _ | refine blk_drew ?_ | refine blk_alloc ?_ _)); exact BK407.out)) : gb407 ≠ gb413))
                                have n15_ := Aside0.mk ((by rw [hg]; exact Nat.ne_of_gt (blk_lt (g := gb407) (o := .cells #[.int .u8 a2_0, .int .u8 a2_1, .int .u16 a2_2, .int .i64 a2_3] 32 (0, 0)) (by (with_reducible repeat (first | refine blk_drewN ?_ _ | refine blk_drew ?_ | refine blk_alloc ?_ _)); exact BK407.out)) : gb413 ≠ gb407))
                                have n16_ := Aside0.mk ((by rw [hg]; exact Nat.ne_of_lt (blk_lt (g := gb408) (o := .cells #[.int .u8 0, .int .u8 0, .int .u16 0, .int .i64 0] 32 (0, 0)) (by (with_reducible repeat (first | refine blk_drewN ?_ _ | refine blk_drew ?_ | refine blk_alloc ?_ _)); exact BK408.out)) : gb408 ≠ gb413))
                                have n17_ := Aside0.mk ((by rw [hg]; exact Nat.ne_of_gt (blk_lt (g := gb408) (o := .cells #[.int .u8 0, .int .u8 0, .int .u16 0, .int .i64 0] 32 (0, 0)) (by (with_reducible repeat (first | refine blk_drewN ?_ _ | refine blk_drew ?_ | refine blk_alloc ?_ _)); exact BK408.out)) : gb413 ≠ gb408))
                                have n18_ := Aside0.mk ((by rw [hg]; exact Nat.ne_of_lt (blk_lt (g := gb409) (o := .cells #[.int .u8 1, .int .u8 0, .int .u16 0, .int .i64 0] 32 (0, 0)) (by (with_reducible repeat (first | refine blk_drewN ?_ _ | refine blk_drew ?_ | refine blk_alloc ?_ _)); exact BK409.out)) : gb409 ≠ gb413))
                                have n19_ := Aside0.mk ((by rw [hg]; exact Nat.ne_of_gt (blk_lt (g := gb409) (o := .cells #[.int .u8 1, .int .u8 0, .int .u16 0, .int .i64 0] 32 (0, 0)) (by (with_reducible repeat (first | refine blk_drewN ?_ _ | refine blk_drew ?_ | refine blk_alloc ?_ _)); exact BK409.out)) : gb413 ≠ gb409))
                                have n20_ := Aside0.mk ((by rw [hg]; exact Nat.ne_of_lt (blk_lt (g := gb412) (o := .cells #[.int .u8 0, .int .u16 0] 30 (0, 0)) (by (with_reducible repeat (first | refine blk_drewN ?_ _ | refine blk_drew ?_ | refine blk_alloc ?_ _)); exact BK412.out)) : gb412 ≠ gb413))
                                have n21_ := Aside0.mk ((by rw [hg]; exact Nat.ne_of_gt (blk_lt (g := gb412) (o := .cells #[.int .u8 0, .int .u16 0] 30 (0, 0)) (by (with_reducible repeat (first | refine blk_drewN ?_ _ | refine blk_drew ?_ | refine blk_alloc ?_ _)); exact BK412.out)) : gb413 ≠ gb412))
                                clear BK405
                                clear BK406
                                clear BK407
                                clear BK408
                                clear BK409
                                clear BK412
                                clear HB
                                have BK405 := n0_
                                have BK406 := n1_
                                have BK407 := n2_
                                have BK408 := n3_
                                have BK409 := n4_
                                have BK412 := n5_
                                have HB := n6_
                                have BK413 := n7_
                                have GW413 := n8_
                                have GE413 := n9_
                                have NB405_413 := n10_
                                have NB413_405 := n11_
                                have NB406_413 := n12_
                                have NB413_406 := n13_
                                have NB407_413 := n14_
                                have NB413_407 := n15_
                                have NB408_413 := n16_
                                have NB413_408 := n17_
                                have NB409_413 := n18_
                                have NB413_409 := n19_
                                have NB412_413 := n20_
                                have NB413_412 := n21_
                                clear n0_ n1_ n2_ n3_ n4_ n5_ n6_ n7_ n8_ n9_ n10_ n11_ n12_ n13_ n14_ n15_ n16_ n17_ n18_ n19_ n20_ n21_
                                clear hb hbox hg
                                refine hK.out _ _ ⟨(blk_cell BK406.out 0).trans rfl, (blk_cell BK406.out 1).trans rfl, (blk_cell BK406.out 2).trans rfl, (blk_cell BK406.out 3).trans rfl, (blk_cell BK407.out 0).trans rfl, (blk_cell BK407.out 1).trans rfl, (blk_cell BK407.out 2).trans rfl, (blk_cell BK407.out 3).trans rfl⟩ (fun hHeld => ?_)
                                clear hK K
                                refine norm_ (a' := ?_) ?_ ?_
                                rotate_left
                                · show Act.put _ (some 9) _ = _
                                  simp only [Act.put, List.setIfInBounds_toArray, List.set_cons_zero, List.set_cons_succ, i64_w, i32_w]
                                  rfl
                                exact norm_ (by simp only [putAll, Act.put, List.setIfInBounds_toArray, List.set_cons_zero, List.set_cons_succ]) (hCont (gb412, gb413) _ ⟨hHeld, (by (with_reducible repeat (first | refine blk_drewN ?_ _ | refine blk_drew ?_ | refine blk_alloc ?_ _)); exact BK405.out), (by (with_reducible repeat (first | refine blk_drewN ?_ _ | refine blk_drew ?_ | refine blk_alloc ?_ _)); exact BK406.out), (by (with_reducible repeat (first | refine blk_drewN ?_ _ | refine blk_drew ?_ | refine blk_alloc ?_ _)); exact BK407.out), (by (with_reducible repeat (first | refine blk_drewN ?_ _ | refine blk_drew ?_ | refine blk_alloc ?_ _)); exact BK408.out), (by (with_reducible repeat (first | refine blk_drewN ?_ _ | refine blk_drew ?_ | refine blk_alloc ?_ _)); exact BK409.out), (by (with_reducible repeat (first | refine blk_drewN ?_ _ | refine blk_drew ?_ | refine blk_alloc ?_ _)); exact BK412.out), (by (with_reducible repeat (first | refine blk_drewN ?_ _ | refine blk_drew ?_ | refine blk_alloc ?_ _)); exact BK413.out), GW412.out, GE412.out, NB405_412.out, NB412_405.out, NB406_412.out, NB412_406.out, NB407_412.out, NB412_407.out, NB408_412.out, NB412_408.out, NB409_412.out, NB412_409.out, NB413_412.out, NB412_413.out, GW413.out, GE413.out, NB405_413.out, NB413_405.out, NB406_413.out, NB413_406.out, NB407_413.out, NB413_407.out, NB408_413.out, NB413_408.out, NB409_413.out, NB413_409.out, (by repeat (first | (with_reducible first | exact HB.out | apply below_alloc | apply pw_below_drewN | apply below_drew1 | refine below_set ?_ GE405.out | refine below_set ?_ GE406.out | refine below_set ?_ GE407.out | refine below_set ?_ GE408.out | refine below_set ?_ GE409.out | refine below_set ?_ GE412.out | refine below_set ?_ GE413.out) | exact HB.out))⟩)
                              · skip
                                refine box_step ?hg (N := 9) ?hd (cs := #[.int .u8 0, .int .u16 0]) (t := 30) ?hr ?_; (case hd => rfl); (case hg => rfl); (case hr => first | (go_simp; done) | (go_simp; rfl))
                                intro gb413 hg w179 hbox hb
                                have n0_ := Aside0.mk (blk_below (g := gb405) (o := .cells #[.slice A0_0 l0_0.length c0_0, .slice A0_1 l0_1.length c0_1, .slice A0_2 l0_2.length c0_2, .slice A0_3 l0_3.length c0_3] 54 (0, 0)) (by (with_reducible repeat (first | refine blk_drewN ?_ _ | refine blk_drew ?_ | refine blk_alloc ?_ _)); exact BK405.out) hb)
                                have n1_ := Aside0.mk (blk_below (g := gb406) (o := .cells #[.int .u8 a1_0, .int .u8 a1_1, .int .u16 a1_2, .int .i64 a1_3] 32 (0, 0)) (by (with_reducible repeat (first | refine blk_drewN ?_ _ | refine blk_drew ?_ | refine blk_alloc ?_ _)); exact BK406.out) hb)
                                have n2_ := Aside0.mk (blk_below (g := gb407) (o := .cells #[.int .u8 a2_0, .int .u8 a2_1, .int .u16 a2_2, .int .i64 a2_3] 32 (0, 0)) (by (with_reducible repeat (first | refine blk_drewN ?_ _ | refine blk_drew ?_ | refine blk_alloc ?_ _)); exact BK407.out) hb)
                                have n3_ := Aside0.mk (blk_below (g := gb408) (o := .cells #[.int .u8 0, .int .u8 0, .int .u16 0, .int .i64 0] 32 (0, 0)) (by (with_reducible repeat (first | refine blk_drewN ?_ _ | refine blk_drew ?_ | refine blk_alloc ?_ _)); exact BK408.out) hb)
                                have n4_ := Aside0.mk (blk_below (g := gb409) (o := .cells #[.int .u8 1, .int .u8 0, .int .u16 0, .int .i64 0] 32 (0, 0)) (by (with_reducible repeat (first | refine blk_drewN ?_ _ | refine blk_drew ?_ | refine blk_alloc ?_ _)); exact BK409.out) hb)
                                have n5_ := Aside0.mk (below_step (by repeat (first | (with_reducible first | exact HB.out | apply below_alloc | apply pw_below_drewN | apply below_drew1 | refine below_set ?_ GE405.out | refine below_set ?_ GE406.out | refine below_set ?_ GE407.out | refine below_set ?_ GE408.out | refine below_set ?_ GE409.out) | exact HB.out)) hb)
                                have n6_ := Aside0.mk (hbox)
                                have n7_ := Aside0.mk ((by rw [hg]; exact (below_size (by repeat (first | (with_reducible first | exact HB.out | apply below_alloc | apply pw_below_drewN | apply below_drew1 | refine below_set ?_ GE405.out | refine below_set ?_ GE406.out | refine below_set ?_ GE407.out | refine below_set ?_ GE408.out | refine below_set ?_ GE409.out) | exact HB.out))) : w.heap.size ≤ gb413))
                                have n8_ := Aside0.mk ((by rw [hg]; exact (below_size (by repeat (first | (with_reducible first | exact HB.out | apply below_alloc | apply pw_below_drewN | apply below_drew1 | refine below_set ?_ GE405.out | refine below_set ?_ GE406.out | refine below_set ?_ GE407.out | refine below_set ?_ GE408.out | refine below_set ?_ GE409.out) | exact HB.out))) : w.heap.size ≤ gb413))
                                have n9_ := Aside0.mk ((by rw [hg]; exact Nat.ne_of_lt (blk_lt (g := gb405) (o := .cells #[.slice A0_0 l0_0.length c0_0, .slice A0_1 l0_1.length c0_1, .slice A0_2 l0_2.length c0_2, .slice A0_3 l0_3.length c0_3] 54 (0, 0)) (by (with_reducible repeat (first | refine blk_drewN ?_ _ | refine blk_drew ?_ | refine blk_alloc ?_ _)); exact BK405.out)) : gb405 ≠ gb413))
                                have n10_ := Aside0.mk ((by rw [hg]; exact Nat.ne_of_gt (blk_lt (g := gb405) (o := .cells #[.slice A0_0 l0_0.length c0_0, .slice A0_1 l0_1.length c0_1, .slice A0_2 l0_2.length c0_2, .slice A0_3 l0_3.length c0_3] 54 (0, 0)) (by (with_reducible repeat (first | refine blk_drewN ?_ _ | refine blk_drew ?_ | refine blk_alloc ?_ _)); exact BK405.out)) : gb413 ≠ gb405))
                                have n11_ := Aside0.mk ((by rw [hg]; exact Nat.ne_of_lt (blk_lt (g := gb406) (o := .cells #[.int .u8 a1_0, .int .u8 a1_1, .int .u16 a1_2, .int .i64 a1_3] 32 (0, 0)) (by (with_reducible repeat (first | refine blk_drewN ?_ _ | refine blk_drew ?_ | refine blk_alloc ?_ _)); exact BK406.out)) : gb406 ≠ gb413))
                                have n12_ := Aside0.mk ((by rw [hg]; exact Nat.ne_of_gt (blk_lt (g := gb406) (o := .cells #[.int .u8 a1_0, .int .u8 a1_1, .int .u16 a1_2, .int .i64 a1_3] 32 (0, 0)) (by (with_reducible repeat (first | refine blk_drewN ?_ _ | refine blk_drew ?_ | refine blk_alloc ?_ _)); exact BK406.out)) : gb413 ≠ gb406))
                                have n13_ := Aside0.mk ((by rw [hg]; exact Nat.ne_of_lt (blk_lt (g := gb407) (o := .cells #[.int .u8 a2_0, .int .u8 a2_1, .int .u16 a2_2, .int .i64 a2_3] 32 (0, 0)) (by (with_reducible repeat (first | refine blk_drewN ?_ _ | refine blk_drew ?_ | refine blk_alloc ?_ _)); exact BK407.out)) : gb407 ≠ gb413))
                                have n14_ := Aside0.mk ((by rw [hg]; exact Nat.ne_of_gt (blk_lt (g := gb407) (o := .cells #[.int .u8 a2_0, .int .u8 a2_1, .int .u16 a2_2, .int .i64 a2_3] 32 (0, 0)) (by (with_reducible repeat (first | refine blk_drewN ?_ _ | refine blk_drew ?_ | refine blk_alloc ?_ _)); exact BK407.out)) : gb413 ≠ gb407))
                                have n15_ := Aside0.mk ((by rw [hg]; exact Nat.ne_of_lt (blk_lt (g := gb408) (o := .cells #[.int .u8 0, .int .u8 0, .int .u16 0, .int .i64 0] 32 (0, 0)) (by (with_reducible repeat (first | refine blk_drewN ?_ _ | refine blk_drew ?_ | refine blk_alloc ?_ _)); exact BK408.out)) : gb408 ≠ gb413))
                                have n16_ := Aside0.mk ((by rw [hg]; exact Nat.ne_of_gt (blk_lt (g := gb408) (o := .cells #[.int .u8 0, .int .u8 0, .int .u16 0, .int .i64 0] 32 (0, 0)) (by (with_reducible repeat (first | refine blk_drewN ?_ _ | refine blk_drew ?_ | refine blk_alloc ?_ _)); exact BK408.out)) : gb413 ≠ gb408))
                                have n17_ := Aside0.mk ((by rw [hg]; exact Nat.ne_of_lt (blk_lt (g := gb409) (o := .cells #[.int .u8 1, .int .u8 0, .int .u16 0, .int .i64 0] 32 (0, 0)) (by (with_reducible repeat (first | refine blk_drewN ?_ _ | refine blk_drew ?_ | refine blk_alloc ?_ _)); exact BK409.out)) : gb409 ≠ gb413))
                                have n18_ := Aside0.mk ((by rw [hg]; exact Nat.ne_of_gt (blk_lt (g := gb409) (o := .cells #[.int .u8 1, .int .u8 0, .int .u16 0, .int .i64 0] 32 (0, 0)) (by (with_reducible repeat (first | refine blk_drewN ?_ _ | refine blk_drew ?_ | refine blk_alloc ?_ _)); exact BK409.out)) : gb413 ≠ gb409))
                                clear BK405
                                clear BK406
                                clear BK407
                                clear BK408
                                clear BK409
                                clear HB
                                have BK405 := n0_
                                have BK406 := n1_
                                have BK407 := n2_
                                have BK408 := n3_
                                have BK409 := n4_
                                have HB := n5_
                                have BK413 := n6_
                                have GW413 := n7_
                                have GE413 := n8_
                                have NB405_413 := n9_
                                have NB413_405 := n10_
                                have NB406_413 := n11_
                                have NB413_406 := n12_
                                have NB407_413 := n13_
                                have NB413_407 := n14_
                                have NB408_413 := n15_
                                have NB413_408 := n16_
                                have NB409_413 := n17_
                                have NB413_409 := n18_
                                clear n0_ n1_ n2_ n3_ n4_ n5_ n6_ n7_ n8_ n9_ n10_ n11_ n12_ n13_ n14_ n15_ n16_ n17_ n18_
                                clear hb hbox hg
                                refine hK.out _ _ ⟨(blk_cell BK406.out 0).trans rfl, (blk_cell BK406.out 1).trans rfl, (blk_cell BK406.out 2).trans rfl, (blk_cell BK406.out 3).trans rfl, (blk_cell BK407.out 0).trans rfl, (blk_cell BK407.out 1).trans rfl, (blk_cell BK407.out 2).trans rfl, (blk_cell BK407.out 3).trans rfl⟩ (fun hHeld => ?_)
                                clear hK K
                                refine norm_ (a' := ?_) ?_ ?_
                                rotate_left
                                · show Act.put _ (some 9) _ = _
                                  simp only [Act.put, List.setIfInBounds_toArray, List.set_cons_zero, List.set_cons_succ, i64_w, i32_w]
                                  rfl
                                refine one_ (i := 4) (N := some 8) #[true, true, true, true, true, true, false, false] rfl rfl (one_of HT_.out (by kernel_rfl)) (by decide) (fun K hK => ?_)
                                refine box_step ?hg (N := 8) ?hd (cs := #[.int .u8 0, .int .u16 0]) (t := 30) ?hr ?_; (case hd => rfl); (case hg => rfl); (case hr => first | (go_simp; done) | (go_simp; rfl))
                                intro gb412 hg w180 hbox hb
                                have n0_ := Aside0.mk (blk_below (g := gb405) (o := .cells #[.slice A0_0 l0_0.length c0_0, .slice A0_1 l0_1.length c0_1, .slice A0_2 l0_2.length c0_2, .slice A0_3 l0_3.length c0_3] 54 (0, 0)) (by (with_reducible repeat (first | refine blk_drewN ?_ _ | refine blk_drew ?_ | refine blk_alloc ?_ _)); exact BK405.out) hb)
                                have n1_ := Aside0.mk (blk_below (g := gb406) (o := .cells #[.int .u8 a1_0, .int .u8 a1_1, .int .u16 a1_2, .int .i64 a1_3] 32 (0, 0)) (by (with_reducible repeat (first | refine blk_drewN ?_ _ | refine blk_drew ?_ | refine blk_alloc ?_ _)); exact BK406.out) hb)
                                have n2_ := Aside0.mk (blk_below (g := gb407) (o := .cells #[.int .u8 a2_0, .int .u8 a2_1, .int .u16 a2_2, .int .i64 a2_3] 32 (0, 0)) (by (with_reducible repeat (first | refine blk_drewN ?_ _ | refine blk_drew ?_ | refine blk_alloc ?_ _)); exact BK407.out) hb)
                                have n3_ := Aside0.mk (blk_below (g := gb408) (o := .cells #[.int .u8 0, .int .u8 0, .int .u16 0, .int .i64 0] 32 (0, 0)) (by (with_reducible repeat (first | refine blk_drewN ?_ _ | refine blk_drew ?_ | refine blk_alloc ?_ _)); exact BK408.out) hb)
                                have n4_ := Aside0.mk (blk_below (g := gb409) (o := .cells #[.int .u8 1, .int .u8 0, .int .u16 0, .int .i64 0] 32 (0, 0)) (by (with_reducible repeat (first | refine blk_drewN ?_ _ | refine blk_drew ?_ | refine blk_alloc ?_ _)); exact BK409.out) hb)
                                have n5_ := Aside0.mk (blk_below (g := gb413) (o := .cells #[.int .u8 0, .int .u16 0] 30 (0, 0)) (by (with_reducible repeat (first | refine blk_drewN ?_ _ | refine blk_drew ?_ | refine blk_alloc ?_ _)); exact BK413.out) hb)
                                have n6_ := Aside0.mk (below_step (by repeat (first | (with_reducible first | exact HB.out | apply below_alloc | apply pw_below_drewN | apply below_drew1 | refine below_set ?_ GE405.out | refine below_set ?_ GE406.out | refine below_set ?_ GE407.out | refine below_set ?_ GE408.out | refine below_set ?_ GE409.out | refine below_set ?_ GE413.out) | exact HB.out)) hb)
                                have n7_ := Aside0.mk (hbox)
                                have n8_ := Aside0.mk ((by rw [hg]; exact (below_size (by repeat (first | (with_reducible first | exact HB.out | apply below_alloc | apply pw_below_drewN | apply below_drew1 | refine below_set ?_ GE405.out | refine below_set ?_ GE406.out | refine below_set ?_ GE407.out | refine below_set ?_ GE408.out | refine below_set ?_ GE409.out | refine below_set ?_ GE413.out) | exact HB.out))) : w.heap.size ≤ gb412))
                                have n9_ := Aside0.mk ((by rw [hg]; exact (below_size (by repeat (first | (with_reducible first | exact HB.out | apply below_alloc | apply pw_below_drewN | apply below_drew1 | refine below_set ?_ GE405.out | refine below_set ?_ GE406.out | refine below_set ?_ GE407.out | refine below_set ?_ GE408.out | refine below_set ?_ GE409.out | refine below_set ?_ GE413.out) | exact HB.out))) : w.heap.size ≤ gb412))
                                have n10_ := Aside0.mk ((by rw [hg]; exact Nat.ne_of_lt (blk_lt (g := gb405) (o := .cells #[.slice A0_0 l0_0.length c0_0, .slice A0_1 l0_1.length c0_1, .slice A0_2 l0_2.length c0_2, .slice A0_3 l0_3.length c0_3] 54 (0, 0)) (by (with_reducible repeat (first | refine blk_drewN ?_ _ | refine blk_drew ?_ | refine blk_alloc ?_ _)); exact BK405.out)) : gb405 ≠ gb412))
                                have n11_ := Aside0.mk ((by rw [hg]; exact Nat.ne_of_gt (blk_lt (g := gb405) (o := .cells #[.slice A0_0 l0_0.length c0_0, .slice A0_1 l0_1.length c0_1, .slice A0_2 l0_2.length c0_2, .slice A0_3 l0_3.length c0_3] 54 (0, 0)) (by (with_reducible repeat (first | refine blk_drewN ?_ _ | refine blk_drew ?_ | refine blk_alloc ?_ _)); exact BK405.out)) : gb412 ≠ gb405))
                                have n12_ := Aside0.mk ((by rw [hg]; exact Nat.ne_of_lt (blk_lt (g := gb406) (o := .cells #[.int .u8 a1_0, .int .u8 a1_1, .int .u16 a1_2, .int .i64 a1_3] 32 (0, 0)) (by (with_reducible repeat (first | refine blk_drewN ?_ _ | refine blk_drew ?_ | refine blk_alloc ?_ _)); exact BK406.out)) : gb406 ≠ gb412))
                                have n13_ := Aside0.mk ((by rw [hg]; exact Nat.ne_of_gt (blk_lt (g := gb406) (o := .cells #[.int .u8 a1_0, .int .u8 a1_1, .int .u16 a1_2, .int .i64 a1_3] 32 (0, 0)) (by (with_reducible repeat (first | refine blk_drewN ?_ _ | refine blk_drew ?_ | refine blk_alloc ?_ _)); exact BK406.out)) : gb412 ≠ gb406))
                                have n14_ := Aside0.mk ((by rw [hg]; exact Nat.ne_of_lt (blk_lt (g := gb407) (o := .cells #[.int .u8 a2_0, .int .u8 a2_1, .int .u16 a2_2, .int .i64 a2_3] 32 (0, 0)) (by (with_reducible repeat (first | refine blk_drewN ?_ _ | refine blk_drew ?_ | refine blk_alloc ?_ _)); exact BK407.out)) : gb407 ≠ gb412))
                                have n15_ := Aside0.mk ((by rw [hg]; exact Nat.ne_of_gt (blk_lt (g := gb407) (o := .cells #[.int .u8 a2_0, .int .u8 a2_1, .int .u16 a2_2, .int .i64 a2_3] 32 (0, 0)) (by (with_reducible repeat (first | refine blk_drewN ?_ _ | refine blk_drew ?_ | refine blk_alloc ?_ _)); exact BK407.out)) : gb412 ≠ gb407))
                                have n16_ := Aside0.mk ((by rw [hg]; exact Nat.ne_of_lt (blk_lt (g := gb408) (o := .cells #[.int .u8 0, .int .u8 0, .int .u16 0, .int .i64 0] 32 (0, 0)) (by (with_reducible repeat (first | refine blk_drewN ?_ _ | refine blk_drew ?_ | refine blk_alloc ?_ _)); exact BK408.out)) : gb408 ≠ gb412))
                                have n17_ := Aside0.mk ((by rw [hg]; exact Nat.ne_of_gt (blk_lt (g := gb408) (o := .cells #[.int .u8 0, .int .u8 0, .int .u16 0, .int .i64 0] 32 (0, 0)) (by (with_reducible repeat (first | refine blk_drewN ?_ _ | refine blk_drew ?_ | refine blk_alloc ?_ _)); exact BK408.out)) : gb412 ≠ gb408))
                                have n18_ := Aside0.mk ((by rw [hg]; exact Nat.ne_of_lt (blk_lt (g := gb409) (o := .cells #[.int .u8 1, .int .u8 0, .int .u16 0, .int .i64 0] 32 (0, 0)) (by (with_reducible repeat (first | refine blk_drewN ?_ _ | refine blk_drew ?_ | refine blk_alloc ?_ _)); exact BK409.out)) : gb409 ≠ gb412))
                                have n19_ := Aside0.mk ((by rw [hg]; exact Nat.ne_of_gt (blk_lt (g := gb409) (o := .cells #[.int .u8 1, .int .u8 0, .int .u16 0, .int .i64 0] 32 (0, 0)) (by (with_reducible repeat (first | refine blk_drewN ?_ _ | refine blk_drew ?_ | refine blk_alloc ?_ _)); exact BK409.out)) : gb412 ≠ gb409))
                                have n20_ := Aside0.mk ((by rw [hg]; exact Nat.ne_of_lt (blk_lt (g := gb413) (o := .cells #[.int .u8 0, .int .u16 0] 30 (0, 0)) (by (with_reducible repeat (first | refine blk_drewN ?_ _ | refine blk_drew ?_ | refine blk_alloc ?_ _)); exact BK413.out)) : gb413 ≠ gb412))
                                have n21_ := Aside0.mk ((by rw [hg]; exact Nat.ne_of_gt (blk_lt (g := gb413) (o := .cells #[.int .u8 0, .int .u16 0] 30 (0, 0)) (by (with_reducible repeat (first | refine blk_drewN ?_ _ | refine blk_drew ?_ | refine blk_alloc ?_ _)); exact BK413.out)) : gb412 ≠ gb413))
                                clear BK405
                                clear BK406
                                clear BK407
                                clear BK408
                                clear BK409
                                clear BK413
                                clear HB
                                have BK405 := n0_
                                have BK406 := n1_
                                have BK407 := n2_
                                have BK408 := n3_
                                have BK409 := n4_
                                have BK413 := n5_
                                have HB := n6_
                                have BK412 := n7_
                                have GW412 := n8_
                                have GE412 := n9_
                                have NB405_412 := n10_
                                have NB412_405 := n11_
                                have NB406_412 := n12_
                                have NB412_406 := n13_
                                have NB407_412 := n14_
                                have NB412_407 := n15_
                                have NB408_412 := n16_
                                have NB412_408 := n17_
                                have NB409_412 := n18_
                                have NB412_409 := n19_
                                have NB413_412 := n20_
                                have NB412_413 := n21_
                                clear n0_ n1_ n2_ n3_ n4_ n5_ n6_ n7_ n8_ n9_ n10_ n11_ n12_ n13_ n14_ n15_ n16_ n17_ n18_ n19_ n20_ n21_
                                clear hb hbox hg
                                refine hK.out _ _ ⟨(blk_cell BK406.out 0).trans rfl, (blk_cell BK406.out 1).trans rfl, (blk_cell BK406.out 2).trans rfl, (blk_cell BK406.out 3).trans rfl, (blk_cell BK407.out 0).trans rfl, (blk_cell BK407.out 1).trans rfl, (blk_cell BK407.out 2).trans rfl, (blk_cell BK407.out 3).trans rfl⟩ (fun hHeld => ?_)
                                clear hK K
                                refine norm_ (a' := ?_) ?_ ?_
                                rotate_left
                                · show Act.put _ (some 8) _ = _
                                  simp only [Act.put, List.setIfInBounds_toArray, List.set_cons_zero, List.set_cons_succ, i64_w, i32_w]
                                  rfl
                                exact norm_ (by simp only [putAll, Act.put, List.setIfInBounds_toArray, List.set_cons_zero, List.set_cons_succ]) (hCont (gb412, gb413) _ ⟨hHeld, (by (with_reducible repeat (first | refine blk_drewN ?_ _ | refine blk_drew ?_ | refine blk_alloc ?_ _)); exact BK405.out), (by (with_reducible repeat (first | refine blk_drewN ?_ _ | refine blk_drew ?_ | refine blk_alloc ?_ _)); exact BK406.out), (by (with_reducible repeat (first | refine blk_drewN ?_ _ | refine blk_drew ?_ | refine blk_alloc ?_ _)); exact BK407.out), (by (with_reducible repeat (first | refine blk_drewN ?_ _ | refine blk_drew ?_ | refine blk_alloc ?_ _)); exact BK408.out), (by (with_reducible repeat (first | refine blk_drewN ?_ _ | refine blk_drew ?_ | refine blk_alloc ?_ _)); exact BK409.out), (by (with_reducible repeat (first | refine blk_drewN ?_ _ | refine blk_drew ?_ | refine blk_alloc ?_ _)); exact BK412.out), (by (with_reducible repeat (first | refine blk_drewN ?_ _ | refine blk_drew ?_ | refine blk_alloc ?_ _)); exact BK413.out), GW412.out, GE412.out, NB405_412.out, NB412_405.out, NB406_412.out, NB412_406.out, NB407_412.out, NB412_407.out, NB408_412.out, NB412_408.out, NB409_412.out, NB412_409.out, NB413_412.out, NB412_413.out, GW413.out, GE413.out, NB405_413.out, NB413_405.out, NB406_413.out, NB413_406.out, NB407_413.out, NB413_407.out, NB408_413.out, NB413_408.out, NB409_413.out, NB413_409.out, (by repeat (first | (with_reducible first | exact HB.out | apply below_alloc | apply pw_below_drewN | apply below_drew1 | refine below_set ?_ GE405.out | refine below_set ?_ GE406.out | refine below_set ?_ GE407.out | refine below_set ?_ GE408.out | refine below_set ?_ GE409.out | refine below_set ?_ GE413.out | refine below_set ?_ GE412.out) | exact HB.out))⟩)
                            rintro ⟨gb412, gb413⟩ w181 ⟨hS_, h0_, h1_, h2_, h3_, h4_, h5_, h6_, h7_, h8_, h9_, h10_, h11_, h12_, h13_, h14_, h15_, h16_, h17_, h18_, h19_, h20_, h21_, h22_, h23_, h24_, h25_, h26_, h27_, h28_, h29_, h30_, h31_, h32_, h33_⟩
                            have n0_ : Aside0 (w181.heap[gb405]? = some (.cells #[.slice A0_0 l0_0.length c0_0, .slice A0_1 l0_1.length c0_1, .slice A0_2 l0_2.length c0_2, .slice A0_3 l0_3.length c0_3] 54 (0, 0))) := ⟨h0_⟩
                            have n1_ : Aside0 (w181.heap[gb406]? = some (.cells #[.int .u8 a1_0, .int .u8 a1_1, .int .u16 a1_2, .int .i64 a1_3] 32 (0, 0))) := ⟨h1_⟩
                            have n2_ : Aside0 (w181.heap[gb407]? = some (.cells #[.int .u8 a2_0, .int .u8 a2_1, .int .u16 a2_2, .int .i64 a2_3] 32 (0, 0))) := ⟨h2_⟩
                            have n3_ : Aside0 (w181.heap[gb408]? = some (.cells #[.int .u8 0, .int .u8 0, .int .u16 0, .int .i64 0] 32 (0, 0))) := ⟨h3_⟩
                            have n4_ : Aside0 (w181.heap[gb409]? = some (.cells #[.int .u8 1, .int .u8 0, .int .u16 0, .int .i64 0] 32 (0, 0))) := ⟨h4_⟩
                            have n5_ : Aside0 (w181.heap[gb412]? = some (.cells #[.int .u8 0, .int .u16 0] 30 (0, 0))) := ⟨h5_⟩
                            have n6_ : Aside0 (w181.heap[gb413]? = some (.cells #[.int .u8 0, .int .u16 0] 30 (0, 0))) := ⟨h6_⟩
                            have n7_ : Aside0 (w.heap.size ≤ gb412) := ⟨h7_⟩
                            have n8_ : Aside0 (w.heap.size ≤ gb412) := ⟨h8_⟩
                            have n9_ : Aside0 (gb405 ≠ gb412) := ⟨h9_⟩
                            have n10_ : Aside0 (gb412 ≠ gb405) := ⟨h10_⟩
                            have n11_ : Aside0 (gb406 ≠ gb412) := ⟨h11_⟩
                            have n12_ : Aside0 (gb412 ≠ gb406) := ⟨h12_⟩
                            have n13_ : Aside0 (gb407 ≠ gb412) := ⟨h13_⟩
                            have n14_ : Aside0 (gb412 ≠ gb407) := ⟨h14_⟩
                            have n15_ : Aside0 (gb408 ≠ gb412) := ⟨h15_⟩
                            have n16_ : Aside0 (gb412 ≠ gb408) := ⟨h16_⟩
                            have n17_ : Aside0 (gb409 ≠ gb412) := ⟨h17_⟩
                            have n18_ : Aside0 (gb412 ≠ gb409) := ⟨h18_⟩
                            have n19_ : Aside0 (gb413 ≠ gb412) := ⟨h19_⟩
                            have n20_ : Aside0 (gb412 ≠ gb413) := ⟨h20_⟩
                            have n21_ : Aside0 (w.heap.size ≤ gb413) := ⟨h21_⟩
                            have n22_ : Aside0 (w.heap.size ≤ gb413) := ⟨h22_⟩
                            have n23_ : Aside0 (gb405 ≠ gb413) := ⟨h23_⟩
                            have n24_ : Aside0 (gb413 ≠ gb405) := ⟨h24_⟩
                            have n25_ : Aside0 (gb406 ≠ gb413) := ⟨h25_⟩
                            have n26_ : Aside0 (gb413 ≠ gb406) := ⟨h26_⟩
                            have n27_ : Aside0 (gb407 ≠ gb413) := ⟨h27_⟩
                            have n28_ : Aside0 (gb413 ≠ gb407) := ⟨h28_⟩
                            have n29_ : Aside0 (gb408 ≠ gb413) := ⟨h29_⟩
                            have n30_ : Aside0 (gb413 ≠ gb408) := ⟨h30_⟩
                            have n31_ : Aside0 (gb409 ≠ gb413) := ⟨h31_⟩
                            have n32_ : Aside0 (gb413 ≠ gb409) := ⟨h32_⟩
                            have n33_ : Aside0 (Below w.heap.size w w181) := ⟨h33_⟩
                            clear BK405
                            clear BK406
                            clear BK407
                            clear BK408
                            clear BK409
                            clear HB
                            clear h0_ h1_ h2_ h3_ h4_ h5_ h6_ h7_ h8_ h9_ h10_ h11_ h12_ h13_ h14_ h15_ h16_ h17_ h18_ h19_ h20_ h21_ h22_ h23_ h24_ h25_ h26_ h27_ h28_ h29_ h30_ h31_ h32_ h33_
                            have BK405 := n0_
                            have BK406 := n1_
                            have BK407 := n2_
                            have BK408 := n3_
                            have BK409 := n4_
                            have BK412 := n5_
                            have BK413 := n6_
                            have GW412 := n7_
                            have GE412 := n8_
                            have NB405_412 := n9_
                            have NB412_405 := n10_
                            have NB406_412 := n11_
                            have NB412_406 := n12_
                            have NB407_412 := n13_
                            have NB412_407 := n14_
                            have NB408_412 := n15_
                            have NB412_408 := n16_
                            have NB409_412 := n17_
                            have NB412_409 := n18_
                            have NB413_412 := n19_
                            have NB412_413 := n20_
                            have GW413 := n21_
                            have GE413 := n22_
                            have NB405_413 := n23_
                            have NB413_405 := n24_
                            have NB406_413 := n25_
                            have NB413_406 := n26_
                            have NB407_413 := n27_
                            have NB413_407 := n28_
                            have NB408_413 := n29_
                            have NB413_408 := n30_
                            have NB409_413 := n31_
                            have NB413_409 := n32_
                            have HB := n33_
                            clear n0_ n1_ n2_ n3_ n4_ n5_ n6_ n7_ n8_ n9_ n10_ n11_ n12_ n13_ n14_ n15_ n16_ n17_ n18_ n19_ n20_ n21_ n22_ n23_ n24_ n25_ n26_ n27_ n28_ n29_ n30_ n31_ n32_ n33_
                            have hHeld : w181.cell? ⟨gb406, 0, none⟩ = some (.int .u8 a1_0) ∧ w181.cell? ⟨gb406, 1, none⟩ = some (.int .u8 a1_1) ∧ w181.cell? ⟨gb406, 2, none⟩ = some (.int .u16 a1_2) ∧ w181.cell? ⟨gb406, 3, none⟩ = some (.int .i64 a1_3) ∧ w181.cell? ⟨gb407, 0, none⟩ = some (.int .u8 a2_0) ∧ w181.cell? ⟨gb407, 1, none⟩ = some (.int .u8 a2_1) ∧ w181.cell? ⟨gb407, 2, none⟩ = some (.int .u16 a2_2) ∧ w181.cell? ⟨gb407, 3, none⟩ = some (.int .i64 a2_3) := hS_
                            refine norm_ (a' := ?_) ?_ ?_
                            rotate_left
                            · simp only [putAll, Act.put, List.setIfInBounds_toArray, List.set_cons_zero, List.set_cons_succ]
                              rfl
                            refine one_ (i := 6) (N := none) #[true, true, true, true, true, true, true, false] rfl rfl (one_of HT_.out (by kernel_rfl)) (by decide) (fun K hK => ?_)
                            have hs182 : w181.cell? ⟨gb412, 0, none⟩ = some (.int .u8 0) := (blk_cell BK412.out 0).trans rfl
                            have hfs182 := blk_frozen BK412.out 0
                            have hns182_0 := NB405_412.out
                            have hns182_1 := NB406_412.out
                            have hns182_2 := NB407_412.out
                            have hns182_3 := NB408_412.out
                            have hns182_4 := NB409_412.out
                            have hns182_6 := NB413_412.out
                            have hms182_0 := NB412_405.out
                            have hms182_1 := NB412_406.out
                            have hms182_2 := NB412_407.out
                            have hms182_3 := NB412_408.out
                            have hms182_4 := NB412_409.out
                            have hms182_6 := NB412_413.out
                            have hs183 : w181.cell? ⟨gb412, 1, none⟩ = some (.int .u16 0) := (blk_cell BK412.out 1).trans rfl
                            have hfs183 := blk_frozen BK412.out 1
                            have hns183_0 := NB405_412.out
                            have hns183_1 := NB406_412.out
                            have hns183_2 := NB407_412.out
                            have hns183_3 := NB408_412.out
                            have hns183_4 := NB409_412.out
                            have hns183_6 := NB413_412.out
                            have hms183_0 := NB412_405.out
                            have hms183_1 := NB412_406.out
                            have hms183_2 := NB412_407.out
                            have hms183_3 := NB412_408.out
                            have hms183_4 := NB412_409.out
                            have hms183_6 := NB412_413.out
                            refine skip_ (w1 := ?_) (by rfl) rfl ?_ ?_
                            rotate_left
                            · go_simp
                              rfl
                            refine hK.out _ _ ⟨((cell_far (p := ⟨gb412, _, none⟩) NB406_412.out _).trans (((cell_far (p := ⟨gb412, _, none⟩) NB406_412.out _).trans (hHeld.1)))), ((cell_far (p := ⟨gb412, _, none⟩) NB406_412.out _).trans (((cell_far (p := ⟨gb412, _, none⟩) NB406_412.out _).trans (hHeld.2.1)))), ((cell_far (p := ⟨gb412, _, none⟩) NB406_412.out _).trans (((cell_far (p := ⟨gb412, _, none⟩) NB406_412.out _).trans (hHeld.2.2.1)))), ((cell_far (p := ⟨gb412, _, none⟩) NB406_412.out _).trans (((cell_far (p := ⟨gb412, _, none⟩) NB406_412.out _).trans (hHeld.2.2.2.1)))), ((cell_far (p := ⟨gb412, _, none⟩) NB407_412.out _).trans (((cell_far (p := ⟨gb412, _, none⟩) NB407_412.out _).trans (hHeld.2.2.2.2.1)))), ((cell_far (p := ⟨gb412, _, none⟩) NB407_412.out _).trans (((cell_far (p := ⟨gb412, _, none⟩) NB407_412.out _).trans (hHeld.2.2.2.2.2.1)))), ((cell_far (p := ⟨gb412, _, none⟩) NB407_412.out _).trans (((cell_far (p := ⟨gb412, _, none⟩) NB407_412.out _).trans (hHeld.2.2.2.2.2.2.1)))), ((cell_far (p := ⟨gb412, _, none⟩) NB407_412.out _).trans (((cell_far (p := ⟨gb412, _, none⟩) NB407_412.out _).trans (hHeld.2.2.2.2.2.2.2))))⟩ (fun hHeld => ?_)
                            clear hK K
                            refine one_ (i := 7) (N := none) #[true, true, true, true, true, true, true, true] rfl rfl (one_of HT_.out (by kernel_rfl)) (by decide) (fun K hK => ?_)
                            have hs184 : w181.cell? ⟨gb413, 0, none⟩ = some (.int .u8 0) := (blk_cell BK413.out 0).trans rfl
                            have hfs184 := blk_frozen BK413.out 0
                            have hns184_0 := NB405_413.out
                            have hns184_1 := NB406_413.out
                            have hns184_2 := NB407_413.out
                            have hns184_3 := NB408_413.out
                            have hns184_4 := NB409_413.out
                            have hns184_5 := NB412_413.out
                            have hms184_0 := NB413_405.out
                            have hms184_1 := NB413_406.out
                            have hms184_2 := NB413_407.out
                            have hms184_3 := NB413_408.out
                            have hms184_4 := NB413_409.out
                            have hms184_5 := NB413_412.out
                            have hs185 : w181.cell? ⟨gb413, 1, none⟩ = some (.int .u16 0) := (blk_cell BK413.out 1).trans rfl
                            have hfs185 := blk_frozen BK413.out 1
                            have hns185_0 := NB405_413.out
                            have hns185_1 := NB406_413.out
                            have hns185_2 := NB407_413.out
                            have hns185_3 := NB408_413.out
                            have hns185_4 := NB409_413.out
                            have hns185_5 := NB412_413.out
                            have hms185_0 := NB413_405.out
                            have hms185_1 := NB413_406.out
                            have hms185_2 := NB413_407.out
                            have hms185_3 := NB413_408.out
                            have hms185_4 := NB413_409.out
                            have hms185_5 := NB413_412.out
                            refine skip_ (w1 := ?_) (by rfl) rfl ?_ ?_
                            rotate_left
                            · go_simp
                              rfl
                            refine hK.out _ _ ⟨((cell_far (p := ⟨gb413, _, none⟩) NB406_413.out _).trans (((cell_far (p := ⟨gb413, _, none⟩) NB406_413.out _).trans (hHeld.1)))), ((cell_far (p := ⟨gb413, _, none⟩) NB406_413.out _).trans (((cell_far (p := ⟨gb413, _, none⟩) NB406_413.out _).trans (hHeld.2.1)))), ((cell_far (p := ⟨gb413, _, none⟩) NB406_413.out _).trans (((cell_far (p := ⟨gb413, _, none⟩) NB406_413.out _).trans (hHeld.2.2.1)))), ((cell_far (p := ⟨gb413, _, none⟩) NB406_413.out _).trans (((cell_far (p := ⟨gb413, _, none⟩) NB406_413.out _).trans (hHeld.2.2.2.1)))), ((cell_far (p := ⟨gb413, _, none⟩) NB407_413.out _).trans (((cell_far (p := ⟨gb413, _, none⟩) NB407_413.out _).trans (hHeld.2.2.2.2.1)))), ((cell_far (p := ⟨gb413, _, none⟩) NB407_413.out _).trans (((cell_far (p := ⟨gb413, _, none⟩) NB407_413.out _).trans (hHeld.2.2.2.2.2.1)))), ((cell_far (p := ⟨gb413, _, none⟩) NB407_413.out _).trans (((cell_far (p := ⟨gb413, _, none⟩) NB407_413.out _).trans (hHeld.2.2.2.2.2.2.1)))), ((cell_far (p := ⟨gb413, _, none⟩) NB407_413.out _).trans (((cell_far (p := ⟨gb413, _, none⟩) NB407_413.out _).trans (hHeld.2.2.2.2.2.2.2))))⟩ (fun hHeld => ?_)
                            clear hK K
                            refine done_ (done_of HT_.out (by kernel_rfl)) ?_
                            have hnb186 := NB412_405.out
                            have hnc186 := NB405_412.out
                            have hnb187 := NB412_406.out
                            have hnc187 := NB406_412.out
                            have hnb188 := NB412_407.out
                            have hnc188 := NB407_412.out
                            have hnb189 := NB412_408.out
                            have hnc189 := NB408_412.out
                            have hnb190 := NB412_409.out
                            have hnc190 := NB409_412.out
                            have hnb191 := NB412_413.out
                            have hnc191 := NB413_412.out
                            have hcz192_0 : w181.cell? ⟨gb412, 0, none⟩ = some (.int .u8 0) := (blk_cell BK412.out 0).trans rfl
                            have hcz192_1 : w181.cell? ⟨gb412, 1, none⟩ = some (.int .u16 0) := (blk_cell BK412.out 1).trans rfl
                            have hfz192_0 := blk_frozen BK412.out 0
                            have hfz192_1 := blk_frozen BK412.out 1
                            have hnb193 := NB413_405.out
                            have hnc193 := NB405_413.out
                            have hnb194 := NB413_406.out
                            have hnc194 := NB406_413.out
                            have hnb195 := NB413_407.out
                            have hnc195 := NB407_413.out
                            have hnb196 := NB413_408.out
                            have hnc196 := NB408_413.out
                            have hnb197 := NB413_409.out
                            have hnc197 := NB409_413.out
                            have hcz198_0 : w181.cell? ⟨gb413, 0, none⟩ = some (.int .u8 0) := (blk_cell BK413.out 0).trans rfl
                            have hcz198_1 : w181.cell? ⟨gb413, 1, none⟩ = some (.int .u16 0) := (blk_cell BK413.out 1).trans rfl
                            have hfz198_0 := blk_frozen BK413.out 0
                            have hfz198_1 := blk_frozen BK413.out 1
                            try go_wp2_with (first | ((with_reducible refine gate_callee (f := 48) rfl ?_); refine goesL_ (some 67) rfl rfl Try.func48 (by kernel_rfl) rfl #[.int .i64 0] rfl (by (try simp only [List.map_toArray, List.map_cons, List.map_nil]); first | done | rfl | (simp only [List.length_drop, List.length_take]; rfl)) ?_; (with_reducible refine (vals_object.calls 0 t415 t416 t417 t418 _ A168.out).mono ?_); rintro e w199 ⟨rfl, hb⟩; refine ⟨_, rfl, ?_⟩; have n0_ := Aside0.mk (blk_below (g := gb405) (o := .cells #[.slice A0_0 l0_0.length c0_0, .slice A0_1 l0_1.length c0_1, .slice A0_2 l0_2.length c0_2, .slice A0_3 l0_3.length c0_3] 54 (0, 0)) (by (with_reducible repeat (first | refine blk_drewN ?_ _ | refine blk_drew ?_ | refine blk_alloc ?_ _)); refine blk_far ?_ NB405_413.out _; (with_reducible repeat (first | refine blk_drewN ?_ _ | refine blk_drew ?_ | refine blk_alloc ?_ _)); refine blk_far ?_ NB405_413.out _; (with_reducible repeat (first | refine blk_drewN ?_ _ | refine blk_drew ?_ | refine blk_alloc ?_ _)); refine blk_far ?_ NB405_412.out _; (with_reducible repeat (first | refine blk_drewN ?_ _ | refine blk_drew ?_ | refine blk_alloc ?_ _)); refine blk_far ?_ NB405_412.out _; (with_reducible repeat (first | refine blk_drewN ?_ _ | refine blk_drew ?_ | refine blk_alloc ?_ _)); exact BK405.out) hb); have n1_ := Aside0.mk (blk_below (g := gb406) (o := .cells #[.int .u8 a1_0, .int .u8 a1_1, .int .u16 a1_2, .int .i64 a1_3] 32 (0, 0)) (by (with_reducible repeat (first | refine blk_drewN ?_ _ | refine blk_drew ?_ | refine blk_alloc ?_ _)); refine blk_far ?_ NB406_413.out _; (with_reducible repeat (first | refine blk_drewN ?_ _ | refine blk_drew ?_ | refine blk_alloc ?_ _)); refine blk_far ?_ NB406_413.out _; (with_reducible repeat (first | refine blk_drewN ?_ _ | refine blk_drew ?_ | refine blk_alloc ?_ _)); refine blk_far ?_ NB406_412.out _; (with_reducible repeat (first | refine blk_drewN ?_ _ | refine blk_drew ?_ | refine blk_alloc ?_ _)); refine blk_far ?_ NB406_412.out _; (with_reducible repeat (first | refine blk_drewN ?_ _ | refine blk_drew ?_ | refine blk_alloc ?_ _)); exact BK406.out) hb); have n2_ := Aside0.mk (blk_below (g := gb407) (o := .cells #[.int .u8 a2_0, .int .u8 a2_1, .int .u16 a2_2, .int .i64 a2_3] 32 (0, 0)) (by (with_reducible repeat (first | refine blk_drewN ?_ _ | refine blk_drew ?_ | refine blk_alloc ?_ _)); refine blk_far ?_ NB407_413.out _; (with_reducible repeat (first | refine blk_drewN ?_ _ | refine blk_drew ?_ | refine blk_alloc ?_ _)); refine blk_far ?_ NB407_413.out _; (with_reducible repeat (first | refine blk_drewN ?_ _ | refine blk_drew ?_ | refine blk_alloc ?_ _)); refine blk_far ?_ NB407_412.out _; (with_reducible repeat (first | refine blk_drewN ?_ _ | refine blk_drew ?_ | refine blk_alloc ?_ _)); refine blk_far ?_ NB407_412.out _; (with_reducible repeat (first | refine blk_drewN ?_ _ | refine blk_drew ?_ | refine blk_alloc ?_ _)); exact BK407.out) hb); have n3_ := Aside0.mk (blk_below (g := gb408) (o := .cells #[.int .u8 0, .int .u8 0, .int .u16 0, .int .i64 0] 32 (0, 0)) (by (with_reducible repeat (first | refine blk_drewN ?_ _ | refine blk_drew ?_ | refine blk_alloc ?_ _)); refine blk_far ?_ NB408_413.out _; (with_reducible repeat (first | refine blk_drewN ?_ _ | refine blk_drew ?_ | refine blk_alloc ?_ _)); refine blk_far ?_ NB408_413.out _; (with_reducible repeat (first | refine blk_drewN ?_ _ | refine blk_drew ?_ | refine blk_alloc ?_ _)); refine blk_far ?_ NB408_412.out _; (with_reducible repeat (first | refine blk_drewN ?_ _ | refine blk_drew ?_ | refine blk_alloc ?_ _)); refine blk_far ?_ NB408_412.out _; (with_reducible repeat (first | refine blk_drewN ?_ _ | refine blk_drew ?_ | refine blk_alloc ?_ _)); exact BK408.out) hb); have n4_ := Aside0.mk (blk_below (g := gb409) (o := .cells #[.int .u8 1, .int .u8 0, .int .u16 0, .int .i64 0] 32 (0, 0)) (by (with_reducible repeat (first | refine blk_drewN ?_ _ | refine blk_drew ?_ | refine blk_alloc ?_ _)); refine blk_far ?_ NB409_413.out _; (with_reducible repeat (first | refine blk_drewN ?_ _ | refine blk_drew ?_ | refine blk_alloc ?_ _)); refine blk_far ?_ NB409_413.out _; (with_reducible repeat (first | refine blk_drewN ?_ _ | refine blk_drew ?_ | refine blk_alloc ?_ _)); refine blk_far ?_ NB409_412.out _; (with_reducible repeat (first | refine blk_drewN ?_ _ | refine blk_drew ?_ | refine blk_alloc ?_ _)); refine blk_far ?_ NB409_412.out _; (with_reducible repeat (first | refine blk_drewN ?_ _ | refine blk_drew ?_ | refine blk_alloc ?_ _)); exact BK409.out) hb); have n5_ := Aside0.mk (blk_below (g := gb412) (o := .cells #[.int .u8 a1_1, .int .u16 a1_2] 30 (0, 0)) (by (with_reducible repeat (first | refine blk_drewN ?_ _ | refine blk_drew ?_ | refine blk_alloc ?_ _)); refine blk_far ?_ NB412_413.out _; (with_reducible repeat (first | refine blk_drewN ?_ _ | refine blk_drew ?_ | refine blk_alloc ?_ _)); refine blk_far ?_ NB412_413.out _; (with_reducible repeat (first | refine blk_drewN ?_ _ | refine blk_drew ?_ | refine blk_alloc ?_ _)); refine blk_put (cs := #[.int .u8 a1_1, .int .u16 0]) ?_ 1 _ rfl; (with_reducible repeat (first | refine blk_drewN ?_ _ | refine blk_drew ?_ | refine blk_alloc ?_ _)); refine blk_put (cs := #[.int .u8 0, .int .u16 0]) ?_ 0 _ rfl; (with_reducible repeat (first | refine blk_drewN ?_ _ | refine blk_drew ?_ | refine blk_alloc ?_ _)); exact BK412.out) hb); have n6_ := Aside0.mk (blk_below (g := gb413) (o := .cells #[.int .u8 a2_1, .int .u16 a2_2] 30 (0, 0)) (by (with_reducible repeat (first | refine blk_drewN ?_ _ | refine blk_drew ?_ | refine blk_alloc ?_ _)); refine blk_put (cs := #[.int .u8 a2_1, .int .u16 0]) ?_ 1 _ rfl; (with_reducible repeat (first | refine blk_drewN ?_ _ | refine blk_drew ?_ | refine blk_alloc ?_ _)); refine blk_put (cs := #[.int .u8 0, .int .u16 0]) ?_ 0 _ rfl; (with_reducible repeat (first | refine blk_drewN ?_ _ | refine blk_drew ?_ | refine blk_alloc ?_ _)); refine blk_far ?_ NB413_412.out _; (with_reducible repeat (first | refine blk_drewN ?_ _ | refine blk_drew ?_ | refine blk_alloc ?_ _)); refine blk_far ?_ NB413_412.out _; (with_reducible repeat (first | refine blk_drewN ?_ _ | refine blk_drew ?_ | refine blk_alloc ?_ _)); exact BK413.out) hb); have n7_ := Aside0.mk (below_step (by repeat (first | (with_reducible first | exact HB.out | apply below_alloc | apply pw_below_drewN | apply below_drew1 | refine below_set ?_ GE405.out | refine below_set ?_ GE406.out | refine below_set ?_ GE407.out | refine below_set ?_ GE408.out | refine below_set ?_ GE409.out | refine below_set ?_ GE412.out | refine below_set ?_ GE413.out) | exact HB.out)) hb); clear BK405; clear BK406; clear BK407; clear BK408; clear BK409; clear BK412; clear BK413; clear HB; have BK405 := n0_; have BK406 := n1_; have BK407 := n2_; have BK408 := n3_; have BK409 := n4_; have BK412 := n5_; have BK413 := n6_; have HB := n7_; clear n0_ n1_ n2_ n3_ n4_ n5_ n6_ n7_; (try clear hb); (try clear hb2); (try clear hk); (try clear hi); have hnb200 := NB408_405.out; have hnc200 := NB405_408.out; have hnb201 := NB408_409.out; have hnc201 := NB409_408.out; have hcz202_0 : w199.cell? ⟨gb408, 0, none⟩ = some (.int .u8 0) := (blk_cell BK408.out 0).trans rfl; have hcz202_1 : w199.cell? ⟨gb408, 1, none⟩ = some (.int .u8 0) := (blk_cell BK408.out 1).trans rfl; have hcz202_2 : w199.cell? ⟨gb408, 2, none⟩ = some (.int .u16 0) := (blk_cell BK408.out 2).trans rfl; have hcz202_3 : w199.cell? ⟨gb408, 3, none⟩ = some (.int .i64 0) := (blk_cell BK408.out 3).trans rfl; have hfz202_0 := blk_frozen BK408.out 0; have hfz202_1 := blk_frozen BK408.out 1; have hfz202_2 := blk_frozen BK408.out 2; have hfz202_3 := blk_frozen BK408.out 3))
                            refine bodyPost_ret (results_cell_row rfl _ _ gb408 32 #[.int .u8 t415, .int .u8 t416, .int .u16 t417, .int .i64 t418] (0, 0) _ rfl (by (with_reducible repeat (first | refine blk_drewN ?_ _ | refine blk_drew ?_ | refine blk_alloc ?_ _)); refine blk_put (cs := #[.int .u8 t415, .int .u8 t416, .int .u16 t417, .int .i64 0]) ?_ 3 _ rfl; (with_reducible repeat (first | refine blk_drewN ?_ _ | refine blk_drew ?_ | refine blk_alloc ?_ _)); refine blk_put (cs := #[.int .u8 t415, .int .u8 t416, .int .u16 0, .int .i64 0]) ?_ 2 _ rfl; (with_reducible repeat (first | refine blk_drewN ?_ _ | refine blk_drew ?_ | refine blk_alloc ?_ _)); refine blk_put (cs := #[.int .u8 t415, .int .u8 0, .int .u16 0, .int .i64 0]) ?_ 1 _ rfl; (with_reducible repeat (first | refine blk_drewN ?_ _ | refine blk_drew ?_ | refine blk_alloc ?_ _)); refine blk_put (cs := #[.int .u8 0, .int .u8 0, .int .u16 0, .int .i64 0]) ?_ 0 _ rfl; (with_reducible repeat (first | refine blk_drewN ?_ _ | refine blk_drew ?_ | refine blk_alloc ?_ _)); exact BK408.out) Try.underlying32 rfl (by kernel_rfl)) rfl ?_
                            exact ⟨by first | rfl | (simp [errW_none, errW_some] <;> rfl) | (simp [*, errW_none, errW_some] <;> rfl), by repeat (first | (with_reducible first | exact HB.out | apply below_alloc | apply pw_below_drewN | apply below_drew1 | refine below_set ?_ GE405.out | refine below_set ?_ GE406.out | refine below_set ?_ GE407.out | refine below_set ?_ GE408.out | refine below_set ?_ GE409.out | refine below_set ?_ GE412.out | refine below_set ?_ GE413.out) | exact HB.out)⟩
                        · rw [if_neg c128] at H
                          have c128b0 : (a2_0 == 4) = false := beq_eq_false_iff_ne.mpr c128
                          have c128b1 : (a2_0 != 4) = true := bne_iff_ne.mpr c128
                          simp only [Option.some.injEq, Prod.mk.injEq] at H
                          obtain ⟨rfl, rfl, rfl, rfl⟩ := H
                          have hnb203 := NB406_405.out
                          have hnc203 := NB405_406.out
                          have hnb204 := NB406_407.out
                          have hnc204 := NB407_406.out
                          have hnb205 := NB406_408.out
                          have hnc205 := NB408_406.out
                          have hnb206 := NB406_409.out
                          have hnc206 := NB409_406.out
                          have hcz207_0 : wc.cell? ⟨gb406, 0, none⟩ = some (.int .u8 a1_0) := (blk_cell BK406.out 0).trans rfl
                          have hcz207_1 : wc.cell? ⟨gb406, 1, none⟩ = some (.int .u8 a1_1) := (blk_cell BK406.out 1).trans rfl
                          have hcz207_2 : wc.cell? ⟨gb406, 2, none⟩ = some (.int .u16 a1_2) := (blk_cell BK406.out 2).trans rfl
                          have hcz207_3 : wc.cell? ⟨gb406, 3, none⟩ = some (.int .i64 a1_3) := (blk_cell BK406.out 3).trans rfl
                          have hfz207_0 := blk_frozen BK406.out 0
                          have hfz207_1 := blk_frozen BK406.out 1
                          have hfz207_2 := blk_frozen BK406.out 2
                          have hfz207_3 := blk_frozen BK406.out 3
                          have hnb208 := NB407_405.out
                          have hnc208 := NB405_407.out
                          have hnb209 := NB407_408.out
                          have hnc209 := NB408_407.out
                          have hnb210 := NB407_409.out
                          have hnc210 := NB409_407.out
                          have hcz211_0 : wc.cell? ⟨gb407, 0, none⟩ = some (.int .u8 a2_0) := (blk_cell BK407.out 0).trans rfl
                          have hcz211_1 : wc.cell? ⟨gb407, 1, none⟩ = some (.int .u8 a2_1) := (blk_cell BK407.out 1).trans rfl
                          have hcz211_2 : wc.cell? ⟨gb407, 2, none⟩ = some (.int .u16 a2_2) := (blk_cell BK407.out 2).trans rfl
                          have hcz211_3 : wc.cell? ⟨gb407, 3, none⟩ = some (.int .i64 a2_3) := (blk_cell BK407.out 3).trans rfl
                          have hfz211_0 := blk_frozen BK407.out 0
                          have hfz211_1 := blk_frozen BK407.out 1
                          have hfz211_2 := blk_frozen BK407.out 2
                          have hfz211_3 := blk_frozen BK407.out 3
                          have hnb212 := NB409_405.out
                          have hnc212 := NB405_409.out
                          have hnb213 := NB409_408.out
                          have hnc213 := NB408_409.out
                          have hcz214_0 : wc.cell? ⟨gb409, 0, none⟩ = some (.int .u8 1) := (blk_cell BK409.out 0).trans rfl
                          have hcz214_1 : wc.cell? ⟨gb409, 1, none⟩ = some (.int .u8 0) := (blk_cell BK409.out 1).trans rfl
                          have hcz214_2 : wc.cell? ⟨gb409, 2, none⟩ = some (.int .u16 0) := (blk_cell BK409.out 2).trans rfl
                          have hcz214_3 : wc.cell? ⟨gb409, 3, none⟩ = some (.int .i64 0) := (blk_cell BK409.out 3).trans rfl
                          have hfz214_0 := blk_frozen BK409.out 0
                          have hfz214_1 := blk_frozen BK409.out 1
                          have hfz214_2 := blk_frozen BK409.out 2
                          have hfz214_3 := blk_frozen BK409.out 3
                          have hnb215 := NB408_405.out
                          have hnc215 := NB405_408.out
                          have hcz216_0 : wc.cell? ⟨gb408, 0, none⟩ = some (.int .u8 0) := (blk_cell BK408.out 0).trans rfl
                          have hcz216_1 : wc.cell? ⟨gb408, 1, none⟩ = some (.int .u8 0) := (blk_cell BK408.out 1).trans rfl
                          have hcz216_2 : wc.cell? ⟨gb408, 2, none⟩ = some (.int .u16 0) := (blk_cell BK408.out 2).trans rfl
                          have hcz216_3 : wc.cell? ⟨gb408, 3, none⟩ = some (.int .i64 0) := (blk_cell BK408.out 3).trans rfl
                          have hfz216_0 := blk_frozen BK408.out 0
                          have hfz216_1 := blk_frozen BK408.out 1
                          have hfz216_2 := blk_frozen BK408.out 2
                          have hfz216_3 := blk_frozen BK408.out 3
                          go_wp2
                          refine bodyPost_ret (results_cell_row rfl _ _ gb408 32 #[.int .u8 1, .int .u8 0, .int .u16 0, .int .i64 0] (0, 0) _ rfl (by (with_reducible repeat (first | refine blk_drewN ?_ _ | refine blk_drew ?_ | refine blk_alloc ?_ _)); refine blk_put (cs := #[.int .u8 1, .int .u8 0, .int .u16 0, .int .i64 0]) ?_ 3 _ rfl; (with_reducible repeat (first | refine blk_drewN ?_ _ | refine blk_drew ?_ | refine blk_alloc ?_ _)); refine blk_put (cs := #[.int .u8 1, .int .u8 0, .int .u16 0, .int .i64 0]) ?_ 2 _ rfl; (with_reducible repeat (first | refine blk_drewN ?_ _ | refine blk_drew ?_ | refine blk_alloc ?_ _)); refine blk_put (cs := #[.int .u8 1, .int .u8 0, .int .u16 0, .int .i64 0]) ?_ 1 _ rfl; (with_reducible repeat (first | refine blk_drewN ?_ _ | refine blk_drew ?_ | refine blk_alloc ?_ _)); refine blk_put (cs := #[.int .u8 0, .int .u8 0, .int .u16 0, .int .i64 0]) ?_ 0 _ rfl; (with_reducible repeat (first | refine blk_drewN ?_ _ | refine blk_drew ?_ | refine blk_alloc ?_ _)); exact BK408.out) Try.underlying32 rfl (by kernel_rfl)) rfl ?_
                          exact ⟨by first | rfl | (simp [errW_none, errW_some] <;> rfl) | (simp [*, errW_none, errW_some] <;> rfl), by repeat (first | (with_reducible first | exact HB.out | apply below_alloc | apply pw_below_drewN | apply below_drew1 | refine below_set ?_ GE405.out | refine below_set ?_ GE406.out | refine below_set ?_ GE407.out | refine below_set ?_ GE408.out | refine below_set ?_ GE409.out) | exact HB.out)⟩
                      · rw [if_neg c127] at H
                        have c127b0 : (a1_0 == 4) = false := beq_eq_false_iff_ne.mpr c127
                        have c127b1 : (a1_0 != 4) = true := bne_iff_ne.mpr c127
                        simp only [Option.some.injEq, Prod.mk.injEq] at H
                        obtain ⟨rfl, rfl, rfl, rfl⟩ := H
                        have hnb217 := NB406_405.out
                        have hnc217 := NB405_406.out
                        have hnb218 := NB406_407.out
                        have hnc218 := NB407_406.out
                        have hnb219 := NB406_408.out
                        have hnc219 := NB408_406.out
                        have hnb220 := NB406_409.out
                        have hnc220 := NB409_406.out
                        have hcz221_0 : wc.cell? ⟨gb406, 0, none⟩ = some (.int .u8 a1_0) := (blk_cell BK406.out 0).trans rfl
                        have hcz221_1 : wc.cell? ⟨gb406, 1, none⟩ = some (.int .u8 a1_1) := (blk_cell BK406.out 1).trans rfl
                        have hcz221_2 : wc.cell? ⟨gb406, 2, none⟩ = some (.int .u16 a1_2) := (blk_cell BK406.out 2).trans rfl
                        have hcz221_3 : wc.cell? ⟨gb406, 3, none⟩ = some (.int .i64 a1_3) := (blk_cell BK406.out 3).trans rfl
                        have hfz221_0 := blk_frozen BK406.out 0
                        have hfz221_1 := blk_frozen BK406.out 1
                        have hfz221_2 := blk_frozen BK406.out 2
                        have hfz221_3 := blk_frozen BK406.out 3
                        have hnb222 := NB409_405.out
                        have hnc222 := NB405_409.out
                        have hnb223 := NB409_407.out
                        have hnc223 := NB407_409.out
                        have hnb224 := NB409_408.out
                        have hnc224 := NB408_409.out
                        have hcz225_0 : wc.cell? ⟨gb409, 0, none⟩ = some (.int .u8 1) := (blk_cell BK409.out 0).trans rfl
                        have hcz225_1 : wc.cell? ⟨gb409, 1, none⟩ = some (.int .u8 0) := (blk_cell BK409.out 1).trans rfl
                        have hcz225_2 : wc.cell? ⟨gb409, 2, none⟩ = some (.int .u16 0) := (blk_cell BK409.out 2).trans rfl
                        have hcz225_3 : wc.cell? ⟨gb409, 3, none⟩ = some (.int .i64 0) := (blk_cell BK409.out 3).trans rfl
                        have hfz225_0 := blk_frozen BK409.out 0
                        have hfz225_1 := blk_frozen BK409.out 1
                        have hfz225_2 := blk_frozen BK409.out 2
                        have hfz225_3 := blk_frozen BK409.out 3
                        have hnb226 := NB408_405.out
                        have hnc226 := NB405_408.out
                        have hnb227 := NB408_407.out
                        have hnc227 := NB407_408.out
                        have hcz228_0 : wc.cell? ⟨gb408, 0, none⟩ = some (.int .u8 0) := (blk_cell BK408.out 0).trans rfl
                        have hcz228_1 : wc.cell? ⟨gb408, 1, none⟩ = some (.int .u8 0) := (blk_cell BK408.out 1).trans rfl
                        have hcz228_2 : wc.cell? ⟨gb408, 2, none⟩ = some (.int .u16 0) := (blk_cell BK408.out 2).trans rfl
                        have hcz228_3 : wc.cell? ⟨gb408, 3, none⟩ = some (.int .i64 0) := (blk_cell BK408.out 3).trans rfl
                        have hfz228_0 := blk_frozen BK408.out 0
                        have hfz228_1 := blk_frozen BK408.out 1
                        have hfz228_2 := blk_frozen BK408.out 2
                        have hfz228_3 := blk_frozen BK408.out 3
                        go_wp2
                        refine bodyPost_ret (results_cell_row rfl _ _ gb408 32 #[.int .u8 1, .int .u8 0, .int .u16 0, .int .i64 0] (0, 0) _ rfl (by (with_reducible repeat (first | refine blk_drewN ?_ _ | refine blk_drew ?_ | refine blk_alloc ?_ _)); refine blk_put (cs := #[.int .u8 1, .int .u8 0, .int .u16 0, .int .i64 0]) ?_ 3 _ rfl; (with_reducible repeat (first | refine blk_drewN ?_ _ | refine blk_drew ?_ | refine blk_alloc ?_ _)); refine blk_put (cs := #[.int .u8 1, .int .u8 0, .int .u16 0, .int .i64 0]) ?_ 2 _ rfl; (with_reducible repeat (first | refine blk_drewN ?_ _ | refine blk_drew ?_ | refine blk_alloc ?_ _)); refine blk_put (cs := #[.int .u8 1, .int .u8 0, .int .u16 0, .int .i64 0]) ?_ 1 _ rfl; (with_reducible repeat (first | refine blk_drewN ?_ _ | refine blk_drew ?_ | refine blk_alloc ?_ _)); refine blk_put (cs := #[.int .u8 0, .int .u8 0, .int .u16 0, .int .i64 0]) ?_ 0 _ rfl; (with_reducible repeat (first | refine blk_drewN ?_ _ | refine blk_drew ?_ | refine blk_alloc ?_ _)); exact BK408.out) Try.underlying32 rfl (by kernel_rfl)) rfl ?_
                        exact ⟨by first | rfl | (simp [errW_none, errW_some] <;> rfl) | (simp [*, errW_none, errW_some] <;> rfl), by repeat (first | (with_reducible first | exact HB.out | apply below_alloc | apply pw_below_drewN | apply below_drew1 | refine below_set ?_ GE405.out | refine below_set ?_ GE406.out | refine below_set ?_ GE407.out | refine below_set ?_ GE408.out | refine below_set ?_ GE409.out) | exact HB.out)⟩

end Go.Proofs.Ytocdpledkmmomaa.P
