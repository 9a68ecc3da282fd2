import Derived.Test.YtocdpledkmmomaaHABulkOpens
import Derived.Test.YtocdpledkmmomaaHAPx0
namespace Go.Proofs.Ytocdpledkmmomaa.P
open Go.RowKit Go.ChangeShapes Go.WideShapes Go.Proofs.YtocdpledkmmomaaW.PrintWords Go.Proofs.YtocdpledkmmomaaW.PrintLast Go.Proofs.YtocdpledkmmomaaW.PrintMore
set_option linter.unusedVariables false
theorem b105 : OpensB Try.prog 1048576 105 (Kd.slice 107 k107) (fun xs => xs.length ≤ 1048576) := (opensB_slice Try.underlying105 (by kernel_rfl) (Opens.b o107)).imp fun _ h => h.1
theorem b110 : OpensB Try.prog 1048576 110 k110 (fun x => x.f3.length ≤ 1048576) := (opensB_struct (d := (Kd.pair (Kd.int .i64) (Kd.pair (Kd.int .u8) (Kd.pair (Kd.int .i64) (Kd.pair (Kd.slice 107 k107) (Kd.pair (Kd.slice 30 k30) (Kd.pair (Kd.slice 3 (Kd.int .i64)) (Kd.slice 82 k82)))))))) (fun x : S110 => (x.f0, x.f1, x.f2, x.f3, x.f4, x.f5, x.f6)) (fun y => ⟨y.1, y.2.1, y.2.2.1, y.2.2.2.1, y.2.2.2.2.1, y.2.2.2.2.2.1, y.2.2.2.2.2.2⟩) (fun _ => rfl) Try.underlying110 (by kernel_rfl) (by kernel_rfl) (inLine_of (by kernel_rfl)) (opensLB_cons (Opens.b o3) (opensLB_cons (Opens.b o5) (opensLB_cons (Opens.b o3) (opensLB_cons b105 (opensLB_cons (Opens.b o80) (opensLB_cons (Opens.b o23) (opensLB_one (Opens.b o108))))))))).imp fun _ h => h.2.2.2.1
theorem b49 : OpensB Try.prog 1048576 49 (Kd.slice 110 k110) (fun xs => xs.length ≤ 1048576 ∧ ∀ c ∈ xs, c.f3.length ≤ 1048576) := opensB_slice Try.underlying49 (by kernel_rfl) b110
theorem b54 : OpensB Try.prog 1048576 54 (Kd.iso (Kd.pair (Kd.slice 110 k110) (Kd.pair (Kd.slice 86 k86) (Kd.pair (Kd.slice 185 k185) (Kd.slice 124 k124)))) id) (fun x => x.1.length ≤ 1048576 ∧ ∀ c ∈ x.1, c.f3.length ≤ 1048576) := (opensB_struct (d := (Kd.pair (Kd.slice 110 k110) (Kd.pair (Kd.slice 86 k86) (Kd.pair (Kd.slice 185 k185) (Kd.slice 124 k124))))) id id (fun _ => rfl) Try.underlying54 (by kernel_rfl) (by kernel_rfl) (inLine_of (by kernel_rfl)) (opensLB_cons b49 (opensLB_cons (Opens.b o50) (opensLB_cons (Opens.b o51) (opensLB_one (Opens.b o52)))))).imp fun _ h => h.1
end Go.Proofs.Ytocdpledkmmomaa.P
namespace Go.Proofs.Ytocdpledkmmomaa.P
open Go.RowKit Go.Proofs.YtocdpledkmmomaaW.PrintWords Go.Proofs.YtocdpledkmmomaaW.PrintLast Go.Proofs.YtocdpledkmmomaaW.PrintMore
attribute [local go_sem] max2_int min2_int max_two min_two max_three min_three max_four min_four   -- for this text's walks alone
set_option linter.unusedVariables false
set_option linter.unusedSimpArgs false

theorem eqA30 (d : Nat) (w : World) (x0 y0 : Int) (x1 y1 : Int) :
    (Op.equalIn (d + 2) 30 (.agg #[.int .u8 x0, .int .u16 x1]) (.agg #[.int .u8 y0, .int .u16 y1])).run Try.prog w = .ok (x0 == y0 && (x1 == y1)) w := by
  refine eqA_of Try.underlying30 (by kernel_rfl) ?_
  refine eqf_cons (by rfl) (by go_simp; rfl) (by go_simp; rfl) (by go_simp) ?_
  exact eqf_last (by rfl) (by go_simp; rfl) (by go_simp; rfl) (by go_simp)
end Go.Proofs.Ytocdpledkmmomaa.P
namespace Go.Proofs.Ytocdpledkmmomaa.P
open Go.RowKit Go.Proofs.YtocdpledkmmomaaW.PrintWords Go.Proofs.YtocdpledkmmomaaW.PrintLast Go.Proofs.YtocdpledkmmomaaW.PrintMore
attribute [local go_sem] max2_int min2_int max_two min_two max_three min_three max_four min_four   -- for this text's walks alone
set_option linter.unusedVariables false
set_option linter.unusedSimpArgs false

theorem eqA32 (d : Nat) (w : World) (x0 y0 : Int) (x1 y1 : Int) (x2 y2 : Int) (x3 y3 : Int) :
    (Op.equalIn (d + 3) 32 (.agg #[.int .u8 x0, .int .u8 x1, .int .u16 x2, .int .i64 x3]) (.agg #[.int .u8 y0, .int .u8 y1, .int .u16 y2, .int .i64 y3])).run Try.prog w = .ok (x0 == y0 && ((x1 == y1 && (x2 == y2)) && (x3 == y3))) w := by
  refine eqA_of Try.underlying32 (by kernel_rfl) ?_
  refine eqf_cons (by rfl) (by go_simp; rfl) (by go_simp; rfl) (by go_simp) ?_
  refine eqf_cons (by rfl) (by go_simp) (by go_simp) (eqA30 (d + 0) w _ _ _ _) ?_
  exact eqf_last (by rfl) (by go_simp; rfl) (by go_simp; rfl) (by go_simp)
end Go.Proofs.Ytocdpledkmmomaa.P
