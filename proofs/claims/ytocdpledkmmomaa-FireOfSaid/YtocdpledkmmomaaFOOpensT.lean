/- What a reading tells, type by type (printed by genopens.py). -/
import Derived.Test.YtocdpledkmmomaaFOPx0
import Derived.Test.YtocdpledkmmomaaFOOpens
namespace Go.Proofs.Ytocdpledkmmomaa.P
open Go.RowKit Go.ChangeShapes Go.WideShapes Go.Proofs.YtocdpledkmmomaaW.PrintWords Go.Proofs.YtocdpledkmmomaaW.PrintLast Go.Proofs.YtocdpledkmmomaaW.PrintMore
set_option linter.unusedVariables false
def ok3 (y : Int) : Prop := (Lit.int .i64 y).wf = true
theorem o3 : Opens Try.prog 3 (Kd.int .i64) ok3 := opens_int Try.underlying3 (by kernel_rfl)
def ok72 (y : Int) : Prop := (Lit.int .u8 y).wf = true
theorem o72 : Opens Try.prog 72 (Kd.int .u8) ok72 := opens_int Try.underlying72 (by kernel_rfl)
def ok5 (y : Int) : Prop := (Lit.int .u8 y).wf = true
theorem o5 : Opens Try.prog 5 (Kd.int .u8) ok5 := opens_int Try.underlying5 (by kernel_rfl)
def ok28 (y : Int) : Prop := (Lit.int .u16 y).wf = true
theorem o28 : Opens Try.prog 28 (Kd.int .u16) ok28 := opens_int Try.underlying28 (by kernel_rfl)
def ok23 (xs : List (Int)) : Prop := xs.length ≤ maxLen ∧ ∀ y ∈ xs, ok3 y
theorem o23 : Opens Try.prog 23 (Kd.slice 3 (Kd.int .i64)) ok23 := opens_slice Try.underlying23 (by kernel_rfl) o3
def ok73 (xs : List (Int)) : Prop := xs.length ≤ maxLen ∧ ∀ y ∈ xs, ok28 y
theorem o73 : Opens Try.prog 73 (Kd.slice 28 (Kd.int .u16)) ok73 := opens_slice Try.underlying73 (by kernel_rfl) o28
def ok75 (x : S75) : Prop := ok3 x.f0 ∧ ok72 x.f1 ∧ ok3 x.f2 ∧ ok5 x.f3 ∧ ok28 x.f4 ∧ ok3 x.f5 ∧ ok3 x.f6 ∧ ok23 x.f7 ∧ ok73 x.f8 ∧ ok28 x.f9
theorem o75 : Opens Try.prog 75 k75 ok75 := (opens_struct (d := (Kd.pair (Kd.int .i64) (Kd.pair (Kd.int .u8) (Kd.pair (Kd.int .i64) (Kd.pair (Kd.int .u8) (Kd.pair (Kd.int .u16) (Kd.pair (Kd.int .i64) (Kd.pair (Kd.int .i64) (Kd.pair (Kd.slice 3 (Kd.int .i64)) (Kd.pair (Kd.slice 28 (Kd.int .u16)) (Kd.int .u16))))))))))) (fun x : S75 => (x.f0, x.f1, x.f2, x.f3, x.f4, x.f5, x.f6, x.f7, x.f8, x.f9)) (fun y => ⟨y.1, y.2.1, y.2.2.1, y.2.2.2.1, y.2.2.2.2.1, y.2.2.2.2.2.1, y.2.2.2.2.2.2.1, y.2.2.2.2.2.2.2.1, y.2.2.2.2.2.2.2.2.1, y.2.2.2.2.2.2.2.2.2⟩) (fun _ => rfl) Try.underlying75 (by kernel_rfl) (by kernel_rfl) (inLine_of (by kernel_rfl)) (opensL_cons o3 (opensL_cons o72 (opensL_cons o3 (opensL_cons o5 (opensL_cons o28 (opensL_cons o3 (opensL_cons o3 (opensL_cons o23 (opensL_cons o73 (opensL_one o28))))))))))).imp (fun _ h => h)
def ok4 (y : Bool) : Prop := True
theorem o4 : Opens Try.prog 4 Kd.bool ok4 := opens_bool Try.underlying4 (by kernel_rfl)
end Go.Proofs.Ytocdpledkmmomaa.P
