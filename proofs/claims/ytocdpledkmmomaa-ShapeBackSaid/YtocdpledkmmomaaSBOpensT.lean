import Derived.Test.YtocdpledkmmomaaSBPx0
import Derived.Test.YtocdpledkmmomaaSBOpens
namespace Go.Proofs.Ytocdpledkmmomaa.P
open Go.RowKit Go.ChangeShapes Go.WideShapes Go.Proofs.YtocdpledkmmomaaW.PrintWords Go.Proofs.YtocdpledkmmomaaW.PrintLast Go.Proofs.YtocdpledkmmomaaW.PrintMore
set_option linter.unusedVariables false
def ok3 (y : Int) : Prop := (Lit.int .i64 y).wf = true
theorem o3 : Opens Try.prog 3 (Kd.int .i64) ok3 := opens_int Try.underlying3 (by kernel_rfl)
def ok5 (y : Int) : Prop := (Lit.int .u8 y).wf = true
theorem o5 : Opens Try.prog 5 (Kd.int .u8) ok5 := opens_int Try.underlying5 (by kernel_rfl)
def ok28 (y : Int) : Prop := (Lit.int .u16 y).wf = true
theorem o28 : Opens Try.prog 28 (Kd.int .u16) ok28 := opens_int Try.underlying28 (by kernel_rfl)
def ok23 (xs : List (Int)) : Prop := xs.length ≤ maxLen ∧ ∀ y ∈ xs, ok3 y
theorem o23 : Opens Try.prog 23 (Kd.slice 3 (Kd.int .i64)) ok23 := opens_slice Try.underlying23 (by kernel_rfl) o3
def ok26 (y : Int) : Prop := (Lit.int .u8 y).wf = true
theorem o26 : Opens Try.prog 26 (Kd.int .u8) ok26 := opens_int Try.underlying26 (by kernel_rfl)
def ok27 (y : Int) : Prop := (Lit.int .u8 y).wf = true
theorem o27 : Opens Try.prog 27 (Kd.int .u8) ok27 := opens_int Try.underlying27 (by kernel_rfl)
def ok30 (x : S30) : Prop := ok27 x.f0 ∧ ok28 x.f1
theorem o30 : Opens Try.prog 30 k30 ok30 := (opens_struct (d := (Kd.pair (Kd.int .u8) (Kd.int .u16))) (fun x : S30 => (x.f0, x.f1)) (fun y => ⟨y.1, y.2⟩) (fun _ => rfl) Try.underlying30 (by kernel_rfl) (by kernel_rfl) (inLine_of (by kernel_rfl)) (opensL_cons o27 (opensL_one o28))).imp (fun _ h => h)
def ok32 (x : S32) : Prop := ok26 x.f0 ∧ ok30 x.f1 ∧ ok3 x.f2
theorem o32 : Opens Try.prog 32 k32 ok32 := (opens_struct (d := (Kd.pair (Kd.int .u8) (Kd.pair k30 (Kd.int .i64)))) (fun x : S32 => (x.f0, x.f1, x.f2)) (fun y => ⟨y.1, y.2.1, y.2.2⟩) (fun _ => rfl) Try.underlying32 (by kernel_rfl) (by kernel_rfl) (inLine_of (by kernel_rfl)) (opensL_cons o26 (opensL_cons o30 (opensL_one o3)))).imp (fun _ h => h)
def ok22 (xs : List (S32)) : Prop := xs.length ≤ maxLen ∧ ∀ y ∈ xs, ok32 y
theorem o22 : Opens Try.prog 22 (Kd.slice 32 k32) ok22 := opens_slice Try.underlying22 (by kernel_rfl) o32
def ok25 (x : (List (S32)) × (List (S32)) × (List (Int))) : Prop := ok22 (x.1) ∧ ok22 (x.2.1) ∧ ok23 (x.2.2)
theorem o25 : Opens Try.prog 25 (Kd.iso (Kd.pair (Kd.slice 32 k32) (Kd.pair (Kd.slice 32 k32) (Kd.slice 3 (Kd.int .i64)))) id) ok25 := (opens_struct (d := (Kd.pair (Kd.slice 32 k32) (Kd.pair (Kd.slice 32 k32) (Kd.slice 3 (Kd.int .i64))))) id id (fun _ => rfl) Try.underlying25 (by kernel_rfl) (by kernel_rfl) (inLine_of (by kernel_rfl)) (opensL_cons o22 (opensL_cons o22 (opensL_one o23)))).imp (fun _ h => h)
def ok4 (y : Bool) : Prop := True
theorem o4 : Opens Try.prog 4 Kd.bool ok4 := opens_bool Try.underlying4 (by kernel_rfl)
end Go.Proofs.Ytocdpledkmmomaa.P
