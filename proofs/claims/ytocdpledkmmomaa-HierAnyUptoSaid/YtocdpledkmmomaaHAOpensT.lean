import Derived.Test.YtocdpledkmmomaaHAPx0
import Derived.Test.YtocdpledkmmomaaHAOpens
namespace Go.Proofs.Ytocdpledkmmomaa.P
open Go.RowKit Go.ChangeShapes Go.WideShapes Go.Proofs.YtocdpledkmmomaaW.PrintWords Go.Proofs.YtocdpledkmmomaaW.PrintLast Go.Proofs.YtocdpledkmmomaaW.PrintMore
set_option linter.unusedVariables false
def ok3 (y : Int) : Prop := (Lit.int .i64 y).wf = true
theorem o3 : Opens Try.prog 3 (Kd.int .i64) ok3 := opens_int Try.underlying3 (by kernel_rfl)
def ok72 (y : Int) : Prop := (Lit.int .u8 y).wf = true
theorem o72 : Opens Try.prog 72 (Kd.int .u8) ok72 := opens_int Try.underlying72 (by kernel_rfl)
def ok5 (y : Int) : Prop := (Lit.int .u8 y).wf = true
theorem o5 : Opens Try.prog 5 (Kd.int .u8) ok5 := opens_int Try.underlying5 (by kernel_rfl)
def ok28 (y : Int) : Prop := (Lit.int .u16 y).wf = true
theorem o28 : Opens Try.prog 28 (Kd.int .u16) ok28 := opens_int Try.underlying28 (by kernel_rfl)
def ok23 (xs : List (Int)) : Prop := xs.length ≤ maxLen ∧ ∀ y ∈ xs, ok3 y
theorem o23 : Opens Try.prog 23 (Kd.slice 3 (Kd.int .i64)) ok23 := opens_slice Try.underlying23 (by kernel_rfl) o3
def ok73 (xs : List (Int)) : Prop := xs.length ≤ maxLen ∧ ∀ y ∈ xs, ok28 y
theorem o73 : Opens Try.prog 73 (Kd.slice 28 (Kd.int .u16)) ok73 := opens_slice Try.underlying73 (by kernel_rfl) o28
def ok75 (x : S75) : Prop := ok3 x.f0 ∧ ok72 x.f1 ∧ ok3 x.f2 ∧ ok5 x.f3 ∧ ok28 x.f4 ∧ ok3 x.f5 ∧ ok3 x.f6 ∧ ok23 x.f7 ∧ ok73 x.f8 ∧ ok28 x.f9
theorem o75 : Opens Try.prog 75 k75 ok75 := (opens_struct (d := (Kd.pair (Kd.int .i64) (Kd.pair (Kd.int .u8) (Kd.pair (Kd.int .i64) (Kd.pair (Kd.int .u8) (Kd.pair (Kd.int .u16) (Kd.pair (Kd.int .i64) (Kd.pair (Kd.int .i64) (Kd.pair (Kd.slice 3 (Kd.int .i64)) (Kd.pair (Kd.slice 28 (Kd.int .u16)) (Kd.int .u16))))))))))) (fun x : S75 => (x.f0, x.f1, x.f2, x.f3, x.f4, x.f5, x.f6, x.f7, x.f8, x.f9)) (fun y => ⟨y.1, y.2.1, y.2.2.1, y.2.2.2.1, y.2.2.2.2.1, y.2.2.2.2.2.1, y.2.2.2.2.2.2.1, y.2.2.2.2.2.2.2.1, y.2.2.2.2.2.2.2.2.1, y.2.2.2.2.2.2.2.2.2⟩) (fun _ => rfl) Try.underlying75 (by kernel_rfl) (by kernel_rfl) (inLine_of (by kernel_rfl)) (opensL_cons o3 (opensL_cons o72 (opensL_cons o3 (opensL_cons o5 (opensL_cons o28 (opensL_cons o3 (opensL_cons o3 (opensL_cons o23 (opensL_cons o73 (opensL_one o28))))))))))).imp (fun _ h => h)
def ok27 (y : Int) : Prop := (Lit.int .u8 y).wf = true
theorem o27 : Opens Try.prog 27 (Kd.int .u8) ok27 := opens_int Try.underlying27 (by kernel_rfl)
def ok30 (x : S30) : Prop := ok27 x.f0 ∧ ok28 x.f1
theorem o30 : Opens Try.prog 30 k30 ok30 := (opens_struct (d := (Kd.pair (Kd.int .u8) (Kd.int .u16))) (fun x : S30 => (x.f0, x.f1)) (fun y => ⟨y.1, y.2⟩) (fun _ => rfl) Try.underlying30 (by kernel_rfl) (by kernel_rfl) (inLine_of (by kernel_rfl)) (opensL_cons o27 (opensL_one o28))).imp (fun _ h => h)
def ok107 (x : S107) : Prop := ok3 x.f0 ∧ ok23 x.f1
theorem o107 : Opens Try.prog 107 k107 ok107 := (opens_struct (d := (Kd.pair (Kd.int .i64) (Kd.slice 3 (Kd.int .i64)))) (fun x : S107 => (x.f0, x.f1)) (fun y => ⟨y.1, y.2⟩) (fun _ => rfl) Try.underlying107 (by kernel_rfl) (by kernel_rfl) (inLine_of (by kernel_rfl)) (opensL_cons o3 (opensL_one o23))).imp (fun _ h => h)
def ok80 (xs : List (S30)) : Prop := xs.length ≤ maxLen ∧ ∀ y ∈ xs, ok30 y
theorem o80 : Opens Try.prog 80 (Kd.slice 30 k30) ok80 := opens_slice Try.underlying80 (by kernel_rfl) o30
def ok82 (x : S82) : Prop := ok80 x.f0 ∧ ok30 x.f1
theorem o82 : Opens Try.prog 82 k82 ok82 := (opens_struct (d := (Kd.pair (Kd.slice 30 k30) k30)) (fun x : S82 => (x.f0, x.f1)) (fun y => ⟨y.1, y.2⟩) (fun _ => rfl) Try.underlying82 (by kernel_rfl) (by kernel_rfl) (inLine_of (by kernel_rfl)) (opensL_cons o80 (opensL_one o30))).imp (fun _ h => h)
def ok108 (xs : List (S82)) : Prop := xs.length ≤ maxLen ∧ ∀ y ∈ xs, ok82 y
theorem o108 : Opens Try.prog 108 (Kd.slice 82 k82) ok108 := opens_slice Try.underlying108 (by kernel_rfl) o82
def ok83 (xs : List (S75)) : Prop := xs.length ≤ maxLen ∧ ∀ y ∈ xs, ok75 y
theorem o83 : Opens Try.prog 83 (Kd.slice 75 k75) ok83 := opens_slice Try.underlying83 (by kernel_rfl) o75
def ok187 (x : S187) : Prop := ok3 x.f0 ∧ ok3 x.f1 ∧ ok3 x.f2 ∧ ok3 x.f3
theorem o187 : Opens Try.prog 187 k187 ok187 := (opens_struct (d := (Kd.pair (Kd.int .i64) (Kd.pair (Kd.int .i64) (Kd.pair (Kd.int .i64) (Kd.int .i64))))) (fun x : S187 => (x.f0, x.f1, x.f2, x.f3)) (fun y => ⟨y.1, y.2.1, y.2.2.1, y.2.2.2⟩) (fun _ => rfl) Try.underlying187 (by kernel_rfl) (by kernel_rfl) (inLine_of (by kernel_rfl)) (opensL_cons o3 (opensL_cons o3 (opensL_cons o3 (opensL_one o3))))).imp (fun _ h => h)
def ok84 (xs : List (S187)) : Prop := xs.length ≤ maxLen ∧ ∀ y ∈ xs, ok187 y
theorem o84 : Opens Try.prog 84 (Kd.slice 187 k187) ok84 := opens_slice Try.underlying84 (by kernel_rfl) o187
def ok86 (x : S86) : Prop := ok3 x.f0 ∧ ok5 x.f1 ∧ ok3 x.f2 ∧ ok82 x.f3 ∧ ok3 x.f4 ∧ ok3 x.f5 ∧ ok83 x.f6 ∧ ok84 x.f7 ∧ ok3 x.f8
theorem o86 : Opens Try.prog 86 k86 ok86 := (opens_struct (d := (Kd.pair (Kd.int .i64) (Kd.pair (Kd.int .u8) (Kd.pair (Kd.int .i64) (Kd.pair k82 (Kd.pair (Kd.int .i64) (Kd.pair (Kd.int .i64) (Kd.pair (Kd.slice 75 k75) (Kd.pair (Kd.slice 187 k187) (Kd.int .i64)))))))))) (fun x : S86 => (x.f0, x.f1, x.f2, x.f3, x.f4, x.f5, x.f6, x.f7, x.f8)) (fun y => ⟨y.1, y.2.1, y.2.2.1, y.2.2.2.1, y.2.2.2.2.1, y.2.2.2.2.2.1, y.2.2.2.2.2.2.1, y.2.2.2.2.2.2.2.1, y.2.2.2.2.2.2.2.2⟩) (fun _ => rfl) Try.underlying86 (by kernel_rfl) (by kernel_rfl) (inLine_of (by kernel_rfl)) (opensL_cons o3 (opensL_cons o5 (opensL_cons o3 (opensL_cons o82 (opensL_cons o3 (opensL_cons o3 (opensL_cons o83 (opensL_cons o84 (opensL_one o3)))))))))).imp (fun _ h => h)
def ok50 (xs : List (S86)) : Prop := xs.length ≤ maxLen ∧ ∀ y ∈ xs, ok86 y
theorem o50 : Opens Try.prog 50 (Kd.slice 86 k86) ok50 := opens_slice Try.underlying50 (by kernel_rfl) o86
def ok185 (x : S185) : Prop := ok3 x.f0 ∧ ok30 x.f1
theorem o185 : Opens Try.prog 185 k185 ok185 := (opens_struct (d := (Kd.pair (Kd.int .i64) k30)) (fun x : S185 => (x.f0, x.f1)) (fun y => ⟨y.1, y.2⟩) (fun _ => rfl) Try.underlying185 (by kernel_rfl) (by kernel_rfl) (inLine_of (by kernel_rfl)) (opensL_cons o3 (opensL_one o30))).imp (fun _ h => h)
def ok51 (xs : List (S185)) : Prop := xs.length ≤ maxLen ∧ ∀ y ∈ xs, ok185 y
theorem o51 : Opens Try.prog 51 (Kd.slice 185 k185) ok51 := opens_slice Try.underlying51 (by kernel_rfl) o185
def ok118 (xs : List (Int)) : Prop := xs.length ≤ maxLen ∧ ∀ y ∈ xs, ok5 y
theorem o118 : Opens Try.prog 118 (Kd.slice 5 (Kd.int .u8)) ok118 := opens_slice Try.underlying118 (by kernel_rfl) o5
def ok120 (x : S120) : Prop := ok5 x.f0 ∧ ok5 x.f1
theorem o120 : Opens Try.prog 120 k120 ok120 := (opens_struct (d := (Kd.pair (Kd.int .u8) (Kd.int .u8))) (fun x : S120 => (x.f0, x.f1)) (fun y => ⟨y.1, y.2⟩) (fun _ => rfl) Try.underlying120 (by kernel_rfl) (by kernel_rfl) (inLine_of (by kernel_rfl)) (opensL_cons o5 (opensL_one o5))).imp (fun _ h => h)
def ok4 (y : Bool) : Prop := True
theorem o4 : Opens Try.prog 4 Kd.bool ok4 := opens_bool Try.underlying4 (by kernel_rfl)
def ok131 (x : S131) : Prop := ok3 x.f0 ∧ ok23 x.f1 ∧ ok23 x.f2
theorem o131 : Opens Try.prog 131 k131 ok131 := (opens_struct (d := (Kd.pair (Kd.int .i64) (Kd.pair (Kd.slice 3 (Kd.int .i64)) (Kd.slice 3 (Kd.int .i64))))) (fun x : S131 => (x.f0, x.f1, x.f2)) (fun y => ⟨y.1, y.2.1, y.2.2⟩) (fun _ => rfl) Try.underlying131 (by kernel_rfl) (by kernel_rfl) (inLine_of (by kernel_rfl)) (opensL_cons o3 (opensL_cons o23 (opensL_one o23)))).imp (fun _ h => h)
def ok121 (xs : List (S131)) : Prop := xs.length ≤ maxLen ∧ ∀ y ∈ xs, ok131 y
theorem o121 : Opens Try.prog 121 (Kd.slice 131 k131) ok121 := opens_slice Try.underlying121 (by kernel_rfl) o131
def ok189 (x : S189) : Prop := ok118 x.f0 ∧ ok3 x.f1
theorem o189 : Opens Try.prog 189 k189 ok189 := (opens_struct (d := (Kd.pair (Kd.slice 5 (Kd.int .u8)) (Kd.int .i64))) (fun x : S189 => (x.f0, x.f1)) (fun y => ⟨y.1, y.2⟩) (fun _ => rfl) Try.underlying189 (by kernel_rfl) (by kernel_rfl) (inLine_of (by kernel_rfl)) (opensL_cons o118 (opensL_one o3))).imp (fun _ h => h)
def ok122 (xs : List (S189)) : Prop := xs.length ≤ maxLen ∧ ∀ y ∈ xs, ok189 y
theorem o122 : Opens Try.prog 122 (Kd.slice 189 k189) ok122 := opens_slice Try.underlying122 (by kernel_rfl) o189
def ok124 (x : S124) : Prop := ok118 x.f0 ∧ ok120 x.f1 ∧ ok4 x.f2 ∧ ok121 x.f3 ∧ ok122 x.f4
theorem o124 : Opens Try.prog 124 k124 ok124 := (opens_struct (d := (Kd.pair (Kd.slice 5 (Kd.int .u8)) (Kd.pair k120 (Kd.pair Kd.bool (Kd.pair (Kd.slice 131 k131) (Kd.slice 189 k189)))))) (fun x : S124 => (x.f0, x.f1, x.f2, x.f3, x.f4)) (fun y => ⟨y.1, y.2.1, y.2.2.1, y.2.2.2.1, y.2.2.2.2⟩) (fun _ => rfl) Try.underlying124 (by kernel_rfl) (by kernel_rfl) (inLine_of (by kernel_rfl)) (opensL_cons o118 (opensL_cons o120 (opensL_cons o4 (opensL_cons o121 (opensL_one o122)))))).imp (fun _ h => h)
def ok52 (xs : List (S124)) : Prop := xs.length ≤ maxLen ∧ ∀ y ∈ xs, ok124 y
theorem o52 : Opens Try.prog 52 (Kd.slice 124 k124) ok52 := opens_slice Try.underlying52 (by kernel_rfl) o124
end Go.Proofs.Ytocdpledkmmomaa.P
