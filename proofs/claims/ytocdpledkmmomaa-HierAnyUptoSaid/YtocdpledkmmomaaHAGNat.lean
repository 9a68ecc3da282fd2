import Derived.Test.YtocdpledkmmomaaHAPx0
namespace Go.Proofs.Ytocdpledkmmomaa.P
open Go.RowKit Go.Proofs.YtocdpledkmmomaaW.PrintWords Go.Proofs.YtocdpledkmmomaaW.PrintLast Go.Proofs.YtocdpledkmmomaaW.PrintMore
set_option linter.unusedVariables false
set_option linter.unusedSimpArgs false
set_option maxHeartbeats 1000000 in
set_option maxRecDepth 100000 in
theorem nat_of (a b : Int) (w : World) : Calls Try.prog 81 #[.int .u8 a, .int .u16 b] w fun e w' => e = .returned (.agg #[.int .u8 a, .int .u16 b]) ∧ Below w.heap.size w w' := by
  have hu30 := Try.underlying30
  go_enter Try.func81, Try.ntmps81
  go_wp2
  refine bodyPost_ret (v := .agg #[.int .u8 a, .int .u16 b]) (by simp [results, Try.results81, go_sem]) rfl ⟨rfl, ?_⟩
  repeat (first | exact Below.refl _ _ | refine Below.alloc ?_ (by simp) _ | refine Below.setCell ?_ (by simp) _)
set_option maxHeartbeats 1000000 in
set_option maxRecDepth 100000 in
theorem nat_static (s : ByteArray) (n a b : Int) (A : Option Addr) (m c : Nat) (w : World) : Calls Try.prog 84 #[.string s, .int .i64 n, .agg #[.int .u8 a, .int .u16 b], .slice A m c] w fun e w' => e = .returned (.agg #[.string s, .int .i64 n, .int .u8 1, .int .u8 a, .int .u16 b, .slice A m c]) ∧ Below w.heap.size w w' := by
  have hu30 := Try.underlying30
  have hu133 := Try.underlying133
  go_enter Try.func84, Try.ntmps84
  go_wp2
  refine bodyPost_ret (v := .agg #[.string s, .int .i64 n, .int .u8 1, .int .u8 a, .int .u16 b, .slice A m c]) (by simp [results, Try.results84, go_sem]) rfl ⟨rfl, ?_⟩
  repeat (first | exact Below.refl _ _ | refine Below.alloc ?_ (by simp) _ | refine Below.setCell ?_ (by simp) _)
set_option maxHeartbeats 1000000 in
set_option maxRecDepth 100000 in
theorem nat_virtual (s : ByteArray) (n a b : Int) (A : Option Addr) (m c : Nat) (w : World) : Calls Try.prog 83 #[.string s, .int .i64 n, .agg #[.int .u8 a, .int .u16 b], .slice A m c] w fun e w' => e = .returned (.agg #[.string s, .int .i64 n, .int .u8 0, .int .u8 a, .int .u16 b, .slice A m c]) ∧ Below w.heap.size w w' := by
  have hu30 := Try.underlying30
  have hu133 := Try.underlying133
  go_enter Try.func83, Try.ntmps83
  go_wp2
  refine bodyPost_ret (v := .agg #[.string s, .int .i64 n, .int .u8 0, .int .u8 a, .int .u16 b, .slice A m c]) (by simp [results, Try.results83, go_sem]) rfl ⟨rfl, ?_⟩
  repeat (first | exact Below.refl _ _ | refine Below.alloc ?_ (by simp) _ | refine Below.setCell ?_ (by simp) _)
def natName : ByteArray := ⟨#[99, 111, 110, 115, 116, 114, 117, 99, 116, 111, 114]⟩
set_option maxHeartbeats 1000000 in
set_option maxRecDepth 100000 in
theorem nat_constructor (n : Int) (A : Option Addr) (m c : Nat) (w : World) : Calls Try.prog 82 #[.int .i64 n, .slice A m c] w fun e w' => e = .returned (.agg #[.string natName, .int .i64 n, .int .u8 4, .int .u8 0, .int .u16 0, .slice A m c]) ∧ Below w.heap.size w w' := by
  have hu30 := Try.underlying30
  have hu133 := Try.underlying133
  go_enter Try.func82, Try.ntmps82
  go_wp2
  refine bodyPost_ret (v := .agg #[.string natName, .int .i64 n, .int .u8 4, .int .u8 0, .int .u16 0, .slice A m c]) (by simp [results, Try.results82, go_sem, natName]) rfl ⟨rfl, ?_⟩
  repeat (first | exact Below.refl _ _ | refine Below.alloc ?_ (by simp) _ | refine Below.setCell ?_ (by simp) _)
end Go.Proofs.Ytocdpledkmmomaa.P
