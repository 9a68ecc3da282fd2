/- fire.Of: the access of an instruction. -/
import Derived.Test.YtocdpledkmmomaaFOPx0
namespace Go.Proofs.Ytocdpledkmmomaa.P
open Go.RowKit Go.Proofs.YtocdpledkmmomaaW.PrintWords Go.Proofs.YtocdpledkmmomaaW.PrintLast Go.Proofs.YtocdpledkmmomaaW.PrintMore
set_option linter.unusedVariables false
set_option linter.unusedSimpArgs false
def accOf (op A pool : Int) : Int × Int × Bool :=
  if (131 ≤ op ∧ op ≤ 133) ∨ (135 ≤ op ∧ op ≤ 137) then (1, 0, true)
  else if (36 ≤ op ∧ op ≤ 38) ∨ (55 ≤ op ∧ op ≤ 57) ∨ op = 146 then (2, 0, true)
  else if op = 139 then (3, 0, true) else if op = 140 then (4, 0, true) else if op = 147 then (5, 0, true) else if op = 142 then (6, pool, true)
  else if op = 148 ∨ op = 149 then (if A = 0 then (7, pool, true) else (7, -1, true)) else (0, 0, false)

set_option maxHeartbeats 1000000 in
set_option maxRecDepth 100000 in
theorem fo_131 (a0 A a3 a4 pool a6 : Int) (A7 : Option Addr) (n7 c7 : Nat) (A8 : Option Addr) (n8 c8 : Nat) (a9 : Int) (w : World) :
    Calls Try.prog 35 #[.agg #[.int .i64 a0, .int .u8 131, .int .i64 A, .int .u8 a3, .int .u16 a4, .int .i64 pool, .int .i64 a6, .slice A7 n7 c7, .slice A8 n8 c8, .int .u16 a9]] w fun e w' => e = .returned (.tuple #[.agg #[.int .u8 1, .int .i64 0], .bool true]) ∧ Below w.heap.size w w' := by
  have hu75 := Try.underlying75
  have hu64 := Try.underlying64
  go_enter Try.func35, Try.ntmps35
  go_wp2
  refine bodyPost_ret (v := .tuple #[.agg #[.int .u8 1, .int .i64 0], .bool true]) (by simp [results, Try.results35, go_sem]) rfl ⟨rfl, ?_⟩
  repeat (first | exact Below.refl _ _ | refine Below.alloc ?_ (by first | (simp; done) | (simp; omega)) _ | refine Below.setCell ?_ (by first | (simp; done) | (simp; omega)) _)
set_option maxHeartbeats 1000000 in
set_option maxRecDepth 100000 in
theorem fo_132 (a0 A a3 a4 pool a6 : Int) (A7 : Option Addr) (n7 c7 : Nat) (A8 : Option Addr) (n8 c8 : Nat) (a9 : Int) (w : World) :
    Calls Try.prog 35 #[.agg #[.int .i64 a0, .int .u8 132, .int .i64 A, .int .u8 a3, .int .u16 a4, .int .i64 pool, .int .i64 a6, .slice A7 n7 c7, .slice A8 n8 c8, .int .u16 a9]] w fun e w' => e = .returned (.tuple #[.agg #[.int .u8 1, .int .i64 0], .bool true]) ∧ Below w.heap.size w w' := by
  have hu75 := Try.underlying75
  have hu64 := Try.underlying64
  go_enter Try.func35, Try.ntmps35
  go_wp2
  refine bodyPost_ret (v := .tuple #[.agg #[.int .u8 1, .int .i64 0], .bool true]) (by simp [results, Try.results35, go_sem]) rfl ⟨rfl, ?_⟩
  repeat (first | exact Below.refl _ _ | refine Below.alloc ?_ (by first | (simp; done) | (simp; omega)) _ | refine Below.setCell ?_ (by first | (simp; done) | (simp; omega)) _)
set_option maxHeartbeats 1000000 in
set_option maxRecDepth 100000 in
theorem fo_133 (a0 A a3 a4 pool a6 : Int) (A7 : Option Addr) (n7 c7 : Nat) (A8 : Option Addr) (n8 c8 : Nat) (a9 : Int) (w : World) :
    Calls Try.prog 35 #[.agg #[.int .i64 a0, .int .u8 133, .int .i64 A, .int .u8 a3, .int .u16 a4, .int .i64 pool, .int .i64 a6, .slice A7 n7 c7, .slice A8 n8 c8, .int .u16 a9]] w fun e w' => e = .returned (.tuple #[.agg #[.int .u8 1, .int .i64 0], .bool true]) ∧ Below w.heap.size w w' := by
  have hu75 := Try.underlying75
  have hu64 := Try.underlying64
  go_enter Try.func35, Try.ntmps35
  go_wp2
  refine bodyPost_ret (v := .tuple #[.agg #[.int .u8 1, .int .i64 0], .bool true]) (by simp [results, Try.results35, go_sem]) rfl ⟨rfl, ?_⟩
  repeat (first | exact Below.refl _ _ | refine Below.alloc ?_ (by first | (simp; done) | (simp; omega)) _ | refine Below.setCell ?_ (by first | (simp; done) | (simp; omega)) _)
set_option maxHeartbeats 1000000 in
set_option maxRecDepth 100000 in
theorem fo_135 (a0 A a3 a4 pool a6 : Int) (A7 : Option Addr) (n7 c7 : Nat) (A8 : Option Addr) (n8 c8 : Nat) (a9 : Int) (w : World) :
    Calls Try.prog 35 #[.agg #[.int .i64 a0, .int .u8 135, .int .i64 A, .int .u8 a3, .int .u16 a4, .int .i64 pool, .int .i64 a6, .slice A7 n7 c7, .slice A8 n8 c8, .int .u16 a9]] w fun e w' => e = .returned (.tuple #[.agg #[.int .u8 1, .int .i64 0], .bool true]) ∧ Below w.heap.size w w' := by
  have hu75 := Try.underlying75
  have hu64 := Try.underlying64
  go_enter Try.func35, Try.ntmps35
  go_wp2
  refine bodyPost_ret (v := .tuple #[.agg #[.int .u8 1, .int .i64 0], .bool true]) (by simp [results, Try.results35, go_sem]) rfl ⟨rfl, ?_⟩
  repeat (first | exact Below.refl _ _ | refine Below.alloc ?_ (by first | (simp; done) | (simp; omega)) _ | refine Below.setCell ?_ (by first | (simp; done) | (simp; omega)) _)
set_option maxHeartbeats 1000000 in
set_option maxRecDepth 100000 in
theorem fo_136 (a0 A a3 a4 pool a6 : Int) (A7 : Option Addr) (n7 c7 : Nat) (A8 : Option Addr) (n8 c8 : Nat) (a9 : Int) (w : World) :
    Calls Try.prog 35 #[.agg #[.int .i64 a0, .int .u8 136, .int .i64 A, .int .u8 a3, .int .u16 a4, .int .i64 pool, .int .i64 a6, .slice A7 n7 c7, .slice A8 n8 c8, .int .u16 a9]] w fun e w' => e = .returned (.tuple #[.agg #[.int .u8 1, .int .i64 0], .bool true]) ∧ Below w.heap.size w w' := by
  have hu75 := Try.underlying75
  have hu64 := Try.underlying64
  go_enter Try.func35, Try.ntmps35
  go_wp2
  refine bodyPost_ret (v := .tuple #[.agg #[.int .u8 1, .int .i64 0], .bool true]) (by simp [results, Try.results35, go_sem]) rfl ⟨rfl, ?_⟩
  repeat (first | exact Below.refl _ _ | refine Below.alloc ?_ (by first | (simp; done) | (simp; omega)) _ | refine Below.setCell ?_ (by first | (simp; done) | (simp; omega)) _)
set_option maxHeartbeats 1000000 in
set_option maxRecDepth 100000 in
theorem fo_137 (a0 A a3 a4 pool a6 : Int) (A7 : Option Addr) (n7 c7 : Nat) (A8 : Option Addr) (n8 c8 : Nat) (a9 : Int) (w : World) :
    Calls Try.prog 35 #[.agg #[.int .i64 a0, .int .u8 137, .int .i64 A, .int .u8 a3, .int .u16 a4, .int .i64 pool, .int .i64 a6, .slice A7 n7 c7, .slice A8 n8 c8, .int .u16 a9]] w fun e w' => e = .returned (.tuple #[.agg #[.int .u8 1, .int .i64 0], .bool true]) ∧ Below w.heap.size w w' := by
  have hu75 := Try.underlying75
  have hu64 := Try.underlying64
  go_enter Try.func35, Try.ntmps35
  go_wp2
  refine bodyPost_ret (v := .tuple #[.agg #[.int .u8 1, .int .i64 0], .bool true]) (by simp [results, Try.results35, go_sem]) rfl ⟨rfl, ?_⟩
  repeat (first | exact Below.refl _ _ | refine Below.alloc ?_ (by first | (simp; done) | (simp; omega)) _ | refine Below.setCell ?_ (by first | (simp; done) | (simp; omega)) _)
set_option maxHeartbeats 1000000 in
set_option maxRecDepth 100000 in
theorem fo_36 (a0 A a3 a4 pool a6 : Int) (A7 : Option Addr) (n7 c7 : Nat) (A8 : Option Addr) (n8 c8 : Nat) (a9 : Int) (w : World) :
    Calls Try.prog 35 #[.agg #[.int .i64 a0, .int .u8 36, .int .i64 A, .int .u8 a3, .int .u16 a4, .int .i64 pool, .int .i64 a6, .slice A7 n7 c7, .slice A8 n8 c8, .int .u16 a9]] w fun e w' => e = .returned (.tuple #[.agg #[.int .u8 2, .int .i64 0], .bool true]) ∧ Below w.heap.size w w' := by
  have hu75 := Try.underlying75
  have hu64 := Try.underlying64
  go_enter Try.func35, Try.ntmps35
  go_wp2
  refine bodyPost_ret (v := .tuple #[.agg #[.int .u8 2, .int .i64 0], .bool true]) (by simp [results, Try.results35, go_sem]) rfl ⟨rfl, ?_⟩
  repeat (first | exact Below.refl _ _ | refine Below.alloc ?_ (by first | (simp; done) | (simp; omega)) _ | refine Below.setCell ?_ (by first | (simp; done) | (simp; omega)) _)
set_option maxHeartbeats 1000000 in
set_option maxRecDepth 100000 in
theorem fo_37 (a0 A a3 a4 pool a6 : Int) (A7 : Option Addr) (n7 c7 : Nat) (A8 : Option Addr) (n8 c8 : Nat) (a9 : Int) (w : World) :
    Calls Try.prog 35 #[.agg #[.int .i64 a0, .int .u8 37, .int .i64 A, .int .u8 a3, .int .u16 a4, .int .i64 pool, .int .i64 a6, .slice A7 n7 c7, .slice A8 n8 c8, .int .u16 a9]] w fun e w' => e = .returned (.tuple #[.agg #[.int .u8 2, .int .i64 0], .bool true]) ∧ Below w.heap.size w w' := by
  have hu75 := Try.underlying75
  have hu64 := Try.underlying64
  go_enter Try.func35, Try.ntmps35
  go_wp2
  refine bodyPost_ret (v := .tuple #[.agg #[.int .u8 2, .int .i64 0], .bool true]) (by simp [results, Try.results35, go_sem]) rfl ⟨rfl, ?_⟩
  repeat (first | exact Below.refl _ _ | refine Below.alloc ?_ (by first | (simp; done) | (simp; omega)) _ | refine Below.setCell ?_ (by first | (simp; done) | (simp; omega)) _)
set_option maxHeartbeats 1000000 in
set_option maxRecDepth 100000 in
theorem fo_38 (a0 A a3 a4 pool a6 : Int) (A7 : Option Addr) (n7 c7 : Nat) (A8 : Option Addr) (n8 c8 : Nat) (a9 : Int) (w : World) :
    Calls Try.prog 35 #[.agg #[.int .i64 a0, .int .u8 38, .int .i64 A, .int .u8 a3, .int .u16 a4, .int .i64 pool, .int .i64 a6, .slice A7 n7 c7, .slice A8 n8 c8, .int .u16 a9]] w fun e w' => e = .returned (.tuple #[.agg #[.int .u8 2, .int .i64 0], .bool true]) ∧ Below w.heap.size w w' := by
  have hu75 := Try.underlying75
  have hu64 := Try.underlying64
  go_enter Try.func35, Try.ntmps35
  go_wp2
  refine bodyPost_ret (v := .tuple #[.agg #[.int .u8 2, .int .i64 0], .bool true]) (by simp [results, Try.results35, go_sem]) rfl ⟨rfl, ?_⟩
  repeat (first | exact Below.refl _ _ | refine Below.alloc ?_ (by first | (simp; done) | (simp; omega)) _ | refine Below.setCell ?_ (by first | (simp; done) | (simp; omega)) _)
set_option maxHeartbeats 1000000 in
set_option maxRecDepth 100000 in
theorem fo_55 (a0 A a3 a4 pool a6 : Int) (A7 : Option Addr) (n7 c7 : Nat) (A8 : Option Addr) (n8 c8 : Nat) (a9 : Int) (w : World) :
    Calls Try.prog 35 #[.agg #[.int .i64 a0, .int .u8 55, .int .i64 A, .int .u8 a3, .int .u16 a4, .int .i64 pool, .int .i64 a6, .slice A7 n7 c7, .slice A8 n8 c8, .int .u16 a9]] w fun e w' => e = .returned (.tuple #[.agg #[.int .u8 2, .int .i64 0], .bool true]) ∧ Below w.heap.size w w' := by
  have hu75 := Try.underlying75
  have hu64 := Try.underlying64
  go_enter Try.func35, Try.ntmps35
  go_wp2
  refine bodyPost_ret (v := .tuple #[.agg #[.int .u8 2, .int .i64 0], .bool true]) (by simp [results, Try.results35, go_sem]) rfl ⟨rfl, ?_⟩
  repeat (first | exact Below.refl _ _ | refine Below.alloc ?_ (by first | (simp; done) | (simp; omega)) _ | refine Below.setCell ?_ (by first | (simp; done) | (simp; omega)) _)
set_option maxHeartbeats 1000000 in
set_option maxRecDepth 100000 in
theorem fo_56 (a0 A a3 a4 pool a6 : Int) (A7 : Option Addr) (n7 c7 : Nat) (A8 : Option Addr) (n8 c8 : Nat) (a9 : Int) (w : World) :
    Calls Try.prog 35 #[.agg #[.int .i64 a0, .int .u8 56, .int .i64 A, .int .u8 a3, .int .u16 a4, .int .i64 pool, .int .i64 a6, .slice A7 n7 c7, .slice A8 n8 c8, .int .u16 a9]] w fun e w' => e = .returned (.tuple #[.agg #[.int .u8 2, .int .i64 0], .bool true]) ∧ Below w.heap.size w w' := by
  have hu75 := Try.underlying75
  have hu64 := Try.underlying64
  go_enter Try.func35, Try.ntmps35
  go_wp2
  refine bodyPost_ret (v := .tuple #[.agg #[.int .u8 2, .int .i64 0], .bool true]) (by simp [results, Try.results35, go_sem]) rfl ⟨rfl, ?_⟩
  repeat (first | exact Below.refl _ _ | refine Below.alloc ?_ (by first | (simp; done) | (simp; omega)) _ | refine Below.setCell ?_ (by first | (simp; done) | (simp; omega)) _)
set_option maxHeartbeats 1000000 in
set_option maxRecDepth 100000 in
theorem fo_57 (a0 A a3 a4 pool a6 : Int) (A7 : Option Addr) (n7 c7 : Nat) (A8 : Option Addr) (n8 c8 : Nat) (a9 : Int) (w : World) :
    Calls Try.prog 35 #[.agg #[.int .i64 a0, .int .u8 57, .int .i64 A, .int .u8 a3, .int .u16 a4, .int .i64 pool, .int .i64 a6, .slice A7 n7 c7, .slice A8 n8 c8, .int .u16 a9]] w fun e w' => e = .returned (.tuple #[.agg #[.int .u8 2, .int .i64 0], .bool true]) ∧ Below w.heap.size w w' := by
  have hu75 := Try.underlying75
  have hu64 := Try.underlying64
  go_enter Try.func35, Try.ntmps35
  go_wp2
  refine bodyPost_ret (v := .tuple #[.agg #[.int .u8 2, .int .i64 0], .bool true]) (by simp [results, Try.results35, go_sem]) rfl ⟨rfl, ?_⟩
  repeat (first | exact Below.refl _ _ | refine Below.alloc ?_ (by first | (simp; done) | (simp; omega)) _ | refine Below.setCell ?_ (by first | (simp; done) | (simp; omega)) _)
set_option maxHeartbeats 1000000 in
set_option maxRecDepth 100000 in
theorem fo_146 (a0 A a3 a4 pool a6 : Int) (A7 : Option Addr) (n7 c7 : Nat) (A8 : Option Addr) (n8 c8 : Nat) (a9 : Int) (w : World) :
    Calls Try.prog 35 #[.agg #[.int .i64 a0, .int .u8 146, .int .i64 A, .int .u8 a3, .int .u16 a4, .int .i64 pool, .int .i64 a6, .slice A7 n7 c7, .slice A8 n8 c8, .int .u16 a9]] w fun e w' => e = .returned (.tuple #[.agg #[.int .u8 2, .int .i64 0], .bool true]) ∧ Below w.heap.size w w' := by
  have hu75 := Try.underlying75
  have hu64 := Try.underlying64
  go_enter Try.func35, Try.ntmps35
  go_wp2
  refine bodyPost_ret (v := .tuple #[.agg #[.int .u8 2, .int .i64 0], .bool true]) (by simp [results, Try.results35, go_sem]) rfl ⟨rfl, ?_⟩
  repeat (first | exact Below.refl _ _ | refine Below.alloc ?_ (by first | (simp; done) | (simp; omega)) _ | refine Below.setCell ?_ (by first | (simp; done) | (simp; omega)) _)
set_option maxHeartbeats 1000000 in
set_option maxRecDepth 100000 in
theorem fo_139 (a0 A a3 a4 pool a6 : Int) (A7 : Option Addr) (n7 c7 : Nat) (A8 : Option Addr) (n8 c8 : Nat) (a9 : Int) (w : World) :
    Calls Try.prog 35 #[.agg #[.int .i64 a0, .int .u8 139, .int .i64 A, .int .u8 a3, .int .u16 a4, .int .i64 pool, .int .i64 a6, .slice A7 n7 c7, .slice A8 n8 c8, .int .u16 a9]] w fun e w' => e = .returned (.tuple #[.agg #[.int .u8 3, .int .i64 0], .bool true]) ∧ Below w.heap.size w w' := by
  have hu75 := Try.underlying75
  have hu64 := Try.underlying64
  go_enter Try.func35, Try.ntmps35
  go_wp2
  refine bodyPost_ret (v := .tuple #[.agg #[.int .u8 3, .int .i64 0], .bool true]) (by simp [results, Try.results35, go_sem]) rfl ⟨rfl, ?_⟩
  repeat (first | exact Below.refl _ _ | refine Below.alloc ?_ (by first | (simp; done) | (simp; omega)) _ | refine Below.setCell ?_ (by first | (simp; done) | (simp; omega)) _)
set_option maxHeartbeats 1000000 in
set_option maxRecDepth 100000 in
theorem fo_140 (a0 A a3 a4 pool a6 : Int) (A7 : Option Addr) (n7 c7 : Nat) (A8 : Option Addr) (n8 c8 : Nat) (a9 : Int) (w : World) :
    Calls Try.prog 35 #[.agg #[.int .i64 a0, .int .u8 140, .int .i64 A, .int .u8 a3, .int .u16 a4, .int .i64 pool, .int .i64 a6, .slice A7 n7 c7, .slice A8 n8 c8, .int .u16 a9]] w fun e w' => e = .returned (.tuple #[.agg #[.int .u8 4, .int .i64 0], .bool true]) ∧ Below w.heap.size w w' := by
  have hu75 := Try.underlying75
  have hu64 := Try.underlying64
  go_enter Try.func35, Try.ntmps35
  go_wp2
  refine bodyPost_ret (v := .tuple #[.agg #[.int .u8 4, .int .i64 0], .bool true]) (by simp [results, Try.results35, go_sem]) rfl ⟨rfl, ?_⟩
  repeat (first | exact Below.refl _ _ | refine Below.alloc ?_ (by first | (simp; done) | (simp; omega)) _ | refine Below.setCell ?_ (by first | (simp; done) | (simp; omega)) _)
set_option maxHeartbeats 1000000 in
set_option maxRecDepth 100000 in
theorem fo_147 (a0 A a3 a4 pool a6 : Int) (A7 : Option Addr) (n7 c7 : Nat) (A8 : Option Addr) (n8 c8 : Nat) (a9 : Int) (w : World) :
    Calls Try.prog 35 #[.agg #[.int .i64 a0, .int .u8 147, .int .i64 A, .int .u8 a3, .int .u16 a4, .int .i64 pool, .int .i64 a6, .slice A7 n7 c7, .slice A8 n8 c8, .int .u16 a9]] w fun e w' => e = .returned (.tuple #[.agg #[.int .u8 5, .int .i64 0], .bool true]) ∧ Below w.heap.size w w' := by
  have hu75 := Try.underlying75
  have hu64 := Try.underlying64
  go_enter Try.func35, Try.ntmps35
  go_wp2
  refine bodyPost_ret (v := .tuple #[.agg #[.int .u8 5, .int .i64 0], .bool true]) (by simp [results, Try.results35, go_sem]) rfl ⟨rfl, ?_⟩
  repeat (first | exact Below.refl _ _ | refine Below.alloc ?_ (by first | (simp; done) | (simp; omega)) _ | refine Below.setCell ?_ (by first | (simp; done) | (simp; omega)) _)
set_option maxHeartbeats 1000000 in
set_option maxRecDepth 100000 in
theorem fo_142 (a0 A a3 a4 pool a6 : Int) (A7 : Option Addr) (n7 c7 : Nat) (A8 : Option Addr) (n8 c8 : Nat) (a9 : Int) (w : World) :
    Calls Try.prog 35 #[.agg #[.int .i64 a0, .int .u8 142, .int .i64 A, .int .u8 a3, .int .u16 a4, .int .i64 pool, .int .i64 a6, .slice A7 n7 c7, .slice A8 n8 c8, .int .u16 a9]] w fun e w' => e = .returned (.tuple #[.agg #[.int .u8 6, .int .i64 pool], .bool true]) ∧ Below w.heap.size w w' := by
  have hu75 := Try.underlying75
  have hu64 := Try.underlying64
  go_enter Try.func35, Try.ntmps35
  go_wp2
  refine bodyPost_ret (v := .tuple #[.agg #[.int .u8 6, .int .i64 pool], .bool true]) (by simp [results, Try.results35, go_sem]) rfl ⟨rfl, ?_⟩
  repeat (first | exact Below.refl _ _ | refine Below.alloc ?_ (by first | (simp; done) | (simp; omega)) _ | refine Below.setCell ?_ (by first | (simp; done) | (simp; omega)) _)
set_option maxHeartbeats 1000000 in
set_option maxRecDepth 100000 in
theorem fo_148_t (a0 A a3 a4 pool a6 : Int) (A7 : Option Addr) (n7 c7 : Nat) (A8 : Option Addr) (n8 c8 : Nat) (a9 : Int) (w : World) (hA : A = 0) :
    Calls Try.prog 35 #[.agg #[.int .i64 a0, .int .u8 148, .int .i64 A, .int .u8 a3, .int .u16 a4, .int .i64 pool, .int .i64 a6, .slice A7 n7 c7, .slice A8 n8 c8, .int .u16 a9]] w fun e w' => e = .returned (.tuple #[.agg #[.int .u8 7, .int .i64 pool], .bool true]) ∧ Below w.heap.size w w' := by
  have hu75 := Try.underlying75
  have hu64 := Try.underlying64
  subst hA
  go_enter Try.func35, Try.ntmps35
  go_wp2
  refine bodyPost_ret (v := .tuple #[.agg #[.int .u8 7, .int .i64 pool], .bool true]) (by simp [results, Try.results35, go_sem]) rfl ⟨rfl, ?_⟩
  repeat (first | exact Below.refl _ _ | refine Below.alloc ?_ (by first | (simp; done) | (simp; omega)) _ | refine Below.setCell ?_ (by first | (simp; done) | (simp; omega)) _)
set_option maxHeartbeats 1000000 in
set_option maxRecDepth 100000 in
theorem fo_148_f (a0 A a3 a4 pool a6 : Int) (A7 : Option Addr) (n7 c7 : Nat) (A8 : Option Addr) (n8 c8 : Nat) (a9 : Int) (w : World) (hA : A ≠ 0) :
    Calls Try.prog 35 #[.agg #[.int .i64 a0, .int .u8 148, .int .i64 A, .int .u8 a3, .int .u16 a4, .int .i64 pool, .int .i64 a6, .slice A7 n7 c7, .slice A8 n8 c8, .int .u16 a9]] w fun e w' => e = .returned (.tuple #[.agg #[.int .u8 7, .int .i64 (-1)], .bool true]) ∧ Below w.heap.size w w' := by
  have hu75 := Try.underlying75
  have hu64 := Try.underlying64
  have hA2 : (A == 0) = false := by rw [beq_eq_false_iff_ne]; exact hA
  have hA3 : (A != 0) = true := by rw [bne_iff_ne]; exact hA
  clear hA
  go_enter Try.func35, Try.ntmps35
  go_wp2
  refine bodyPost_ret (v := .tuple #[.agg #[.int .u8 7, .int .i64 (-1)], .bool true]) (by simp [results, Try.results35, go_sem]) rfl ⟨rfl, ?_⟩
  repeat (first | exact Below.refl _ _ | refine Below.alloc ?_ (by first | (simp; done) | (simp; omega)) _ | refine Below.setCell ?_ (by first | (simp; done) | (simp; omega)) _)
set_option maxHeartbeats 1000000 in
set_option maxRecDepth 100000 in
theorem fo_149_t (a0 A a3 a4 pool a6 : Int) (A7 : Option Addr) (n7 c7 : Nat) (A8 : Option Addr) (n8 c8 : Nat) (a9 : Int) (w : World) (hA : A = 0) :
    Calls Try.prog 35 #[.agg #[.int .i64 a0, .int .u8 149, .int .i64 A, .int .u8 a3, .int .u16 a4, .int .i64 pool, .int .i64 a6, .slice A7 n7 c7, .slice A8 n8 c8, .int .u16 a9]] w fun e w' => e = .returned (.tuple #[.agg #[.int .u8 7, .int .i64 pool], .bool true]) ∧ Below w.heap.size w w' := by
  have hu75 := Try.underlying75
  have hu64 := Try.underlying64
  subst hA
  go_enter Try.func35, Try.ntmps35
  go_wp2
  refine bodyPost_ret (v := .tuple #[.agg #[.int .u8 7, .int .i64 pool], .bool true]) (by simp [results, Try.results35, go_sem]) rfl ⟨rfl, ?_⟩
  repeat (first | exact Below.refl _ _ | refine Below.alloc ?_ (by first | (simp; done) | (simp; omega)) _ | refine Below.setCell ?_ (by first | (simp; done) | (simp; omega)) _)
set_option maxHeartbeats 1000000 in
set_option maxRecDepth 100000 in
theorem fo_149_f (a0 A a3 a4 pool a6 : Int) (A7 : Option Addr) (n7 c7 : Nat) (A8 : Option Addr) (n8 c8 : Nat) (a9 : Int) (w : World) (hA : A ≠ 0) :
    Calls Try.prog 35 #[.agg #[.int .i64 a0, .int .u8 149, .int .i64 A, .int .u8 a3, .int .u16 a4, .int .i64 pool, .int .i64 a6, .slice A7 n7 c7, .slice A8 n8 c8, .int .u16 a9]] w fun e w' => e = .returned (.tuple #[.agg #[.int .u8 7, .int .i64 (-1)], .bool true]) ∧ Below w.heap.size w w' := by
  have hu75 := Try.underlying75
  have hu64 := Try.underlying64
  have hA2 : (A == 0) = false := by rw [beq_eq_false_iff_ne]; exact hA
  have hA3 : (A != 0) = true := by rw [bne_iff_ne]; exact hA
  clear hA
  go_enter Try.func35, Try.ntmps35
  go_wp2
  refine bodyPost_ret (v := .tuple #[.agg #[.int .u8 7, .int .i64 (-1)], .bool true]) (by simp [results, Try.results35, go_sem]) rfl ⟨rfl, ?_⟩
  repeat (first | exact Below.refl _ _ | refine Below.alloc ?_ (by first | (simp; done) | (simp; omega)) _ | refine Below.setCell ?_ (by first | (simp; done) | (simp; omega)) _)
set_option maxHeartbeats 1000000 in
set_option maxRecDepth 100000 in
theorem fo_r0 (a0 op A a3 a4 pool a6 : Int) (A7 : Option Addr) (n7 c7 : Nat) (A8 : Option Addr) (n8 c8 : Nat) (a9 : Int) (w : World) (hhi : op ≤ 35) :
    Calls Try.prog 35 #[.agg #[.int .i64 a0, .int .u8 op, .int .i64 A, .int .u8 a3, .int .u16 a4, .int .i64 pool, .int .i64 a6, .slice A7 n7 c7, .slice A8 n8 c8, .int .u16 a9]] w fun e w' => e = .returned (.tuple #[.agg #[.int .u8 0, .int .i64 0], .bool false]) ∧ Below w.heap.size w w' := by
  have hu75 := Try.underlying75
  have hu64 := Try.underlying64
  have e0 : decide ((131 : Int) ≤ op) = false := by simp; omega
  have e1 : decide (op ≤ (133 : Int)) = true := by simp; omega
  have e2 : decide ((135 : Int) ≤ op) = false := by simp; omega
  have e3 : decide (op ≤ (137 : Int)) = true := by simp; omega
  have e4 : decide ((36 : Int) ≤ op) = false := by simp; omega
  have e5 : decide (op ≤ (38 : Int)) = true := by simp; omega
  have e6 : decide ((55 : Int) ≤ op) = false := by simp; omega
  have e7 : decide (op ≤ (57 : Int)) = true := by simp; omega
  have q0 : (op == (146 : Int)) = false := by rw [beq_eq_false_iff_ne]; omega
  have q1 : (op == (139 : Int)) = false := by rw [beq_eq_false_iff_ne]; omega
  have q2 : (op == (140 : Int)) = false := by rw [beq_eq_false_iff_ne]; omega
  have q3 : (op == (147 : Int)) = false := by rw [beq_eq_false_iff_ne]; omega
  have q4 : (op == (142 : Int)) = false := by rw [beq_eq_false_iff_ne]; omega
  have q5 : (op == (148 : Int)) = false := by rw [beq_eq_false_iff_ne]; omega
  have q6 : (op == (149 : Int)) = false := by rw [beq_eq_false_iff_ne]; omega
  clear hhi
  go_enter Try.func35, Try.ntmps35
  go_wp2
  refine bodyPost_ret (v := .tuple #[.agg #[.int .u8 0, .int .i64 0], .bool false]) (by simp [results, Try.results35, go_sem]) rfl ⟨rfl, ?_⟩
  repeat (first | exact Below.refl _ _ | refine Below.alloc ?_ (by first | (simp; done) | (simp; omega)) _ | refine Below.setCell ?_ (by first | (simp; done) | (simp; omega)) _)
set_option maxHeartbeats 1000000 in
set_option maxRecDepth 100000 in
theorem fo_r1 (a0 op A a3 a4 pool a6 : Int) (A7 : Option Addr) (n7 c7 : Nat) (A8 : Option Addr) (n8 c8 : Nat) (a9 : Int) (w : World) (hlo : 39 ≤ op) (hhi : op ≤ 54) :
    Calls Try.prog 35 #[.agg #[.int .i64 a0, .int .u8 op, .int .i64 A, .int .u8 a3, .int .u16 a4, .int .i64 pool, .int .i64 a6, .slice A7 n7 c7, .slice A8 n8 c8, .int .u16 a9]] w fun e w' => e = .returned (.tuple #[.agg #[.int .u8 0, .int .i64 0], .bool false]) ∧ Below w.heap.size w w' := by
  have hu75 := Try.underlying75
  have hu64 := Try.underlying64
  have e0 : decide ((131 : Int) ≤ op) = false := by simp; omega
  have e1 : decide (op ≤ (133 : Int)) = true := by simp; omega
  have e2 : decide ((135 : Int) ≤ op) = false := by simp; omega
  have e3 : decide (op ≤ (137 : Int)) = true := by simp; omega
  have e4 : decide ((36 : Int) ≤ op) = true := by simp; omega
  have e5 : decide (op ≤ (38 : Int)) = false := by simp; omega
  have e6 : decide ((55 : Int) ≤ op) = false := by simp; omega
  have e7 : decide (op ≤ (57 : Int)) = true := by simp; omega
  have q0 : (op == (146 : Int)) = false := by rw [beq_eq_false_iff_ne]; omega
  have q1 : (op == (139 : Int)) = false := by rw [beq_eq_false_iff_ne]; omega
  have q2 : (op == (140 : Int)) = false := by rw [beq_eq_false_iff_ne]; omega
  have q3 : (op == (147 : Int)) = false := by rw [beq_eq_false_iff_ne]; omega
  have q4 : (op == (142 : Int)) = false := by rw [beq_eq_false_iff_ne]; omega
  have q5 : (op == (148 : Int)) = false := by rw [beq_eq_false_iff_ne]; omega
  have q6 : (op == (149 : Int)) = false := by rw [beq_eq_false_iff_ne]; omega
  clear hlo hhi
  go_enter Try.func35, Try.ntmps35
  go_wp2
  refine bodyPost_ret (v := .tuple #[.agg #[.int .u8 0, .int .i64 0], .bool false]) (by simp [results, Try.results35, go_sem]) rfl ⟨rfl, ?_⟩
  repeat (first | exact Below.refl _ _ | refine Below.alloc ?_ (by first | (simp; done) | (simp; omega)) _ | refine Below.setCell ?_ (by first | (simp; done) | (simp; omega)) _)
set_option maxHeartbeats 1000000 in
set_option maxRecDepth 100000 in
theorem fo_r2 (a0 op A a3 a4 pool a6 : Int) (A7 : Option Addr) (n7 c7 : Nat) (A8 : Option Addr) (n8 c8 : Nat) (a9 : Int) (w : World) (hlo : 58 ≤ op) (hhi : op ≤ 130) :
    Calls Try.prog 35 #[.agg #[.int .i64 a0, .int .u8 op, .int .i64 A, .int .u8 a3, .int .u16 a4, .int .i64 pool, .int .i64 a6, .slice A7 n7 c7, .slice A8 n8 c8, .int .u16 a9]] w fun e w' => e = .returned (.tuple #[.agg #[.int .u8 0, .int .i64 0], .bool false]) ∧ Below w.heap.size w w' := by
  have hu75 := Try.underlying75
  have hu64 := Try.underlying64
  have e0 : decide ((131 : Int) ≤ op) = false := by simp; omega
  have e1 : decide (op ≤ (133 : Int)) = true := by simp; omega
  have e2 : decide ((135 : Int) ≤ op) = false := by simp; omega
  have e3 : decide (op ≤ (137 : Int)) = true := by simp; omega
  have e4 : decide ((36 : Int) ≤ op) = true := by simp; omega
  have e5 : decide (op ≤ (38 : Int)) = false := by simp; omega
  have e6 : decide ((55 : Int) ≤ op) = true := by simp; omega
  have e7 : decide (op ≤ (57 : Int)) = false := by simp; omega
  have q0 : (op == (146 : Int)) = false := by rw [beq_eq_false_iff_ne]; omega
  have q1 : (op == (139 : Int)) = false := by rw [beq_eq_false_iff_ne]; omega
  have q2 : (op == (140 : Int)) = false := by rw [beq_eq_false_iff_ne]; omega
  have q3 : (op == (147 : Int)) = false := by rw [beq_eq_false_iff_ne]; omega
  have q4 : (op == (142 : Int)) = false := by rw [beq_eq_false_iff_ne]; omega
  have q5 : (op == (148 : Int)) = false := by rw [beq_eq_false_iff_ne]; omega
  have q6 : (op == (149 : Int)) = false := by rw [beq_eq_false_iff_ne]; omega
  clear hlo hhi
  go_enter Try.func35, Try.ntmps35
  go_wp2
  refine bodyPost_ret (v := .tuple #[.agg #[.int .u8 0, .int .i64 0], .bool false]) (by simp [results, Try.results35, go_sem]) rfl ⟨rfl, ?_⟩
  repeat (first | exact Below.refl _ _ | refine Below.alloc ?_ (by first | (simp; done) | (simp; omega)) _ | refine Below.setCell ?_ (by first | (simp; done) | (simp; omega)) _)
set_option maxHeartbeats 1000000 in
set_option maxRecDepth 100000 in
theorem fo_r3 (a0 A a3 a4 pool a6 : Int) (A7 : Option Addr) (n7 c7 : Nat) (A8 : Option Addr) (n8 c8 : Nat) (a9 : Int) (w : World) :
    Calls Try.prog 35 #[.agg #[.int .i64 a0, .int .u8 134, .int .i64 A, .int .u8 a3, .int .u16 a4, .int .i64 pool, .int .i64 a6, .slice A7 n7 c7, .slice A8 n8 c8, .int .u16 a9]] w fun e w' => e = .returned (.tuple #[.agg #[.int .u8 0, .int .i64 0], .bool false]) ∧ Below w.heap.size w w' := by
  have hu75 := Try.underlying75
  have hu64 := Try.underlying64
  go_enter Try.func35, Try.ntmps35
  go_wp2
  refine bodyPost_ret (v := .tuple #[.agg #[.int .u8 0, .int .i64 0], .bool false]) (by simp [results, Try.results35, go_sem]) rfl ⟨rfl, ?_⟩
  repeat (first | exact Below.refl _ _ | refine Below.alloc ?_ (by first | (simp; done) | (simp; omega)) _ | refine Below.setCell ?_ (by first | (simp; done) | (simp; omega)) _)
set_option maxHeartbeats 1000000 in
set_option maxRecDepth 100000 in
theorem fo_r4 (a0 A a3 a4 pool a6 : Int) (A7 : Option Addr) (n7 c7 : Nat) (A8 : Option Addr) (n8 c8 : Nat) (a9 : Int) (w : World) :
    Calls Try.prog 35 #[.agg #[.int .i64 a0, .int .u8 138, .int .i64 A, .int .u8 a3, .int .u16 a4, .int .i64 pool, .int .i64 a6, .slice A7 n7 c7, .slice A8 n8 c8, .int .u16 a9]] w fun e w' => e = .returned (.tuple #[.agg #[.int .u8 0, .int .i64 0], .bool false]) ∧ Below w.heap.size w w' := by
  have hu75 := Try.underlying75
  have hu64 := Try.underlying64
  go_enter Try.func35, Try.ntmps35
  go_wp2
  refine bodyPost_ret (v := .tuple #[.agg #[.int .u8 0, .int .i64 0], .bool false]) (by simp [results, Try.results35, go_sem]) rfl ⟨rfl, ?_⟩
  repeat (first | exact Below.refl _ _ | refine Below.alloc ?_ (by first | (simp; done) | (simp; omega)) _ | refine Below.setCell ?_ (by first | (simp; done) | (simp; omega)) _)
set_option maxHeartbeats 1000000 in
set_option maxRecDepth 100000 in
theorem fo_r5 (a0 A a3 a4 pool a6 : Int) (A7 : Option Addr) (n7 c7 : Nat) (A8 : Option Addr) (n8 c8 : Nat) (a9 : Int) (w : World) :
    Calls Try.prog 35 #[.agg #[.int .i64 a0, .int .u8 141, .int .i64 A, .int .u8 a3, .int .u16 a4, .int .i64 pool, .int .i64 a6, .slice A7 n7 c7, .slice A8 n8 c8, .int .u16 a9]] w fun e w' => e = .returned (.tuple #[.agg #[.int .u8 0, .int .i64 0], .bool false]) ∧ Below w.heap.size w w' := by
  have hu75 := Try.underlying75
  have hu64 := Try.underlying64
  go_enter Try.func35, Try.ntmps35
  go_wp2
  refine bodyPost_ret (v := .tuple #[.agg #[.int .u8 0, .int .i64 0], .bool false]) (by simp [results, Try.results35, go_sem]) rfl ⟨rfl, ?_⟩
  repeat (first | exact Below.refl _ _ | refine Below.alloc ?_ (by first | (simp; done) | (simp; omega)) _ | refine Below.setCell ?_ (by first | (simp; done) | (simp; omega)) _)
set_option maxHeartbeats 1000000 in
set_option maxRecDepth 100000 in
theorem fo_r6 (a0 op A a3 a4 pool a6 : Int) (A7 : Option Addr) (n7 c7 : Nat) (A8 : Option Addr) (n8 c8 : Nat) (a9 : Int) (w : World) (hlo : 143 ≤ op) (hhi : op ≤ 145) :
    Calls Try.prog 35 #[.agg #[.int .i64 a0, .int .u8 op, .int .i64 A, .int .u8 a3, .int .u16 a4, .int .i64 pool, .int .i64 a6, .slice A7 n7 c7, .slice A8 n8 c8, .int .u16 a9]] w fun e w' => e = .returned (.tuple #[.agg #[.int .u8 0, .int .i64 0], .bool false]) ∧ Below w.heap.size w w' := by
  have hu75 := Try.underlying75
  have hu64 := Try.underlying64
  have e0 : decide ((131 : Int) ≤ op) = true := by simp; omega
  have e1 : decide (op ≤ (133 : Int)) = false := by simp; omega
  have e2 : decide ((135 : Int) ≤ op) = true := by simp; omega
  have e3 : decide (op ≤ (137 : Int)) = false := by simp; omega
  have e4 : decide ((36 : Int) ≤ op) = true := by simp; omega
  have e5 : decide (op ≤ (38 : Int)) = false := by simp; omega
  have e6 : decide ((55 : Int) ≤ op) = true := by simp; omega
  have e7 : decide (op ≤ (57 : Int)) = false := by simp; omega
  have q0 : (op == (146 : Int)) = false := by rw [beq_eq_false_iff_ne]; omega
  have q1 : (op == (139 : Int)) = false := by rw [beq_eq_false_iff_ne]; omega
  have q2 : (op == (140 : Int)) = false := by rw [beq_eq_false_iff_ne]; omega
  have q3 : (op == (147 : Int)) = false := by rw [beq_eq_false_iff_ne]; omega
  have q4 : (op == (142 : Int)) = false := by rw [beq_eq_false_iff_ne]; omega
  have q5 : (op == (148 : Int)) = false := by rw [beq_eq_false_iff_ne]; omega
  have q6 : (op == (149 : Int)) = false := by rw [beq_eq_false_iff_ne]; omega
  clear hlo hhi
  go_enter Try.func35, Try.ntmps35
  go_wp2
  refine bodyPost_ret (v := .tuple #[.agg #[.int .u8 0, .int .i64 0], .bool false]) (by simp [results, Try.results35, go_sem]) rfl ⟨rfl, ?_⟩
  repeat (first | exact Below.refl _ _ | refine Below.alloc ?_ (by first | (simp; done) | (simp; omega)) _ | refine Below.setCell ?_ (by first | (simp; done) | (simp; omega)) _)
set_option maxHeartbeats 1000000 in
set_option maxRecDepth 100000 in
theorem fo_r7 (a0 op A a3 a4 pool a6 : Int) (A7 : Option Addr) (n7 c7 : Nat) (A8 : Option Addr) (n8 c8 : Nat) (a9 : Int) (w : World) (hlo : 150 ≤ op) :
    Calls Try.prog 35 #[.agg #[.int .i64 a0, .int .u8 op, .int .i64 A, .int .u8 a3, .int .u16 a4, .int .i64 pool, .int .i64 a6, .slice A7 n7 c7, .slice A8 n8 c8, .int .u16 a9]] w fun e w' => e = .returned (.tuple #[.agg #[.int .u8 0, .int .i64 0], .bool false]) ∧ Below w.heap.size w w' := by
  have hu75 := Try.underlying75
  have hu64 := Try.underlying64
  have e0 : decide ((131 : Int) ≤ op) = true := by simp; omega
  have e1 : decide (op ≤ (133 : Int)) = false := by simp; omega
  have e2 : decide ((135 : Int) ≤ op) = true := by simp; omega
  have e3 : decide (op ≤ (137 : Int)) = false := by simp; omega
  have e4 : decide ((36 : Int) ≤ op) = true := by simp; omega
  have e5 : decide (op ≤ (38 : Int)) = false := by simp; omega
  have e6 : decide ((55 : Int) ≤ op) = true := by simp; omega
  have e7 : decide (op ≤ (57 : Int)) = false := by simp; omega
  have q0 : (op == (146 : Int)) = false := by rw [beq_eq_false_iff_ne]; omega
  have q1 : (op == (139 : Int)) = false := by rw [beq_eq_false_iff_ne]; omega
  have q2 : (op == (140 : Int)) = false := by rw [beq_eq_false_iff_ne]; omega
  have q3 : (op == (147 : Int)) = false := by rw [beq_eq_false_iff_ne]; omega
  have q4 : (op == (142 : Int)) = false := by rw [beq_eq_false_iff_ne]; omega
  have q5 : (op == (148 : Int)) = false := by rw [beq_eq_false_iff_ne]; omega
  have q6 : (op == (149 : Int)) = false := by rw [beq_eq_false_iff_ne]; omega
  clear hlo
  go_enter Try.func35, Try.ntmps35
  go_wp2
  refine bodyPost_ret (v := .tuple #[.agg #[.int .u8 0, .int .i64 0], .bool false]) (by simp [results, Try.results35, go_sem]) rfl ⟨rfl, ?_⟩
  repeat (first | exact Below.refl _ _ | refine Below.alloc ?_ (by first | (simp; done) | (simp; omega)) _ | refine Below.setCell ?_ (by first | (simp; done) | (simp; omega)) _)
def fire_Of.f (a0_0 : Int) (a0_1 : Int) (a0_2 : Int) (a0_3 : Int) (a0_4 : Int) (a0_5 : Int) (a0_6 : Int) (l0_7 : List Int) (l0_8 : List Int) (a0_9 : Int) : Option (Int × Int × Bool) := some (accOf a0_1 a0_2 a0_5)
theorem fo_all (a0 op A a3 a4 pool a6 : Int) (A7 : Option Addr) (n7 c7 : Nat) (A8 : Option Addr) (n8 c8 : Nat) (a9 : Int) (w : World) (r1 r2 : Int) (r3 : Bool) (h : accOf op A pool = (r1, r2, r3)) :
    Calls Try.prog 35 #[.agg #[.int .i64 a0, .int .u8 op, .int .i64 A, .int .u8 a3, .int .u16 a4, .int .i64 pool, .int .i64 a6, .slice A7 n7 c7, .slice A8 n8 c8, .int .u16 a9]] w fun e w' => e = .returned (.tuple #[.agg #[.int .u8 r1, .int .i64 r2], .bool r3]) ∧ Below w.heap.size w w' := by
  rcases Decidable.em (op = 131) with e | e131
  · subst e; cases h; exact fo_131 a0 A a3 a4 pool a6 A7 n7 c7 A8 n8 c8 a9 w
  rcases Decidable.em (op = 132) with e | e132
  · subst e; cases h; exact fo_132 a0 A a3 a4 pool a6 A7 n7 c7 A8 n8 c8 a9 w
  rcases Decidable.em (op = 133) with e | e133
  · subst e; cases h; exact fo_133 a0 A a3 a4 pool a6 A7 n7 c7 A8 n8 c8 a9 w
  rcases Decidable.em (op = 135) with e | e135
  · subst e; cases h; exact fo_135 a0 A a3 a4 pool a6 A7 n7 c7 A8 n8 c8 a9 w
  rcases Decidable.em (op = 136) with e | e136
  · subst e; cases h; exact fo_136 a0 A a3 a4 pool a6 A7 n7 c7 A8 n8 c8 a9 w
  rcases Decidable.em (op = 137) with e | e137
  · subst e; cases h; exact fo_137 a0 A a3 a4 pool a6 A7 n7 c7 A8 n8 c8 a9 w
  rcases Decidable.em (op = 36) with e | e36
  · subst e; cases h; exact fo_36 a0 A a3 a4 pool a6 A7 n7 c7 A8 n8 c8 a9 w
  rcases Decidable.em (op = 37) with e | e37
  · subst e; cases h; exact fo_37 a0 A a3 a4 pool a6 A7 n7 c7 A8 n8 c8 a9 w
  rcases Decidable.em (op = 38) with e | e38
  · subst e; cases h; exact fo_38 a0 A a3 a4 pool a6 A7 n7 c7 A8 n8 c8 a9 w
  rcases Decidable.em (op = 55) with e | e55
  · subst e; cases h; exact fo_55 a0 A a3 a4 pool a6 A7 n7 c7 A8 n8 c8 a9 w
  rcases Decidable.em (op = 56) with e | e56
  · subst e; cases h; exact fo_56 a0 A a3 a4 pool a6 A7 n7 c7 A8 n8 c8 a9 w
  rcases Decidable.em (op = 57) with e | e57
  · subst e; cases h; exact fo_57 a0 A a3 a4 pool a6 A7 n7 c7 A8 n8 c8 a9 w
  rcases Decidable.em (op = 146) with e | e146
  · subst e; cases h; exact fo_146 a0 A a3 a4 pool a6 A7 n7 c7 A8 n8 c8 a9 w
  rcases Decidable.em (op = 139) with e | e139
  · subst e; cases h; exact fo_139 a0 A a3 a4 pool a6 A7 n7 c7 A8 n8 c8 a9 w
  rcases Decidable.em (op = 140) with e | e140
  · subst e; cases h; exact fo_140 a0 A a3 a4 pool a6 A7 n7 c7 A8 n8 c8 a9 w
  rcases Decidable.em (op = 147) with e | e147
  · subst e; cases h; exact fo_147 a0 A a3 a4 pool a6 A7 n7 c7 A8 n8 c8 a9 w
  rcases Decidable.em (op = 142) with e | e142
  · subst e; cases h; exact fo_142 a0 A a3 a4 pool a6 A7 n7 c7 A8 n8 c8 a9 w
  rcases Decidable.em (op = 148) with e | e148
  · subst e
    rcases Decidable.em (A = 0) with hA | hA
    · have h' : (7, pool, true) = (r1, r2, r3) := by rw [← h]; simp [accOf, hA]
      cases h'; exact fo_148_t a0 A a3 a4 pool a6 A7 n7 c7 A8 n8 c8 a9 w hA
    · have h' : ((7 : Int), (-1 : Int), true) = (r1, r2, r3) := by rw [← h]; simp [accOf, hA]
      cases h'; exact fo_148_f a0 A a3 a4 pool a6 A7 n7 c7 A8 n8 c8 a9 w hA
  rcases Decidable.em (op = 149) with e | e149
  · subst e
    rcases Decidable.em (A = 0) with hA | hA
    · have h' : (7, pool, true) = (r1, r2, r3) := by rw [← h]; simp [accOf, hA]
      cases h'; exact fo_149_t a0 A a3 a4 pool a6 A7 n7 c7 A8 n8 c8 a9 w hA
    · have h' : ((7 : Int), (-1 : Int), true) = (r1, r2, r3) := by rw [← h]; simp [accOf, hA]
      cases h'; exact fo_149_f a0 A a3 a4 pool a6 A7 n7 c7 A8 n8 c8 a9 w hA
  have h' : ((0 : Int), (0 : Int), false) = (r1, r2, r3) := by rw [← h]; unfold accOf; repeat' (first | rw [if_neg (by omega)])
  cases h'
  clear h
  rcases Decidable.em (op ≤ 35) with e | e_r0
  · exact fo_r0 a0 op A a3 a4 pool a6 A7 n7 c7 A8 n8 c8 a9 w e
  rcases Decidable.em (39 ≤ op ∧ op ≤ 54) with e | e_r1
  · exact fo_r1 a0 op A a3 a4 pool a6 A7 n7 c7 A8 n8 c8 a9 w e.1 e.2
  rcases Decidable.em (58 ≤ op ∧ op ≤ 130) with e | e_r2
  · exact fo_r2 a0 op A a3 a4 pool a6 A7 n7 c7 A8 n8 c8 a9 w e.1 e.2
  rcases Decidable.em (op = 134) with e | e_134
  · subst e; exact fo_r3 a0 A a3 a4 pool a6 A7 n7 c7 A8 n8 c8 a9 w
  rcases Decidable.em (op = 138) with e | e_138
  · subst e; exact fo_r4 a0 A a3 a4 pool a6 A7 n7 c7 A8 n8 c8 a9 w
  rcases Decidable.em (op = 141) with e | e_141
  · subst e; exact fo_r5 a0 A a3 a4 pool a6 A7 n7 c7 A8 n8 c8 a9 w
  rcases Decidable.em (143 ≤ op ∧ op ≤ 145) with e | e_r6
  · exact fo_r6 a0 op A a3 a4 pool a6 A7 n7 c7 A8 n8 c8 a9 w e.1 e.2
  exact fo_r7 a0 op A a3 a4 pool a6 A7 n7 c7 A8 n8 c8 a9 w (by omega)
theorem fire_Of.calls (a0_0 : Int) (a0_1 : Int) (a0_2 : Int) (a0_3 : Int) (a0_4 : Int) (a0_5 : Int) (a0_6 : Int) (A0_7 : Option Addr) (c0_7 : Nat) (l0_7 : List Int) (A0_8 : Option Addr) (c0_8 : Nat) (l0_8 : List Int) (a0_9 : Int) (r1 : Int) (r2 : Int) (r3 : Bool) (w : World) (hr0_7 : Kd.C (Kd.int .i64) w A0_7 l0_7.length l0_7) (hc0_7 : l0_7.length ≤ c0_7) (hr0_8 : Kd.C (Kd.int .u16) w A0_8 l0_8.length l0_8) (hc0_8 : l0_8.length ≤ c0_8) (h : fire_Of.f a0_0 a0_1 a0_2 a0_3 a0_4 a0_5 a0_6 l0_7 l0_8 a0_9 = some (r1, r2, r3)) :
    Calls Try.prog 35 #[.agg #[.int .i64 a0_0, .int .u8 a0_1, .int .i64 a0_2, .int .u8 a0_3, .int .u16 a0_4, .int .i64 a0_5, .int .i64 a0_6, .slice A0_7 l0_7.length c0_7, .slice A0_8 l0_8.length c0_8, .int .u16 a0_9]] w fun e w' => e = .returned (.tuple #[.agg #[.int .u8 r1, .int .i64 r2], .bool r3]) ∧ Below w.heap.size w w' :=
  fo_all _ _ _ _ _ _ _ _ _ _ _ _ _ _ w r1 r2 r3 (Option.some.inj h)
end Go.Proofs.Ytocdpledkmmomaa.P
