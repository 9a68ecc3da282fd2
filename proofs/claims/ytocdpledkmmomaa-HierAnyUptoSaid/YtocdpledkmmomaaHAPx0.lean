import Derived.Test.YtocdpledkmmomaaProg
import Derived.Below
import Derived.Deep.Draws
import Derived.Deep.AppendLies
import Derived.Maps.AppendAt
import Derived.OwnWalk
import Derived.Laws.BytesArg
import Derived.Laws.MakeOwn
import Derived.Laws.OwnMore
import Derived.Deep.OwnRows
import Derived.Tactics
import Derived.Lib.ConvBytes
import Derived.Laws.Slices
import Derived.WalkKit
import Derived.KernelRfl
import Derived.RowKit3
import Derived.Deep.LoopGhost
import Derived.Deep.QuietTactic
import Derived.BigQuiet
import Derived.WideLaws
import Derived.Deep.DeepCutAuto
import Derived.Deep.CutBlock
import Derived.Deep.RegionHeld3
import Derived.Laws.Rows
import Derived.Lib.AppendStr
import Derived.ArgAppend
import Derived.Laws.IdiomCopy
import Derived.OrdersHeld
import Derived.Laws.BitsLemmas
import Derived.RowKit
import Derived.Test.YtocdpledkmmomaaHAWWords
import Derived.Test.YtocdpledkmmomaaHAWLast
import Derived.Test.YtocdpledkmmomaaHAWTab
import Derived.Test.YtocdpledkmmomaaHAWApart
import Derived.Test.YtocdpledkmmomaaHAWFoot
import Derived.Test.YtocdpledkmmomaaHAWShare
import Derived.Test.YtocdpledkmmomaaHAWEqStruct
import Derived.Test.YtocdpledkmmomaaHAWRepsOne
import Derived.Test.YtocdpledkmmomaaHAWGuard
import Derived.Test.YtocdpledkmmomaaHAWMore
namespace Go.Proofs.Ytocdpledkmmomaa.P
open Go.RowKit Go.Proofs.YtocdpledkmmomaaW.PrintWords Go.Proofs.YtocdpledkmmomaaW.PrintLast Go.Proofs.YtocdpledkmmomaaW.PrintMore
attribute [local go_sem] max2_int min2_int max_two min_two max_three min_three max_four min_four   -- for this text's walks alone
set_option linter.unusedVariables false
set_option linter.unusedSimpArgs false

def errW : Option Int → Value
  | none => .nilIface
  | some c => .iface 0 (.int .i64 c)
theorem errW_none : errW none = .nilIface := rfl
theorem errW_some (c : Int) : errW (some c) = .iface 0 (.int .i64 c) := rfl

theorem info3 : (Try.prog.info? 3).map (fun i => (i.zero, i.size, i.bytes)) = some (some (.int .i64 0), 1, 8) := by kernel_rfl
theorem info32 : (Try.prog.info? 32).map (fun i => (i.zero, i.size, i.bytes)) = some (some (.agg #[(.int .u8 0), (.int .u8 0), (.int .u16 0), (.int .i64 0)]), 4, 16) := by kernel_rfl
theorem info86 : (Try.prog.info? 86).map (fun i => (i.zero, i.size, i.bytes)) = some (some (.agg #[(.int .i64 0), (.int .u8 0), (.int .i64 0), (.slice none 0 0), (.int .u8 0), (.int .u16 0), (.int .i64 0), (.int .i64 0), (.slice none 0 0), (.slice none 0 0), (.int .i64 0)]), 11, 128) := by kernel_rfl
theorem info110 : (Try.prog.info? 110).map (fun i => (i.zero, i.size, i.bytes)) = some (some (.agg #[(.int .i64 0), (.int .u8 0), (.int .i64 0), (.slice none 0 0), (.slice none 0 0), (.slice none 0 0), (.slice none 0 0)]), 7, 120) := by kernel_rfl
theorem info124 : (Try.prog.info? 124).map (fun i => (i.zero, i.size, i.bytes)) = some (some (.agg #[(.slice none 0 0), (.int .u8 0), (.int .u8 0), (.bool false), (.slice none 0 0), (.slice none 0 0)]), 6, 80) := by kernel_rfl
theorem info129 : (Try.prog.info? 129).map (fun i => (i.zero, i.size, i.bytes)) = some (some (.agg #[(.int .i64 0), (.int .u8 0), (.slice none 0 0), (.slice none 0 0), (.slice none 0 0)]), 5, 88) := by kernel_rfl
structure S30 where
  f0 : Int
  f1 : Int
def z30 : S30 := ⟨(0 : Int), (0 : Int)⟩
def k30 : Kd S30 := Kd.iso (Kd.pair (Kd.int .u8) (Kd.int .u16)) (fun x : S30 => (x.f0, x.f1))
theorem k30_open {w : World} {x : S30} {cs : List Value} (h : k30.K w x cs) : cs = [.int .u8 x.f0, .int .u16 x.f1] := by
  obtain ⟨_, _, rfl, rfl, rfl⟩ := h
  exact rfl
theorem k30_openM {w : World} {base : Nat} {ok : Nat → Prop} {x : S30} {cs : List Value} (h : k30.M w base ok x cs) : cs = [.int .u8 x.f0, .int .u16 x.f1] := by
  obtain ⟨_, _, rfl, rfl, rfl⟩ := h
  exact rfl
theorem k30_mkM (w : World) (base : Nat) (ok : Nat → Prop) (x : S30)  : k30.M w base ok x [.int .u8 x.f0, .int .u16 x.f1] := ⟨[.int .u8 x.f0], [.int .u16 x.f1], rfl, rfl, rfl⟩

structure S32 where
  f0 : Int
  f1 : S30
  f2 : Int
def z32 : S32 := ⟨(0 : Int), z30, (0 : Int)⟩
def k32 : Kd S32 := Kd.iso (Kd.pair (Kd.int .u8) (Kd.pair k30 (Kd.int .i64))) (fun x : S32 => (x.f0, x.f1, x.f2))
theorem k32_openM {w : World} {base : Nat} {ok : Nat → Prop} {x : S32} {cs : List Value} (h : k32.M w base ok x cs) : cs = [.int .u8 x.f0, .int .u8 x.f1.f0, .int .u16 x.f1.f1, .int .i64 x.f2] := by
  obtain ⟨_, _, rfl, rfl, ⟨_, _, rfl, s1, rfl⟩⟩ := h
  obtain rfl := k30_openM s1
  exact rfl
theorem k32_mkM (w : World) (base : Nat) (ok : Nat → Prop) (x : S32)  : k32.M w base ok x [.int .u8 x.f0, .int .u8 x.f1.f0, .int .u16 x.f1.f1, .int .i64 x.f2] := ⟨[.int .u8 x.f0], [.int .u8 x.f1.f0, .int .u16 x.f1.f1, .int .i64 x.f2], rfl, rfl, ⟨[.int .u8 x.f1.f0, .int .u16 x.f1.f1], [.int .i64 x.f2], rfl, (k30_mkM w base ok x.f1 ), rfl⟩⟩

structure S133 where
  f0 : ByteArray
  f1 : Int
  f2 : Int
  f3 : S30
  f4 : (List S30)
def z133 : S133 := ⟨(⟨#[]⟩ : ByteArray), (0 : Int), (0 : Int), z30, ([] : List S30)⟩
def k133 : Kd S133 := Kd.iso (Kd.pair Kd.string (Kd.pair (Kd.int .i64) (Kd.pair (Kd.int .u8) (Kd.pair k30 (Kd.slice 30 k30))))) (fun x : S133 => (x.f0, x.f1, x.f2, x.f3, x.f4))
theorem k133_openM {w : World} {base : Nat} {ok : Nat → Prop} {x : S133} {cs : List Value} (h : k133.M w base ok x cs) : ∃ v5, cs = [.string x.f0, .int .i64 x.f1, .int .u8 x.f2, .int .u8 x.f3.f0, .int .u16 x.f3.f1, v5] ∧ k30.R 30 w base ok v5 x.f4 := by
  obtain ⟨_, _, rfl, rfl, ⟨_, _, rfl, rfl, ⟨_, _, rfl, rfl, ⟨_, _, rfl, s3, ⟨v5, rfl, g5⟩⟩⟩⟩⟩ := h
  obtain rfl := k30_openM s3
  exact ⟨v5, rfl, g5⟩
theorem k133_mkM (w : World) (base : Nat) (ok : Nat → Prop) (x : S133) {v5 : Value} (g5 : k30.R 30 w base ok v5 x.f4) : k133.M w base ok x [.string x.f0, .int .i64 x.f1, .int .u8 x.f2, .int .u8 x.f3.f0, .int .u16 x.f3.f1, v5] := ⟨[.string x.f0], [.int .i64 x.f1, .int .u8 x.f2, .int .u8 x.f3.f0, .int .u16 x.f3.f1, v5], rfl, rfl, ⟨[.int .i64 x.f1], [.int .u8 x.f2, .int .u8 x.f3.f0, .int .u16 x.f3.f1, v5], rfl, rfl, ⟨[.int .u8 x.f2], [.int .u8 x.f3.f0, .int .u16 x.f3.f1, v5], rfl, rfl, ⟨[.int .u8 x.f3.f0, .int .u16 x.f3.f1], [v5], rfl, (k30_mkM w base ok x.f3 ), ⟨v5, rfl, g5⟩⟩⟩⟩⟩

structure S129 where
  f0 : Int
  f1 : Int
  f2 : (List S30)
  f3 : (List S133)
  f4 : (List S133)
def z129 : S129 := ⟨(0 : Int), (0 : Int), ([] : List S30), ([] : List S133), ([] : List S133)⟩
def k129 : Kd S129 := Kd.iso (Kd.pair (Kd.int .i64) (Kd.pair (Kd.int .u8) (Kd.pair (Kd.slice 30 k30) (Kd.pair (Kd.slice 133 k133) (Kd.slice 133 k133))))) (fun x : S129 => (x.f0, x.f1, x.f2, x.f3, x.f4))
theorem k129_openM {w : World} {base : Nat} {ok : Nat → Prop} {x : S129} {cs : List Value} (h : k129.M w base ok x cs) : ∃ v2 v3 v4, cs = [.int .i64 x.f0, .int .u8 x.f1, v2, v3, v4] ∧ k30.R 30 w base ok v2 x.f2 ∧ k133.R 133 w base ok v3 x.f3 ∧ k133.R 133 w base ok v4 x.f4 := by
  obtain ⟨_, _, rfl, rfl, ⟨_, _, rfl, rfl, ⟨_, _, rfl, ⟨v2, rfl, g2⟩, ⟨_, _, rfl, ⟨v3, rfl, g3⟩, ⟨v4, rfl, g4⟩⟩⟩⟩⟩ := h
  exact ⟨v2, v3, v4, rfl, g2, g3, g4⟩
theorem k129_mkM (w : World) (base : Nat) (ok : Nat → Prop) (x : S129) {v2 : Value} (g2 : k30.R 30 w base ok v2 x.f2) {v3 : Value} (g3 : k133.R 133 w base ok v3 x.f3) {v4 : Value} (g4 : k133.R 133 w base ok v4 x.f4) : k129.M w base ok x [.int .i64 x.f0, .int .u8 x.f1, v2, v3, v4] := ⟨[.int .i64 x.f0], [.int .u8 x.f1, v2, v3, v4], rfl, rfl, ⟨[.int .u8 x.f1], [v2, v3, v4], rfl, rfl, ⟨[v2], [v3, v4], rfl, ⟨v2, rfl, g2⟩, ⟨[v3], [v4], rfl, ⟨v3, rfl, g3⟩, ⟨v4, rfl, g4⟩⟩⟩⟩⟩

structure S75 where
  f0 : Int
  f1 : Int
  f2 : Int
  f3 : Int
  f4 : Int
  f5 : Int
  f6 : Int
  f7 : (List Int)
  f8 : (List Int)
  f9 : Int
def k75 : Kd S75 := Kd.iso (Kd.pair (Kd.int .i64) (Kd.pair (Kd.int .u8) (Kd.pair (Kd.int .i64) (Kd.pair (Kd.int .u8) (Kd.pair (Kd.int .u16) (Kd.pair (Kd.int .i64) (Kd.pair (Kd.int .i64) (Kd.pair (Kd.slice 3 (Kd.int .i64)) (Kd.pair (Kd.slice 28 (Kd.int .u16)) (Kd.int .u16)))))))))) (fun x : S75 => (x.f0, x.f1, x.f2, x.f3, x.f4, x.f5, x.f6, x.f7, x.f8, x.f9))

structure S187 where
  f0 : Int
  f1 : Int
  f2 : Int
  f3 : Int
def k187 : Kd S187 := Kd.iso (Kd.pair (Kd.int .i64) (Kd.pair (Kd.int .i64) (Kd.pair (Kd.int .i64) (Kd.int .i64)))) (fun x : S187 => (x.f0, x.f1, x.f2, x.f3))

structure S107 where
  f0 : Int
  f1 : (List Int)
def z107 : S107 := ⟨(0 : Int), ([] : List Int)⟩
def k107 : Kd S107 := Kd.iso (Kd.pair (Kd.int .i64) (Kd.slice 3 (Kd.int .i64))) (fun x : S107 => (x.f0, x.f1))
theorem k107_open {w : World} {x : S107} {cs : List Value} (h : k107.K w x cs) : ∃ A1 c1, cs = [.int .i64 x.f0, .slice A1 x.f1.length c1] ∧ x.f1.length ≤ c1 ∧ (Kd.int .i64).C w A1 x.f1.length x.f1 := by
  obtain ⟨_, _, rfl, rfl, ⟨A1, c1, rfl, l1, g1⟩⟩ := h
  exact ⟨A1, c1, rfl, l1, g1⟩
def rd_T107 (xs : List S107) (i : Int) : S107 := xs.getD i.toNat z107
theorem at_T107 {w : World} {A : Option Addr} {n : Nat} {xs : List S107} (h : Kd.C k107 w A n xs) (i : Int) (h0 : 0 ≤ i) (h1 : i < n) : ∃ ad A1 c1, A = some ad ∧ w.cell? (ad.add (i.toNat * 2)) = some (.int .i64 (rd_T107 xs i).f0) ∧ w.cell? ⟨(ad.add (i.toNat * 2)).block, (ad.add (i.toNat * 2)).off + 1, none⟩ = some (.slice A1 (rd_T107 xs i).f1.length c1) ∧ (rd_T107 xs i).f1.length ≤ c1 ∧ (Kd.int .i64).C w A1 (rd_T107 xs i).f1.length (rd_T107 xs i).f1 := by
  obtain ⟨ad, c, e, _, hK, hc0⟩ := Kd.C_get h z107 i h0 h1
  have hc : ∀ j u, c[j]? = some u → w.cell? (ad.add (i.toNat * 2 + j)) = some u := hc0
  obtain ⟨A1, c1, rfl, l1, g1⟩ := k107_open hK
  exact ⟨ad, A1, c1, e, hc 0 _ rfl, by rw [← add_field _ _ 1 (by omega)]; exact hc 1 _ rfl, l1, g1⟩

structure S82 where
  f0 : (List S30)
  f1 : S30
def k82 : Kd S82 := Kd.iso (Kd.pair (Kd.slice 30 k30) k30) (fun x : S82 => (x.f0, x.f1))
theorem k82_mkM (w : World) (base : Nat) (ok : Nat → Prop) (x : S82) {v0 : Value} (g0 : k30.R 30 w base ok v0 x.f0) : k82.M w base ok x [v0, .int .u8 x.f1.f0, .int .u16 x.f1.f1] := ⟨[v0], [.int .u8 x.f1.f0, .int .u16 x.f1.f1], rfl, ⟨v0, rfl, g0⟩, (k30_mkM w base ok x.f1 )⟩

structure S110 where
  f0 : Int
  f1 : Int
  f2 : Int
  f3 : (List S107)
  f4 : (List S30)
  f5 : (List Int)
  f6 : (List S82)
def z110 : S110 := ⟨(0 : Int), (0 : Int), (0 : Int), ([] : List S107), ([] : List S30), ([] : List Int), ([] : List S82)⟩
def k110 : Kd S110 := Kd.iso (Kd.pair (Kd.int .i64) (Kd.pair (Kd.int .u8) (Kd.pair (Kd.int .i64) (Kd.pair (Kd.slice 107 k107) (Kd.pair (Kd.slice 30 k30) (Kd.pair (Kd.slice 3 (Kd.int .i64)) (Kd.slice 82 k82))))))) (fun x : S110 => (x.f0, x.f1, x.f2, x.f3, x.f4, x.f5, x.f6))
theorem k110_open {w : World} {x : S110} {cs : List Value} (h : k110.K w x cs) : ∃ A3 c3 A4 c4 A5 c5 A6 c6, cs = [.int .i64 x.f0, .int .u8 x.f1, .int .i64 x.f2, .slice A3 x.f3.length c3, .slice A4 x.f4.length c4, .slice A5 x.f5.length c5, .slice A6 x.f6.length c6] ∧ x.f3.length ≤ c3 ∧ k107.C w A3 x.f3.length x.f3 ∧ x.f4.length ≤ c4 ∧ k30.C w A4 x.f4.length x.f4 ∧ x.f5.length ≤ c5 ∧ (Kd.int .i64).C w A5 x.f5.length x.f5 ∧ x.f6.length ≤ c6 ∧ k82.C w A6 x.f6.length x.f6 := by
  obtain ⟨_, _, rfl, rfl, ⟨_, _, rfl, rfl, ⟨_, _, rfl, rfl, ⟨_, _, rfl, ⟨A3, c3, rfl, l3, g3⟩, ⟨_, _, rfl, ⟨A4, c4, rfl, l4, g4⟩, ⟨_, _, rfl, ⟨A5, c5, rfl, l5, g5⟩, ⟨A6, c6, rfl, l6, g6⟩⟩⟩⟩⟩⟩⟩ := h
  exact ⟨A3, c3, A4, c4, A5, c5, A6, c6, rfl, l3, g3, l4, g4, l5, g5, l6, g6⟩
theorem k110_openM {w : World} {base : Nat} {ok : Nat → Prop} {x : S110} {cs : List Value} (h : k110.M w base ok x cs) : ∃ v3 v4 v5 v6, cs = [.int .i64 x.f0, .int .u8 x.f1, .int .i64 x.f2, v3, v4, v5, v6] ∧ k107.R 107 w base ok v3 x.f3 ∧ k30.R 30 w base ok v4 x.f4 ∧ (Kd.int .i64).R 3 w base ok v5 x.f5 ∧ k82.R 82 w base ok v6 x.f6 := by
  obtain ⟨_, _, rfl, rfl, ⟨_, _, rfl, rfl, ⟨_, _, rfl, rfl, ⟨_, _, rfl, ⟨v3, rfl, g3⟩, ⟨_, _, rfl, ⟨v4, rfl, g4⟩, ⟨_, _, rfl, ⟨v5, rfl, g5⟩, ⟨v6, rfl, g6⟩⟩⟩⟩⟩⟩⟩ := h
  exact ⟨v3, v4, v5, v6, rfl, g3, g4, g5, g6⟩
theorem k110_mkM (w : World) (base : Nat) (ok : Nat → Prop) (x : S110) {v3 : Value} (g3 : k107.R 107 w base ok v3 x.f3) {v4 : Value} (g4 : k30.R 30 w base ok v4 x.f4) {v5 : Value} (g5 : (Kd.int .i64).R 3 w base ok v5 x.f5) {v6 : Value} (g6 : k82.R 82 w base ok v6 x.f6) : k110.M w base ok x [.int .i64 x.f0, .int .u8 x.f1, .int .i64 x.f2, v3, v4, v5, v6] := ⟨[.int .i64 x.f0], [.int .u8 x.f1, .int .i64 x.f2, v3, v4, v5, v6], rfl, rfl, ⟨[.int .u8 x.f1], [.int .i64 x.f2, v3, v4, v5, v6], rfl, rfl, ⟨[.int .i64 x.f2], [v3, v4, v5, v6], rfl, rfl, ⟨[v3], [v4, v5, v6], rfl, ⟨v3, rfl, g3⟩, ⟨[v4], [v5, v6], rfl, ⟨v4, rfl, g4⟩, ⟨[v5], [v6], rfl, ⟨v5, rfl, g5⟩, ⟨v6, rfl, g6⟩⟩⟩⟩⟩⟩⟩
def rd_T110 (xs : List S110) (i : Int) : S110 := xs.getD i.toNat z110
theorem at_T110 {w : World} {A : Option Addr} {n : Nat} {xs : List S110} (h : Kd.C k110 w A n xs) (i : Int) (h0 : 0 ≤ i) (h1 : i < n) : ∃ ad A3 c3 A4 c4 A5 c5 A6 c6, A = some ad ∧ w.cell? (ad.add (i.toNat * 7)) = some (.int .i64 (rd_T110 xs i).f0) ∧ w.cell? ⟨(ad.add (i.toNat * 7)).block, (ad.add (i.toNat * 7)).off + 1, none⟩ = some (.int .u8 (rd_T110 xs i).f1) ∧ w.cell? ⟨(ad.add (i.toNat * 7)).block, (ad.add (i.toNat * 7)).off + 2, none⟩ = some (.int .i64 (rd_T110 xs i).f2) ∧ w.cell? ⟨(ad.add (i.toNat * 7)).block, (ad.add (i.toNat * 7)).off + 3, none⟩ = some (.slice A3 (rd_T110 xs i).f3.length c3) ∧ w.cell? ⟨(ad.add (i.toNat * 7)).block, (ad.add (i.toNat * 7)).off + 4, none⟩ = some (.slice A4 (rd_T110 xs i).f4.length c4) ∧ w.cell? ⟨(ad.add (i.toNat * 7)).block, (ad.add (i.toNat * 7)).off + 5, none⟩ = some (.slice A5 (rd_T110 xs i).f5.length c5) ∧ w.cell? ⟨(ad.add (i.toNat * 7)).block, (ad.add (i.toNat * 7)).off + 6, none⟩ = some (.slice A6 (rd_T110 xs i).f6.length c6) ∧ (rd_T110 xs i).f3.length ≤ c3 ∧ k107.C w A3 (rd_T110 xs i).f3.length (rd_T110 xs i).f3 ∧ (rd_T110 xs i).f4.length ≤ c4 ∧ k30.C w A4 (rd_T110 xs i).f4.length (rd_T110 xs i).f4 ∧ (rd_T110 xs i).f5.length ≤ c5 ∧ (Kd.int .i64).C w A5 (rd_T110 xs i).f5.length (rd_T110 xs i).f5 ∧ (rd_T110 xs i).f6.length ≤ c6 ∧ k82.C w A6 (rd_T110 xs i).f6.length (rd_T110 xs i).f6 := by
  obtain ⟨ad, c, e, _, hK, hc0⟩ := Kd.C_get h z110 i h0 h1
  have hc : ∀ j u, c[j]? = some u → w.cell? (ad.add (i.toNat * 7 + j)) = some u := hc0
  obtain ⟨A3, c3, A4, c4, A5, c5, A6, c6, rfl, l3, g3, l4, g4, l5, g5, l6, g6⟩ := k110_open hK
  exact ⟨ad, A3, c3, A4, c4, A5, c5, A6, c6, e, hc 0 _ rfl, by rw [← add_field _ _ 1 (by omega)]; exact hc 1 _ rfl, by rw [← add_field _ _ 2 (by omega)]; exact hc 2 _ rfl, by rw [← add_field _ _ 3 (by omega)]; exact hc 3 _ rfl, by rw [← add_field _ _ 4 (by omega)]; exact hc 4 _ rfl, by rw [← add_field _ _ 5 (by omega)]; exact hc 5 _ rfl, by rw [← add_field _ _ 6 (by omega)]; exact hc 6 _ rfl, l3, g3, l4, g4, l5, g5, l6, g6⟩

structure S86 where
  f0 : Int
  f1 : Int
  f2 : Int
  f3 : S82
  f4 : Int
  f5 : Int
  f6 : (List S75)
  f7 : (List S187)
  f8 : Int
def k86 : Kd S86 := Kd.iso (Kd.pair (Kd.int .i64) (Kd.pair (Kd.int .u8) (Kd.pair (Kd.int .i64) (Kd.pair k82 (Kd.pair (Kd.int .i64) (Kd.pair (Kd.int .i64) (Kd.pair (Kd.slice 75 k75) (Kd.pair (Kd.slice 187 k187) (Kd.int .i64))))))))) (fun x : S86 => (x.f0, x.f1, x.f2, x.f3, x.f4, x.f5, x.f6, x.f7, x.f8))
theorem k86_mkM (w : World) (base : Nat) (ok : Nat → Prop) (x : S86) {v3 : Value} (g3 : k30.R 30 w base ok v3 x.f3.f0) {v8 : Value} (g8 : k75.R 75 w base ok v8 x.f6) {v9 : Value} (g9 : k187.R 187 w base ok v9 x.f7) : k86.M w base ok x [.int .i64 x.f0, .int .u8 x.f1, .int .i64 x.f2, v3, .int .u8 x.f3.f1.f0, .int .u16 x.f3.f1.f1, .int .i64 x.f4, .int .i64 x.f5, v8, v9, .int .i64 x.f8] := ⟨[.int .i64 x.f0], [.int .u8 x.f1, .int .i64 x.f2, v3, .int .u8 x.f3.f1.f0, .int .u16 x.f3.f1.f1, .int .i64 x.f4, .int .i64 x.f5, v8, v9, .int .i64 x.f8], rfl, rfl, ⟨[.int .u8 x.f1], [.int .i64 x.f2, v3, .int .u8 x.f3.f1.f0, .int .u16 x.f3.f1.f1, .int .i64 x.f4, .int .i64 x.f5, v8, v9, .int .i64 x.f8], rfl, rfl, ⟨[.int .i64 x.f2], [v3, .int .u8 x.f3.f1.f0, .int .u16 x.f3.f1.f1, .int .i64 x.f4, .int .i64 x.f5, v8, v9, .int .i64 x.f8], rfl, rfl, ⟨[v3, .int .u8 x.f3.f1.f0, .int .u16 x.f3.f1.f1], [.int .i64 x.f4, .int .i64 x.f5, v8, v9, .int .i64 x.f8], rfl, (k82_mkM w base ok x.f3 g3), ⟨[.int .i64 x.f4], [.int .i64 x.f5, v8, v9, .int .i64 x.f8], rfl, rfl, ⟨[.int .i64 x.f5], [v8, v9, .int .i64 x.f8], rfl, rfl, ⟨[v8], [v9, .int .i64 x.f8], rfl, ⟨v8, rfl, g8⟩, ⟨[v9], [.int .i64 x.f8], rfl, ⟨v9, rfl, g9⟩, rfl⟩⟩⟩⟩⟩⟩⟩⟩

structure S185 where
  f0 : Int
  f1 : S30
def k185 : Kd S185 := Kd.iso (Kd.pair (Kd.int .i64) k30) (fun x : S185 => (x.f0, x.f1))

structure S120 where
  f0 : Int
  f1 : Int
def k120 : Kd S120 := Kd.iso (Kd.pair (Kd.int .u8) (Kd.int .u8)) (fun x : S120 => (x.f0, x.f1))
theorem k120_mkM (w : World) (base : Nat) (ok : Nat → Prop) (x : S120)  : k120.M w base ok x [.int .u8 x.f0, .int .u8 x.f1] := ⟨[.int .u8 x.f0], [.int .u8 x.f1], rfl, rfl, rfl⟩

structure S131 where
  f0 : Int
  f1 : (List Int)
  f2 : (List Int)
def k131 : Kd S131 := Kd.iso (Kd.pair (Kd.int .i64) (Kd.pair (Kd.slice 3 (Kd.int .i64)) (Kd.slice 3 (Kd.int .i64)))) (fun x : S131 => (x.f0, x.f1, x.f2))
theorem k131_mkM (w : World) (base : Nat) (ok : Nat → Prop) (x : S131) {v1 : Value} (g1 : (Kd.int .i64).R 3 w base ok v1 x.f1) {v2 : Value} (g2 : (Kd.int .i64).R 3 w base ok v2 x.f2) : k131.M w base ok x [.int .i64 x.f0, v1, v2] := ⟨[.int .i64 x.f0], [v1, v2], rfl, rfl, ⟨[v1], [v2], rfl, ⟨v1, rfl, g1⟩, ⟨v2, rfl, g2⟩⟩⟩

structure S189 where
  f0 : (List Int)
  f1 : Int
def k189 : Kd S189 := Kd.iso (Kd.pair (Kd.slice 5 (Kd.int .u8)) (Kd.int .i64)) (fun x : S189 => (x.f0, x.f1))

structure S124 where
  f0 : (List Int)
  f1 : S120
  f2 : Bool
  f3 : (List S131)
  f4 : (List S189)
def k124 : Kd S124 := Kd.iso (Kd.pair (Kd.slice 5 (Kd.int .u8)) (Kd.pair k120 (Kd.pair Kd.bool (Kd.pair (Kd.slice 131 k131) (Kd.slice 189 k189))))) (fun x : S124 => (x.f0, x.f1, x.f2, x.f3, x.f4))
theorem k124_mkM (w : World) (base : Nat) (ok : Nat → Prop) (x : S124) {v0 : Value} (g0 : (Kd.int .u8).R 5 w base ok v0 x.f0) {v4 : Value} (g4 : k131.R 131 w base ok v4 x.f3) {v5 : Value} (g5 : k189.R 189 w base ok v5 x.f4) : k124.M w base ok x [v0, .int .u8 x.f1.f0, .int .u8 x.f1.f1, .bool x.f2, v4, v5] := ⟨[v0], [.int .u8 x.f1.f0, .int .u8 x.f1.f1, .bool x.f2, v4, v5], rfl, ⟨v0, rfl, g0⟩, ⟨[.int .u8 x.f1.f0, .int .u8 x.f1.f1], [.bool x.f2, v4, v5], rfl, (k120_mkM w base ok x.f1 ), ⟨[.bool x.f2], [v4, v5], rfl, rfl, ⟨[v4], [v5], rfl, ⟨v4, rfl, g4⟩, ⟨v5, rfl, g5⟩⟩⟩⟩⟩

end Go.Proofs.Ytocdpledkmmomaa.P
