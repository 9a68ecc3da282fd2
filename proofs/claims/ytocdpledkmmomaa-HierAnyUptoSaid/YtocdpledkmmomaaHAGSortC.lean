import Derived.Test.YtocdpledkmmomaaHAGUp
import Derived.Ground.NamesProg
import Derived.Ground.Names2Prog
import Derived.Shelf.Lay
import Derived.Shelf.Sort.Plain
import Derived.Shelf.Slices.CompactI
import Derived.Shelf.Slices.In.SortNone
import Derived.Sort.OwnSortedInts
import Derived.Lib.OwnBridge
namespace Go.Proofs.Ytocdpledkmmomaa.P
open Go.Shelf
shelf_lay Lays.n189 Nm 189 at Try as laysSort
shelf_lay Lays2.n20 Nm2 20 at Try as laysCompact
end Go.Proofs.Ytocdpledkmmomaa.P
namespace Go.Proofs.Ytocdpledkmmomaa.P
open Go.RowKit Go.Shelf Go.Sort Go.Proofs.YtocdpledkmmomaaW.PrintWords Go.Proofs.YtocdpledkmmomaaW.PrintLast Go.Proofs.YtocdpledkmmomaaW.PrintMore
set_option linter.unusedVariables false
set_option linter.unusedSimpArgs false
def srt (xs : List Int) : List Int := xs.mergeSort fun x y => decide (x ≤ y)
theorem srt_length (xs : List Int) : (srt xs).length = xs.length := List.length_mergeSort xs
theorem sort_own {base : Nat} {w : World} {v : Value} {xs : List Int} (h : w.ownsRow base 3 1 v xs.length (nums .i64 xs)) (hl : xs.length < 4611686018427387904) :
    Calls Try.prog 62 #[v] w fun e w' => e = .returned (.tuple #[]) ∧ w'.ownsRow base 3 1 v (srt xs).length (nums .i64 (srt xs)) ∧ w.grownBy w' v.ownBlock := by
  rcases h.2 with ⟨rfl, h0⟩ | ⟨g, cap, cur, rfl, hbase, hb, h1, h2, h3, h4⟩
  · obtain rfl : xs = [] := List.length_eq_zero_iff.1 h0
    refine (Any.slices_Sort_int_none laysSort none 0 w).mono ?_
    rintro e w' ⟨rfl, rfl⟩
    exact ⟨rfl, by simpa [srt] using h, World.grownBy.refl _ _⟩
  · have h5 := Any.slices_Sort_int laysSort g 0 cap xs w (holds_of_blockI hb (by simpa [nums] using h4)) (Array.getElem?_eq_some_iff.1 hb).1 hl
    refine h5.mono ?_
    rintro e w' ⟨rfl, n, os, rfl⟩
    refine ⟨rfl, ?_, grownBy_sortedI _⟩
    rw [srt_length]
    exact ownsRow_sortedI (ss := xs) (srt_length xs) hbase hb h1 h2 h3
theorem compact_own {base : Nat} {w : World} {v : Value} {xs : List Int} (h : w.ownsRow base 3 1 v xs.length (nums .i64 xs)) (hl : xs.length < 4611686018427387904) :
    Calls Try.prog 63 #[v] w fun e w' => ∃ v', e = .returned v' ∧ w'.ownsRow base 3 1 v' (Lib.compact xs).length (nums .i64 (Lib.compact xs)) ∧ w.grownBy w' v.ownBlock := by
  have hle := Lib.compact_length_le xs
  rcases h.2 with ⟨rfl, h0⟩ | ⟨g, cap, cur, rfl, hbase, hb, h1, h2, h3, h4⟩
  · obtain rfl : xs = [] := List.length_eq_zero_iff.1 h0
    refine (Any.slices_Compact_int_empty laysCompact none 0 w).mono ?_
    rintro e w' ⟨rfl, rfl⟩
    refine ⟨_, rfl, ?_, World.grownBy.refl _ _⟩
    rw [show Lib.compact ([] : List Int) = [] from List.length_eq_zero_iff.1 (by simpa using hle)]
    exact h
  · have h5 := Any.slices_Compact_int laysCompact g 0 cap xs w (holds_of_blockI hb (by simpa [nums] using h4)) (by omega) h1
    refine h5.mono ?_
    rintro e w' ⟨rfl, q, rfl⟩
    refine ⟨_, rfl, ?_, ?_⟩
    · have hc := Lib.ownsRow_putRow (q := q) (k := (Lib.compact xs).length) (ys := Lib.compact xs ++ List.replicate (xs.length - (Lib.compact xs).length) 0) (enc := Value.int .i64) h (by simp; omega) (by omega)
      rw [List.take_left] at hc
      exact hc
    · refine ⟨rfl, rfl, rfl, by simp [putRow, mapBlock, Sort.ahead], fun k hk hne => ?_⟩
      have : g ≠ k := fun e => hne (by rw [e]; rfl)
      simp [putRow, mapBlock, Sort.ahead, Array.getElem?_modify, this]
end Go.Proofs.Ytocdpledkmmomaa.P
