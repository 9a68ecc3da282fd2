import Derived.Test.YtocdpledkmmomaaHAPx0
import Derived.Test.YtocdpledkmmomaaHAPx2
import Derived.Test.YtocdpledkmmomaaHAPx4
import Derived.Test.YtocdpledkmmomaaHAPx5
import Derived.Test.YtocdpledkmmomaaHAPx11
import Derived.Test.YtocdpledkmmomaaHAPx12
import Derived.Test.YtocdpledkmmomaaHAPx14
import Derived.Test.YtocdpledkmmomaaHAPxFits
import Derived.Test.YtocdpledkmmomaaHAGLives16
namespace Go.Proofs.Ytocdpledkmmomaa.P
open Go.RowKit Go.Proofs.YtocdpledkmmomaaW.PrintWords Go.Proofs.YtocdpledkmmomaaW.PrintLast Go.Proofs.YtocdpledkmmomaaW.PrintMore
attribute [local go_sem] max2_int min2_int max_two min_two max_three min_three max_four min_four   -- for this text's walks alone
set_option linter.unusedVariables false
set_option linter.unusedSimpArgs false

attribute [local go_sem high] eqA32




end Go.Proofs.Ytocdpledkmmomaa.P
namespace Go.Proofs.Ytocdpledkmmomaa.P
open Go.RowKit Go.Proofs.YtocdpledkmmomaaW.PrintWords Go.Proofs.YtocdpledkmmomaaW.PrintLast Go.Proofs.YtocdpledkmmomaaW.PrintMore
set_option linter.unusedVariables false
set_option linter.unusedSimpArgs false
theorem hierof_is (k : Nat) (l0 : List S110) (l1 : List S86) (l2 : List S185) (l3 : List S124) (a b : Int) : ∃ r, hier_of.f (k + 2) l0 l1 l2 l3 a b = some r ∧ (r = 2 → 0 ≤ wrap64 b ∧ wrap64 b < (l0.length : Int)) := by
  have h1 : ∀ k x, ∃ r, hier_of.j1 (k + 1) a x l0 l1 l2 l3 a b = some r ∧ (r = 2 → 0 ≤ wrap64 b ∧ wrap64 b < (l0.length : Int)) := by
    intro k x
    have ht : ∀ n : Int, ∃ r, ((hier_there.f l0 l1 l2 l3 (wrap64 b)).bind fun t => if t = true then some n else some 0) = some r ∧ (r = 2 → 0 ≤ wrap64 b ∧ wrap64 b < (l0.length : Int)) := by
      intro n
      unfold hier_there.f
      by_cases h : wrap64 b ≥ 0
      · by_cases h3 : wrap64 b < (l0.length : Int)
        · exact ⟨n, by simp [h, h3], fun _ => ⟨h, h3⟩⟩
        · exact ⟨0, by simp [h, h3], fun h => by cases h⟩
      · exact ⟨0, by simp [h], fun h => by cases h⟩
    simp only [hier_of.j1]
    split
    · split
      · exact ⟨3, rfl, fun h => by cases h⟩
      · exact ⟨0, rfl, fun h => by cases h⟩
    split
    · exact ht 2
    split
    · exact ht 4
    · exact ⟨0, rfl, fun h => by cases h⟩
  have h0 : ∀ x, ∃ r, hier_of.j0 (k + 2) a x l0 l1 l2 l3 a b = some r ∧ (r = 2 → 0 ≤ wrap64 b ∧ wrap64 b < (l0.length : Int)) := by
    intro x
    rw [show k + 2 = (k + 1) + 1 from rfl]
    simp only [hier_of.j0]
    split
    · split
      · exact ⟨1, rfl, fun h => by cases h⟩
      · exact ⟨0, rfl, fun h => by cases h⟩
    repeat' split
    all_goals exact h1 _ _
  unfold hier_of.f
  repeat' split
  all_goals exact h0 _
theorem hierFits_is (k : Nat) (l0 : List S110) (l1 : List S86) (l2 : List S185) (l3 : List S124) (a b c d : Int) (hl : l0.length < 9223372036854775807) : (hier_Fits.f (k + 2) l0 l1 l2 l3 a b c d).isSome = true := by
  obtain ⟨r, hr, hr2⟩ := hierof_is k l0 l1 l2 l3 a b
  obtain ⟨s, hs, hs2⟩ := hierof_is k l0 l1 l2 l3 c d
  have h : ∀ x, (hier_Fits.j0 (k + 2) r s x l0 l1 l2 l3 a b c d).isSome = true := by
    intro x
    rw [show k + 2 = (k + 1) + 1 from rfl]
    simp only [hier_Fits.j0, hier_From.f, hl, if_true, Option.bind_some]
    split
    · rfl
    split
    · rfl
    split
    case isTrue h =>
      split
      · rfl
      · unfold hier_iface.f
        obtain ⟨h3, h4⟩ := hs2 h
        rw [if_pos h3, if_pos h4]
        simp only [Option.bind_some]
        split
        · rfl
        split
        case isTrue h =>
          obtain ⟨h3, h4⟩ := hr2 h
          rw [if_pos h3, if_pos h4]
          simp only [Option.bind_some]
          split <;> rfl
        · rfl
    · repeat' split
      all_goals rfl
  unfold hier_Fits.f
  rw [hr, hs]
  simp only [Option.bind_some]
  repeat' split
  all_goals exact h _
end Go.Proofs.Ytocdpledkmmomaa.P
