/- FireOf, the pure part: both tell the same access of any instruction. -/
import Derived.Test.YtocdpledkmmomaaFOPx27
namespace Go.Proofs.Ytocdpledkmmomaa.P
open Go.RowKit Go.Proofs.YtocdpledkmmomaaW.PrintWords Go.Proofs.YtocdpledkmmomaaW.PrintLast Go.Proofs.YtocdpledkmmomaaW.PrintMore
set_option linter.unusedVariables false
set_option linter.unusedSimpArgs false
theorem lives21_true : garderobelaw21_lives.f 9 = some true := by kernel_rfl
theorem ref21_Of_eq (a0 op A a3 a4 pool a6 : Int) (l7 l8 : List Int) (a9 : Int) : garderoberef21_Of.f 9 a0 op A a3 a4 pool a6 l7 l8 a9 = some (accOf op A pool) := by
  unfold garderoberef21_Of.f accOf
  simp only [garderoberef21_Of.j0, garderoberef21_Of.j1, garderoberef21_Of.j2, decide_eq_true_eq, beq_iff_eq]
  rcases Decidable.em (op = 131) with e | e131
  · subst e; simp
  rcases Decidable.em (op = 132) with e | e132
  · subst e; simp
  rcases Decidable.em (op = 133) with e | e133
  · subst e; simp
  rcases Decidable.em (op = 135) with e | e135
  · subst e; simp
  rcases Decidable.em (op = 136) with e | e136
  · subst e; simp
  rcases Decidable.em (op = 137) with e | e137
  · subst e; simp
  rcases Decidable.em (op = 36) with e | e36
  · subst e; simp
  rcases Decidable.em (op = 37) with e | e37
  · subst e; simp
  rcases Decidable.em (op = 38) with e | e38
  · subst e; simp
  rcases Decidable.em (op = 55) with e | e55
  · subst e; simp
  rcases Decidable.em (op = 56) with e | e56
  · subst e; simp
  rcases Decidable.em (op = 57) with e | e57
  · subst e; simp
  rcases Decidable.em (op = 146) with e | e146
  · subst e; simp
  rcases Decidable.em (op = 139) with e | e139
  · subst e; simp
  rcases Decidable.em (op = 140) with e | e140
  · subst e; simp
  rcases Decidable.em (op = 147) with e | e147
  · subst e; simp
  rcases Decidable.em (op = 142) with e | e142
  · subst e; simp
  rcases Decidable.em (op = 148) with e | e148
  · subst e; simp; split <;> rfl
  rcases Decidable.em (op = 149) with e | e149
  · subst e; simp; split <;> rfl
  simp only [if_neg e131, if_neg e132, if_neg e133, if_neg e135, if_neg e136, if_neg e137, if_neg e36, if_neg e37, if_neg e38, if_neg e55, if_neg e56, if_neg e57, if_neg e146, if_neg e139, if_neg e140, if_neg e147, if_neg e142, if_neg e148, if_neg e149]
  rw [if_neg (by omega), if_neg (by omega), if_neg (by omega)]
theorem pureFireOf (a0 op A a3 a4 pool a6 : Int) (l7 l8 : List Int) (a9 : Int) : garderobelaw21_FireOf.f 9 a0 op A a3 a4 pool a6 l7 l8 a9 = some true := by
  unfold garderobelaw21_FireOf.f
  unfold fire_Of.f
  rw [ref21_Of_eq, lives21_true]
  simp
end Go.Proofs.Ytocdpledkmmomaa.P
