import Derived.Test.YtocdpledkmmomaaFAPx25
namespace Go.Proofs.Ytocdpledkmmomaa.P
open Go.RowKit Go.Proofs.YtocdpledkmmomaaW.PrintWords Go.Proofs.YtocdpledkmmomaaW.PrintLast Go.Proofs.YtocdpledkmmomaaW.PrintMore
set_option linter.unusedVariables false
set_option linter.unusedSimpArgs false
theorem fa_bind_is {α β : Type} {o : Option α} {f : α → Option β} (h : o.isSome = true) (hf : ∀ x, o = some x → (f x).isSome = true) : (o.bind f).isSome = true := by
  cases o with
  | none => cases h
  | some x => exact hf x rfl
theorem fa_class_is (k : Nat) (a b c d e f : Int) : (fire_class.f (k + 1) a b c d e f).isSome = true := by
  unfold fire_class.f types_IsArray.f types_Size.f
  simp only [types_Size.j0]
  repeat' split
  all_goals first | rfl | (simp only [Option.bind_some]; split <;> rfl)
theorem fa_share_is (l0 : List S110) (l1 : List S86) (l2 : List S185) (l3 : List S124) (a : Int) : (fire_shareable.f l0 l1 l2 l3 a).isSome = true := by
  unfold fire_shareable.f
  repeat' split
  all_goals first | rfl | omega
theorem fa_small {l0 : List S110} (h1 : l0.length ≤ 1048576) (h2 : ∀ c ∈ l0, c.f3.length ≤ 1048576) : (l0.length + 1) * mxI l0 < 17592186044000 := by
  have h3 : mxI l0 ≤ 1048577 := by
    induction l0 with
    | nil => unfold mxI; simp
    | cons d l ih =>
      have h4 := h2 d List.mem_cons_self
      have h5 := ih (by simp at h1; omega) (fun c hc => h2 c (List.mem_cons_of_mem _ hc))
      unfold mxI at h5 ⊢
      rw [List.foldr_cons]
      exact Nat.max_le.2 ⟨by omega, h5⟩
  have := Nat.mul_le_mul (show l0.length + 1 ≤ 1048577 by omega) h3
  omega
theorem fireMay_is (k : Nat) (l0 : List S110) (l1 : List S86) (l2 : List S185) (l3 : List S124) (a1 b0 b1 b2 b3 b4 b5 c0 c1 : Int) (hb : (l0.length + 1) * mxI l0 < 17592186044000) : (fire_May.f (k + 4) l0 l1 l2 l3 a1 b0 b1 b2 b3 b4 b5 c0 c1).isSome = true := by
  have hl : l0.length < 9223372036854775807 := by
    have hm := Nat.mul_le_mul_left (l0.length + 1) (mxI_pos l0)
    omega
  have h2 : ∀ x y z, (fire_May.j2 (k + 2) x y z l0 l1 l2 l3 b0 b1 b2 b3 b4 b5 c0 c1).isSome = true := by
    intro x y z
    rw [show k + 2 = (k + 1) + 1 from rfl]
    simp only [fire_May.j2, fire_entry.f, fire_global.f, hier_From.f, hier_Shared.f, hl, hb, if_true, Option.bind_some]
    split
    · split <;> rfl
    split
    · split
      · rfl
      · refine fa_bind_is (fa_share_is _ _ _ _ _) (fun x _ => ?_)
        split
        · exact fa_bind_is (fa_class_is _ _ _ _ _ _ _) (fun x _ => rfl)
        · rfl
    split
    · split
      · rfl
      split
      · rfl
      split
      · rfl
      · refine fa_bind_is (fa_share_is _ _ _ _ _) (fun x _ => ?_)
        split
        · exact fa_bind_is (fa_class_is _ _ _ _ _ _ _) (fun x _ => rfl)
        · rfl
    · repeat' split
      all_goals rfl
  have h1 : ∀ x y z, (fire_May.j1 (k + 3) x y z l0 l1 l2 l3 b0 b1 b2 b3 b4 b5 c0 c1).isSome = true := by
    intro x y z
    rw [show k + 3 = (k + 2) + 1 from rfl]
    simp only [fire_May.j1, fire_global.f, Option.bind_some]
    repeat' split
    all_goals first | rfl | exact h2 _ _ _
  have h0 : ∀ x, (fire_May.j0 (k + 4) x l0 l1 l2 l3 b0 b1 b2 b3 b4 b5 c0 c1).isSome = true := by
    intro x
    rw [show k + 4 = (k + 3) + 1 from rfl]
    simp only [fire_May.j0]
    split <;> exact h1 _ _ _
  unfold fire_May.f
  split <;> exact h0 _
theorem fa_lives_true : garderobelaw21_lives.f 9 = some true := by kernel_rfl
theorem fireAny_true (l0 : List S110) (l1 : List S86) (l2 : List S185) (l3 : List S124) (a1 b0 b1 b2 b3 b4 b5 c0 c1 : Int) (hb : (l0.length + 1) * mxI l0 < 17592186044000) : garderobelaw21_FireAny.f 9 l0 l1 l2 l3 a1 b0 b1 b2 b3 b4 b5 c0 c1 = some true := by
  unfold garderobelaw21_FireAny.f
  rw [fa_lives_true]
  split
  · rfl
  obtain ⟨r1, h1⟩ := Option.isSome_iff_exists.1 (fireMay_is 5 l0 l1 l2 l3 a1 b0 b1 b2 b3 b4 b5 c0 c1 hb)
  obtain ⟨r2, h2⟩ := Option.isSome_iff_exists.1 (fireMay_is 5 l0 l1 l2 l3 0 b0 b1 b2 b3 b4 b5 c0 c1 hb)
  rw [show (9 : Nat) = 5 + 4 from rfl, h1, h2]
  rfl
theorem fireAny_any (A0 : Option Addr) (c0 : Nat) (l0 : List S110) (A1 : Option Addr) (c1 : Nat) (l1 : List S86) (A2 : Option Addr) (c2 : Nat) (l2 : List S185) (A3 : Option Addr) (c3 : Nat) (l3 : List S124) (a1 b0 b1 b2 b3 b4 b5 e0 e1 : Int) (w : World) (hr0 : Kd.C k110 w A0 l0.length l0) (hc0 : l0.length ≤ c0) (hr1 : Kd.C k86 w A1 l1.length l1) (hc1 : l1.length ≤ c1) (hr2 : Kd.C k185 w A2 l2.length l2) (hc2 : l2.length ≤ c2) (hr3 : Kd.C k124 w A3 l3.length l3) (hc3 : l3.length ≤ c3) (hs : l0.length ≤ 1048576 ∧ ∀ c ∈ l0, c.f3.length ≤ 1048576) :
    Calls Try.prog 6 #[.agg #[.slice A0 l0.length c0, .slice A1 l1.length c1, .slice A2 l2.length c2, .slice A3 l3.length c3], .int .i64 a1, .agg #[.int .u8 b0, .int .i64 b1, .int .i64 b2, .int .i64 b3, .int .u8 b4, .int .i64 b5], .agg #[.int .u8 e0, .int .i64 e1]] w fun e w' => e = .returned (.bool true) ∧ Below w.heap.size w w' :=
  garderobelaw21_FireAny.calls 9 A0 c0 l0 A1 c1 l1 A2 c2 l2 A3 c3 l3 a1 b0 b1 b2 b3 b4 b5 e0 e1 true w hr0 hc0 hr1 hc1 hr2 hc2 hr3 hc3 (fireAny_true l0 l1 l2 l3 a1 b0 b1 b2 b3 b4 b5 e0 e1 (fa_small hs.1 hs.2))
end Go.Proofs.Ytocdpledkmmomaa.P
