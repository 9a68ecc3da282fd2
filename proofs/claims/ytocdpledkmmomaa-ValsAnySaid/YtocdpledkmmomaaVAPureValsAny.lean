import Derived.Test.YtocdpledkmmomaaVAPx15
namespace Go.Proofs.Ytocdpledkmmomaa.P
open Go.RowKit Go.Proofs.YtocdpledkmmomaaW.PrintWords Go.Proofs.YtocdpledkmmomaaW.PrintLast Go.Proofs.YtocdpledkmmomaaW.PrintMore
set_option linter.unusedVariables false
set_option linter.unusedSimpArgs false
theorem bind_is {α β : Type} {o : Option α} {f : α → Option β} (h : o.isSome = true) (hf : ∀ x, o = some x → (f x).isSome = true) : (o.bind f).isSome = true := by
  cases o with
  | none => cases h
  | some x => exact hf x rfl
theorem typesof_is (k : Nat) (a : Int) : (types_of.f (k + 1) a).isSome = true := by
  unfold types_of.f
  simp only [types_of.j0]
  repeat' split
  all_goals rfl
theorem typesMay_is (k : Nat) (a b : Int) : (types_May.f (k + 1) a b).isSome = true := by
  unfold types_May.f
  refine bind_is (typesof_is _ _) (fun x _ => ?_)
  repeat' split
  all_goals rfl
theorem typesSize_is (k : Nat) (a b : Int) : (types_Size.f (k + 1) a b).isSome = true := by
  unfold types_Size.f
  simp only [types_Size.j0]
  repeat' split
  all_goals rfl
theorem typesIsRef_is (k : Nat) (a b : Int) : (types_IsRef.f (k + 1) a b).isSome = true := by
  unfold types_IsRef.f
  split
  · rfl
  · refine bind_is ?_ (fun x _ => rfl)
    unfold types_IsArray.f
    exact bind_is (typesSize_is _ _ _) (fun x _ => rfl)
theorem valsMay_is (k : Nat) (l0 : List S110) (l1 : List S86) (l2 : List S185) (l3 : List S124) (a b c d : Int) : (vals_May.f (k + 2) l0 l1 l2 l3 a b c d).isSome = true := by
  have h : ∀ x, (vals_May.j0 (k + 2) a x l0 l1 l2 l3 a b c d).isSome = true := by
    intro x
    simp only [vals_May.j0]
    split
    · rfl
    split
    · split
      · split
        · refine bind_is (typesMay_is _ _ _) (fun x _ => ?_)
          split
          · refine bind_is (typesIsRef_is _ _ _) (fun x _ => ?_)
            split <;> rfl
          · rfl
        · rfl
      · split
        · refine bind_is (typesMay_is _ _ _) (fun x _ => ?_)
          split
          · refine bind_is (typesIsRef_is _ _ _) (fun x _ => ?_)
            split
            · split <;> rfl
            · rfl
          · rfl
        · rfl
    · repeat' split
      all_goals rfl
  unfold vals_May.f
  repeat' split
  all_goals exact h _
theorem valsJoin_is (k : Nat) (l0 : List S110) (l1 : List S86) (l2 : List S185) (l3 : List S124) (a b c d e f g i : Int) (hl : l0.length < 9223372036854775807) : (vals_Join.f (k + 5) l0 l1 l2 l3 a b c d e f g i).isSome = true := by
  have h2 : ∀ (k : Nat) x p q r s, (vals_Join.j2 (k + 1) x l0 l1 l2 l3 a b c d e f g i p q r s).isSome = true := by
    intro k x p q r s
    simp only [vals_Join.j2, hier_Common.f, hl, if_true, Option.bind_some]
    repeat' split
    all_goals rfl
  have h1 : ∀ (k : Nat) x p q r s, (vals_Join.j1 (k + 2) x l0 l1 l2 l3 a b c d e f g i p q r s).isSome = true := by
    intro k x p q r s
    rw [show k + 2 = (k + 1) + 1 from rfl]
    simp only [vals_Join.j1]
    repeat' split
    all_goals first | rfl | exact h2 _ _ _ _ _ _
  have h0 : ∀ (k : Nat) x p q r s, (vals_Join.j0 (k + 3) x l0 l1 l2 l3 a b c d e f g i p q r s).isSome = true := by
    intro k x p q r s
    rw [show k + 3 = (k + 2) + 1 from rfl]
    simp only [vals_Join.j0]
    repeat' split
    all_goals first | rfl | exact h1 _ _ _ _ _ _
  unfold vals_Join.f
  refine bind_is (valsMay_is _ _ _ _ _ _ _ _ _) (fun x _ => ?_)
  split
  · exact bind_is (valsMay_is _ _ _ _ _ _ _ _ _) (fun x _ => h0 _ _ _ _ _ _)
  · exact h0 _ _ _ _ _ _
theorem hierof_is (k : Nat) (l0 : List S110) (l1 : List S86) (l2 : List S185) (l3 : List S124) (a b : Int) : ∃ r, hier_of.f (k + 2) l0 l1 l2 l3 a b = some r ∧ (r = 2 → 0 ≤ wrap64 b ∧ wrap64 b < (l0.length : Int)) := by
  have h1 : ∀ k x, ∃ r, hier_of.j1 (k + 1) a x l0 l1 l2 l3 a b = some r ∧ (r = 2 → 0 ≤ wrap64 b ∧ wrap64 b < (l0.length : Int)) := by
    intro k x
    have ht : ∀ n : Int, ∃ r, ((hier_there.f l0 l1 l2 l3 (wrap64 b)).bind fun t => if t = true then some n else some 0) = some r ∧ (r = 2 → 0 ≤ wrap64 b ∧ wrap64 b < (l0.length : Int)) := by
      intro n
      unfold hier_there.f
      by_cases h : wrap64 b ≥ 0
      · by_cases h3 : wrap64 b < (l0.length : Int)
        · exact ⟨n, by simp [h, h3], fun _ => ⟨h, h3⟩⟩
        · exact ⟨0, by simp [h, h3], fun h => by cases h⟩
      · exact ⟨0, by simp [h], fun h => by cases h⟩
    simp only [hier_of.j1]
    split
    · split
      · exact ⟨3, rfl, fun h => by cases h⟩
      · exact ⟨0, rfl, fun h => by cases h⟩
    split
    · exact ht 2
    split
    · exact ht 4
    · exact ⟨0, rfl, fun h => by cases h⟩
  have h0 : ∀ x, ∃ r, hier_of.j0 (k + 2) a x l0 l1 l2 l3 a b = some r ∧ (r = 2 → 0 ≤ wrap64 b ∧ wrap64 b < (l0.length : Int)) := by
    intro x
    rw [show k + 2 = (k + 1) + 1 from rfl]
    simp only [hier_of.j0]
    split
    · split
      · exact ⟨1, rfl, fun h => by cases h⟩
      · exact ⟨0, rfl, fun h => by cases h⟩
    repeat' split
    all_goals exact h1 _ _
  unfold hier_of.f
  repeat' split
  all_goals exact h0 _
theorem hierFits_is (k : Nat) (l0 : List S110) (l1 : List S86) (l2 : List S185) (l3 : List S124) (a b c d : Int) (hl : l0.length < 9223372036854775807) : (hier_Fits.f (k + 2) l0 l1 l2 l3 a b c d).isSome = true := by
  obtain ⟨r, hr, hr2⟩ := hierof_is k l0 l1 l2 l3 a b
  obtain ⟨s, hs, hs2⟩ := hierof_is k l0 l1 l2 l3 c d
  have h : ∀ x, (hier_Fits.j0 (k + 2) r s x l0 l1 l2 l3 a b c d).isSome = true := by
    intro x
    rw [show k + 2 = (k + 1) + 1 from rfl]
    simp only [hier_Fits.j0, hier_From.f, hl, if_true, Option.bind_some]
    split
    · rfl
    split
    · rfl
    split
    case isTrue h =>
      split
      · rfl
      · unfold hier_iface.f
        obtain ⟨h3, h4⟩ := hs2 h
        rw [if_pos h3, if_pos h4]
        simp only [Option.bind_some]
        split
        · rfl
        split
        case isTrue h =>
          obtain ⟨h3, h4⟩ := hr2 h
          rw [if_pos h3, if_pos h4]
          simp only [Option.bind_some]
          split <;> rfl
        · rfl
    · repeat' split
      all_goals rfl
  unfold hier_Fits.f
  rw [hr, hs]
  simp only [Option.bind_some]
  repeat' split
  all_goals exact h _
theorem valsFits_is (k : Nat) (l0 : List S110) (l1 : List S86) (l2 : List S185) (l3 : List S124) (a b c d e f : Int) (hl : l0.length < 9223372036854775807) : (vals_Fits.f (k + 3) l0 l1 l2 l3 a b c d e f).isSome = true := by
  have h0 : ∀ x, (vals_Fits.j0 (k + 3) x l0 l1 l2 l3 a b c d e f).isSome = true := by
    intro x
    rw [show k + 3 = (k + 2) + 1 from rfl]
    simp only [vals_Fits.j0]
    split
    · rfl
    split
    · exact bind_is (typesIsRef_is _ _ _) (fun _ _ => rfl)
    split
    · exact bind_is (typesIsRef_is _ _ _) (fun _ _ => rfl)
    split
    · exact bind_is (hierFits_is _ _ _ _ _ _ _ _ _ hl) (fun _ _ => rfl)
    · rfl
  unfold vals_Fits.f
  refine bind_is (valsMay_is _ _ _ _ _ _ _ _ _) (fun x _ => ?_)
  split
  · exact bind_is (typesMay_is _ _ _) (fun _ _ => h0 _)
  · exact h0 _
theorem valsAny_true (k : Nat) (l0 : List S110) (l1 : List S86) (l2 : List S185) (l3 : List S124) (a b c d e f g i m n : Int) : garderobelaw16_ValsAny.f (k + 5) l0 l1 l2 l3 a b c d e f g i m n = some true := by
  unfold garderobelaw16_ValsAny.f
  split
  · rfl
  case isFalse h =>
  have hl : l0.length < 9223372036854775807 := by omega
  obtain ⟨r1, h1⟩ := Option.isSome_iff_exists.1 (valsJoin_is k l0 l1 l2 l3 a b c d e f g i hl)
  obtain ⟨r2, h2⟩ := Option.isSome_iff_exists.1 (valsFits_is (k + 2) l0 l1 l2 l3 a b c d m n hl)
  obtain ⟨r3, h3⟩ := Option.isSome_iff_exists.1 (valsMay_is (k + 3) l0 l1 l2 l3 a b c d)
  unfold vals_Below.f
  rw [h1, h2, h3]
  rfl
theorem valsAny_any (A0 : Option Addr) (c0 : Nat) (l0 : List S110) (A1 : Option Addr) (c1 : Nat) (l1 : List S86) (A2 : Option Addr) (c2 : Nat) (l2 : List S185) (A3 : Option Addr) (c3 : Nat) (l3 : List S124) (a b c d e f g i m n : Int) (w : World) (hr0 : Kd.C k110 w A0 l0.length l0) (hc0 : l0.length ≤ c0) (hr1 : Kd.C k86 w A1 l1.length l1) (hc1 : l1.length ≤ c1) (hr2 : Kd.C k185 w A2 l2.length l2) (hc2 : l2.length ≤ c2) (hr3 : Kd.C k124 w A3 l3.length l3) (hc3 : l3.length ≤ c3) :
    Calls Try.prog 5 #[.agg #[.slice A0 l0.length c0, .slice A1 l1.length c1, .slice A2 l2.length c2, .slice A3 l3.length c3], .agg #[.int .u8 a, .int .u8 b, .int .u16 c, .int .i64 d], .agg #[.int .u8 e, .int .u8 f, .int .u16 g, .int .i64 i], .agg #[.int .u8 m, .int .u16 n]] w fun e w' => e = .returned (.bool true) ∧ Below w.heap.size w w' :=
  garderobelaw16_ValsAny.calls 5 A0 c0 l0 A1 c1 l1 A2 c2 l2 A3 c3 l3 a b c d e f g i m n true w hr0 hc0 hr1 hc1 hr2 hc2 hr3 hc3 (valsAny_true 0 l0 l1 l2 l3 a b c d e f g i m n)
end Go.Proofs.Ytocdpledkmmomaa.P
