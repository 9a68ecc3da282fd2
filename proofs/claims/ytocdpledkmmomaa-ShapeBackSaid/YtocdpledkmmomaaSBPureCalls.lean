import Derived.Test.YtocdpledkmmomaaSBPx8
import Derived.Test.YtocdpledkmmomaaSBPx9
import Derived.Test.YtocdpledkmmomaaSBPx10
import Derived.Test.YtocdpledkmmomaaSBGLives17
namespace Go.Proofs.Ytocdpledkmmomaa.P
open Go.RowKit Go.Proofs.YtocdpledkmmomaaW.PrintWords Go.Proofs.YtocdpledkmmomaaW.PrintLast Go.Proofs.YtocdpledkmmomaaW.PrintMore
set_option linter.unusedVariables false
set_option linter.unusedSimpArgs false
theorem w64 {i : Int} (h0 : 0 ≤ i) (h : i < 1000000000000) : wrap64 (i + 1) = i + 1 := by unfold wrap64; omega
theorem vals_l0 (l : List S32) (hl : l.length ≤ 100000) (d : Nat) : ∀ (k i : Nat), i + d = l.length → d < k → garderoberef17_Vals.l0 k l l (i : Int) = some true := by
  induction d with
  | zero =>
    intro k i hd hk
    obtain ⟨k, rfl⟩ : ∃ m, k = m + 1 := ⟨k - 1, by omega⟩
    simp only [garderoberef17_Vals.l0]
    rw [if_neg (by omega)]
  | succ d ih =>
    intro k i hd hk
    obtain ⟨k, rfl⟩ : ∃ m, k = m + 1 := ⟨k - 1, by omega⟩
    simp only [garderoberef17_Vals.l0]
    rw [if_pos (by omega), if_pos (by omega), if_pos (by omega), if_neg (by simp), w64 (by omega) (by omega)]
    have := ih k (i + 1) (by omega) (by omega)
    simpa using this
theorem vals_same (l : List S32) (hl : l.length ≤ 100000) (k : Nat) (hk : l.length < k) : garderoberef17_Vals.f k l l = some true := by
  unfold garderoberef17_Vals.f
  rw [if_pos rfl]
  exact vals_l0 l hl l.length k 0 (by omega) hk
theorem same_l0 (a b : List S32) (c : List Int) (hl : c.length ≤ 100000) (d : Nat) : ∀ (k i : Nat), i + d = c.length → d < k → garderoberef17_Same.l0 k (i : Int) a b c a b c = some true := by
  induction d with
  | zero =>
    intro k i hd hk
    obtain ⟨k, rfl⟩ : ∃ m, k = m + 1 := ⟨k - 1, by omega⟩
    simp only [garderoberef17_Same.l0]
    rw [if_neg (by omega)]
  | succ d ih =>
    intro k i hd hk
    obtain ⟨k, rfl⟩ : ∃ m, k = m + 1 := ⟨k - 1, by omega⟩
    simp only [garderoberef17_Same.l0]
    rw [if_pos (by omega), if_pos (by omega), if_pos (by omega), if_pos trivial, w64 (by omega) (by omega)]
    have := ih k (i + 1) (by omega) (by omega)
    simpa using this
theorem same_same (k : Nat) (hk : 900 < k) (a b : List S32) (c : List Int) (ha : a.length ≤ 400) (hb : b.length ≤ 400) (hc : c.length ≤ 400) : garderoberef17_Same.f (k + 1) a b c a b c = some true := by
  unfold garderoberef17_Same.f
  rw [vals_same a (by omega) (k + 1) (by omega), vals_same b (by omega) (k + 1) (by omega)]
  simp only [Option.bind_some, if_true, bne_self_eq_false]
  simp only [garderoberef17_Same.j0, Bool.false_eq_true, if_false]
  have := same_l0 a b c (by omega) c.length k 0 (by omega) (by omega)
  rw [show ((0 : Nat) : Int) = 0 from rfl] at this
  exact this
theorem rd_drop (c : List Int) (i : Nat) (h : i < c.length) : c.drop i = rd c (i : Int) :: c.drop (i + 1) := by
  rw [List.drop_eq_getElem_cons h]
  congr 1
  simp [rd, h]
theorem index_l0 (c : List Int) (x : Int) (hl : c.length ≤ 100000) (d : Nat) : ∀ (k i : Nat), i + d = c.length → d < k → ∃ r, slices_Index_int_int.l0 k c x (c.length : Int) (i : Int) = some r ∧ (0 ≤ r ↔ x ∈ c.drop i) := by
  induction d with
  | zero =>
    intro k i hd hk
    obtain ⟨k, rfl⟩ : ∃ m, k = m + 1 := ⟨k - 1, by omega⟩
    refine ⟨-1, ?_, ?_⟩
    · simp only [slices_Index_int_int.l0]
      rw [if_neg (by omega)]
    · rw [List.drop_of_length_le (by omega)]
      simp
  | succ d ih =>
    intro k i hd hk
    obtain ⟨k, rfl⟩ : ∃ m, k = m + 1 := ⟨k - 1, by omega⟩
    simp only [slices_Index_int_int.l0]
    rw [if_pos (by omega), if_pos (by omega), if_pos (by omega), rd_drop c i (by omega)]
    by_cases h : x = rd c (i : Int)
    · rw [if_pos h]
      exact ⟨_, rfl, by simp [h]⟩
    · rw [if_neg h, w64 (by omega) (by omega)]
      obtain ⟨r, h1, h2⟩ := ih k (i + 1) (by omega) (by omega)
      refine ⟨r, by simpa using h1, ?_⟩
      rw [h2]
      simp [h]
theorem contains_eq (k : Nat) (hk : 900 < k) (c : List Int) (x : Int) (hl : c.length ≤ 400) : slices_Contains_int_int.f (k + 1) c x = some (decide (x ∈ c)) := by
  obtain ⟨r, h1, h2⟩ := index_l0 c x (by omega) c.length (k + 1) 0 (by omega) (by omega)
  unfold slices_Contains_int_int.f slices_Index_int_int.f
  rw [show ((0 : Nat) : Int) = 0 from rfl] at h1
  rw [h1]
  simp only [Option.bind_some, List.drop_zero] at h2 ⊢
  by_cases hx : x ∈ c <;> simp [hx] at h2 ⊢ <;> omega
theorem copied_of (L S : List S32) (C : List Int) (hL : L.length ≤ 400) (hS : S.length ≤ 400) (hC : C.length ≤ 400) : shape_copied.f L S C = some (L, S, C) := by
  unfold shape_copied.f api_Val.f slices_Clone_int_int.f
  rw [if_pos (by omega), if_pos (by omega), if_pos (by omega)]
  rfl
def callOf (L S : List S32) (C : List Int) (p : Int) : List S32 × List S32 × List Int × Int :=
  if 8 ≤ C.length ∨ p ∈ C then ([], [], [], 9) else (L, S ++ [⟨5, ⟨0, 0⟩, C.length⟩], C ++ [p], 0)
theorem call_eq (k : Nat) (hk : 900 < k) (L S : List S32) (C : List Int) (p : Int) (hL : L.length ≤ 400) (hS : S.length ≤ 400) (hC : C.length ≤ 400) : shape_Call.f (k + 1) L S C p = some (callOf L S C p) := by
  unfold shape_Call.f callOf
  by_cases h8 : 8 ≤ C.length
  · rw [if_pos (by omega), if_pos (.inl h8)]
  · rw [if_neg (by omega), contains_eq k hk C p hC]
    simp only [Option.bind_some]
    by_cases hp : p ∈ C
    · rw [if_pos (by simpa using hp), if_pos (.inr hp)]
    · rw [if_neg (by simpa using hp), if_neg (by rintro (h | h); exact h8 h; exact hp h), copied_of L S C hL hS hC]
      simp only [Option.bind_some]
      rw [if_pos (by omega), if_pos (by omega)]
def retOf (L S : List S32) (C : List Int) (v0 v3 : Int) : List S32 × List S32 × List Int × Int × Int :=
  if v0 = 5 ∧ 0 ≤ v3 ∧ v3 < C.length then (L.map (forg v3), S.map (forg v3), C.take v3.toNat, rd C v3, 0) else ([], [], [], 0, 9)
theorem forg_of (l : List S32) (a : Int) (h : l.length ≤ 400) : shape_forgotten.f l a = some (l.map (forg a)) := by unfold shape_forgotten.f; rw [if_pos (by omega)]
theorem ret_eq (k : Nat) (hk : 900 < k) (L S : List S32) (C : List Int) (v0 v1 v2 v3 : Int) (hL : L.length ≤ 400) (hS : S.length ≤ 400) (hC : C.length ≤ 400) : shape_Return.f (k + 1) L S C v0 v1 v2 v3 = some (retOf L S C v0 v3) := by
  have hj : ∀ b, shape_Return.j0 (k + 1) b L S C v0 v1 v2 v3 = if b = true then some ([], [], [], 0, 9) else ((shape_forgotten.f L v3).bind fun t223 => ((shape_forgotten.f S v3).bind fun t226 => (if 0 ≤ v3 then (if v3 ≤ (C.length : Int) then ((slices_Clone_int_int.f (C.take (v3 : Int).toNat)).bind fun t230 => (if v3 < (C.length : Int) then (some (t223, t226, t230, rd C v3, 0)) else (none))) else (none)) else (none)))) := fun b => by simp only [shape_Return.j0]
  unfold shape_Return.f retOf
  by_cases h5 : v0 = 5
  · rw [if_pos h5]
    by_cases h0 : v3 < 0
    · rw [if_pos h0, hj, if_pos rfl, if_neg (by omega)]
    · rw [if_neg h0, hj]
      by_cases hc : v3 < (C.length : Int)
      · rw [if_neg (by simp; omega), if_pos ⟨h5, by omega, hc⟩, forg_of L v3 hL, forg_of S v3 hS]
        simp only [Option.bind_some]
        rw [if_pos (by omega), if_pos (by omega)]
        unfold slices_Clone_int_int.f
        rw [if_pos (by simp; omega)]
        simp only [Option.bind_some]
        rw [if_pos hc]
      · rw [if_pos (by simp; omega), if_neg (by omega)]
  · rw [if_neg h5, hj, if_pos rfl, if_neg (fun h => h5 h.1)]
theorem great_cases (L S : List S32) (C : List Int) : (L.length ≤ 300 ∧ S.length ≤ 300 ∧ C.length ≤ 20 ∧ garderobelaw17_great.f L S C = some false) ∨ garderobelaw17_great.f L S C = some true := by
  unfold garderobelaw17_great.f
  by_cases h1 : (L.length : Int) > 300
  · rw [if_pos h1]; exact .inr rfl
  · rw [if_neg h1]
    by_cases h2 : (S.length : Int) > 300
    · rw [if_pos h2]; exact .inr rfl
    · rw [if_neg h2]
      by_cases h3 : (C.length : Int) > 20
      · right; simp; omega
      · left; refine ⟨by omega, by omega, by omega, ?_⟩; simp; omega
end Go.Proofs.Ytocdpledkmmomaa.P
