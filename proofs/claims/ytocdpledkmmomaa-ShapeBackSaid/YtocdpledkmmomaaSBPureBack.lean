import Derived.Test.YtocdpledkmmomaaSBPureCalls
import Derived.Test.YtocdpledkmmomaaSBGBack
namespace Go.Proofs.Ytocdpledkmmomaa.P
open Go.RowKit Go.Proofs.YtocdpledkmmomaaW.PrintWords Go.Proofs.YtocdpledkmmomaaW.PrintLast Go.Proofs.YtocdpledkmmomaaW.PrintMore
set_option linter.unusedVariables false
set_option linter.unusedSimpArgs false
theorem push_of (L S : List S32) (C : List Int) (l : List S32) (hL : L.length ≤ 300) (hS : S.length ≤ 300) (hC : C.length ≤ 20) (hl : l.length ≤ 300) : shape_Push.f L S C 1000 l = some (L, S ++ l, C, 0) := by
  unfold shape_Push.f
  have hw : wrap64 (1000 - (S.length : Int)) = 1000 - (S.length : Int) := by unfold wrap64; omega
  rw [if_pos ⟨by omega, by omega⟩, hw, if_neg (by omega), copied_of L S C (by omega) (by omega) (by omega)]
  rfl
theorem pop_of (L S : List S32) (C : List Int) (l : List S32) (hL : L.length ≤ 300) (hS : S.length ≤ 300) (hC : C.length ≤ 20) (hl : l.length ≤ 300) : shape_Pop.f L (S ++ l) C (l.length : Int) = some (L, S, C, l, 0) := by
  unfold shape_Pop.f
  have he : (S ++ l).length - (l.length : Int).toNat = S.length := by simp
  have hcp : shape_copied.f L (S ++ l) C = some (L, S ++ l, C) := by
    unfold shape_copied.f api_Val.f slices_Clone_int_int.f
    rw [if_pos (by omega), if_pos (by simp; omega), if_pos (by omega)]
    rfl
  rw [if_neg (by omega), if_neg (by simp; omega), if_pos (by simp; omega), hcp]
  simp only [Option.bind_some]
  rw [he, List.take_left, List.drop_left]
theorem sbEq1 (k : Nat) (hk : 900 < k) (L S : List S32) (C : List Int) (l : List S32) (hL : L.length ≤ 300) (hS : S.length ≤ 300) (hC : C.length ≤ 20) (hl : l.length ≤ 300) (hg : garderobelaw17_great.f L S C = some false) : SbEq1 (k + 1) L S C l L (S ++ l) C L S C l :=
  ⟨hg, push_of L S C l hL hS hC hl, pop_of L S C l hL hS hC hl, same_same k hk L S C (by omega) (by omega) (by omega), vals_same l (by omega) (k + 1) (by omega)⟩
theorem rd32_last (S : List S32) (v : S32) : rd_T32 (S ++ [v]) (S.length : Int) = v := by simp [rd_T32]
theorem rd_last (C : List Int) (x : Int) : rd (C ++ [x]) (C.length : Int) = x := by simp [rd]
theorem sbEq2 (k : Nat) (hk : 900 < k) (L S : List S32) (C : List Int) (place : Int) (hL : L.length ≤ 300) (hS : S.length ≤ 300) (hC : C.length ≤ 20) (hn : ¬ (8 ≤ C.length ∨ place ∈ C)) :
    SbEq2 (k + 1) L S C place L (S ++ [⟨5, ⟨0, 0⟩, C.length⟩]) (C ++ [place]) 5 0 0 C.length (L.map (forg C.length)) ((S ++ [(⟨5, ⟨0, 0⟩, C.length⟩ : S32)]).map (forg C.length)) C := by
  refine ⟨?_, by simp, rd32_last _ _, ?_, rfl, by simp, ?_⟩
  · rw [call_eq k hk L S C place (by omega) (by omega) (by omega)]
    unfold callOf
    rw [if_neg hn]
  · rw [ret_eq k hk _ _ _ _ _ _ _ (by omega) (by simp; omega) (by simp; omega)]
    unfold retOf
    rw [if_pos ⟨rfl, by omega, by simp; omega⟩, rd_last]
    simp
  · rw [List.map_append, List.map_cons, List.map_nil]
    have := rd32_last (S.map (forg C.length)) (forg C.length ⟨5, ⟨0, 0⟩, C.length⟩)
    rw [List.length_map] at this
    rw [this]
    unfold forg
    rw [if_pos ⟨rfl, Int.le_refl _⟩]
    rfl
theorem shapeBack_any (A0 : Option Addr) (z0 : Nat) (L : List S32) (A1 : Option Addr) (q1 : Nat) (S : List S32) (A2 : Option Addr) (q2 : Nat) (C : List Int) (A3 : Option Addr) (q3 : Nat) (l : List S32) (place : Int)
    (w : World) (hL : Kd.C k32 w A0 L.length L) (lL : L.length ≤ z0) (hS : Kd.C k32 w A1 S.length S) (lS : S.length ≤ q1) (hC : Kd.C (Kd.int .i64) w A2 C.length C) (lC : C.length ≤ q2) (hl : Kd.C k32 w A3 l.length l) (ll : l.length ≤ q3) :
    Calls Try.prog 4 #[.agg #[.slice A0 L.length z0, .slice A1 S.length q1, .slice A2 C.length q2], .slice A3 l.length q3, .int .i64 place] w fun e w' => e = .returned (.bool true) ∧ Below w.heap.size w w' := by
  rcases great_cases L S C with ⟨h1, h2, h3, hg⟩ | hg
  · by_cases h4 : 300 < (l.length : Int)
    · exact shapeBack_long 1000 A0 z0 L A1 q1 S A2 q2 C A3 q3 l place hg h4 w hL lL hS lS hC lC hl ll
    · have e1 := sbEq1 999 (by omega) L S C l h1 h2 h3 (by omega) hg
      by_cases hn : 8 ≤ C.length ∨ place ∈ C
      · refine shapeBack_no (999 + 1) A0 z0 L A1 q1 S A2 q2 C A3 q3 l place _ _ _ _ _ _ _ e1 (by omega) h2 ?_ w hL lL hS lS hC lC hl ll
        rw [call_eq 999 (by omega) L S C place (by omega) (by omega) (by omega)]
        unfold callOf
        rw [if_pos hn]
      · exact shapeBack_walk (999 + 1) A0 z0 L A1 q1 S A2 q2 C A3 q3 l place _ _ _ _ _ _ _ _ _ _ _ _ _ _ _ _ _ e1 (by omega) h2 (sbEq2 999 (by omega) L S C place h1 h2 h3 hn) w hL lL hS lS hC lC hl ll
  · exact shapeBack_great 1000 A0 z0 L A1 q1 S A2 q2 C A3 q3 l place hg w hL lL hS lS hC lC hl ll
end Go.Proofs.Ytocdpledkmmomaa.P
