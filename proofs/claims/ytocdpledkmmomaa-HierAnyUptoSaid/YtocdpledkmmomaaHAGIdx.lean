import Derived.Test.YtocdpledkmmomaaHAGUps
import Derived.Test.YtocdpledkmmomaaHAGForg
namespace Go.Proofs.Ytocdpledkmmomaa.P
open Go.RowKit Go.Proofs.YtocdpledkmmomaaW.PrintWords Go.Proofs.YtocdpledkmmomaaW.PrintLast Go.Proofs.YtocdpledkmmomaaW.PrintMore
set_option linter.unusedVariables false
set_option linter.unusedSimpArgs false
set_option maxHeartbeats 1000000 in
set_option maxRecDepth 100000 in
theorem from1_calls (i b : Int) (A1 : Option Addr) (m c1 Bb : Nat) (w : World) (hb : Bb < w.heap.size) (hc : w.cell? ⟨Bb, 0, none⟩ = some (.int .i64 b)) :
    Calls Try.prog 60 #[.agg #[.int .i64 i, .slice A1 m c1], .pointer (some ⟨Bb, 0, none⟩)] w fun e w' => e = .returned (.bool (i == b)) ∧ Below w.heap.size w w' := by
  have hu107 := Try.underlying107
  have hc2 : (w.alloc (.cells #[.int .i64 i, .slice A1 m c1] 107)).cell? ⟨Bb, 0, none⟩ = some (.int .i64 b) := cell_later0 hc
  go_enter Try.func60, Try.ntmps60
  go_wp2
  go_ret
  exact ⟨rfl, (Below.refl _ _).alloc (Nat.le_refl _) _⟩
def hasIf (b : Int) (xs : List S107) : Bool := xs.any fun x => x.f0 == b
theorem hasIf_take (b : Int) (xs : List S107) (k : Nat) (h : k < xs.length) : hasIf b (xs.take (k + 1)) = (hasIf b (xs.take k) || ((rd_T107 xs (k : Int)).f0 == b)) := by
  unfold hasIf
  rw [List.take_add_one, List.getElem?_eq_getElem h, Option.toList_some, List.any_append, List.any_cons, List.any_nil, Bool.or_false]
  congr 2
  simp [rd_T107, h]
set_option maxHeartbeats 1000000 in
set_option maxRecDepth 100000 in
theorem idxIf_calls (A : Option Addr) (c : Nat) (xs : List S107) (b : Int) (Bb : Nat) (w : World) (hr : Kd.C k107 w A xs.length xs) (hl : xs.length ≤ c) (hb : Bb < w.heap.size) (hbb : w.heap[Bb]? = some (.cells #[.int .i64 b] 3 (0, 0))) :
    Calls Try.prog 77 #[.slice A xs.length c, .func (.func 60) #[] #[.pointer (some ⟨Bb, 0, none⟩)]] w fun e w' => ∃ r : Int, e = .returned (.int .i64 r) ∧ decide (0 ≤ r) = hasIf b xs ∧ Below w.heap.size w w' := by
  have HR := Aside0.mk hr
  have HBB := Aside0.mk hbb
  have hlen : xs.length ≤ 9223372036854775807 := hr.2.1
  clear hr hbb
  go_enter Try.func77, Try.ntmps77
  go_wp2
  go_loopw [5, 8] (fun v5 v8 wr => ∃ k : Nat, k ≤ xs.length ∧ v8 = .int .i64 k ∧ Aside0 (hasIf b (xs.take k) = false) ∧ Aside0 (Below w.heap.size w wr)) (fun _ v8 _ => xs.length - (intOf v8).toNat)
  case atStart => exact ⟨0, Nat.zero_le _, rfl, ⟨by simp [hasIf]⟩, ⟨Below.refl _ _⟩⟩
  case round =>
    obtain ⟨k, hk, rfl, HN, HB⟩ := hrel
    by_cases hlt : k < xs.length
    · obtain ⟨ad, A1, c1, e_, r0_, r1_, -, -⟩ := at_T107 (Kd.C_below HR.out HB.out) (k : Int) (by omega) (by omega)
      simp only [Int.toNat_natCast] at r0_ r1_
      subst e_
      have hcB : wr.cell? ⟨Bb, 0, none⟩ = some (.int .i64 b) := blk_cell ((HB.out.block Bb hb).trans HBB.out) 0
      have hbs : Bb < wr.heap.size := Nat.lt_of_lt_of_le hb HB.out.size
      have HT := Aside0.mk (hasIf_take b xs k hlt)
      go_wp2_with fail
      refine (from1_calls _ b A1 _ c1 Bb wr hbs hcB).mono ?_
      rintro e w1 ⟨rfl, hb1⟩
      have HB1 := Aside0.mk (HB.out.trans (hb1.mono HB.out.size))
      clear hb1 r0_ r1_ hcB HB
      by_cases ht : ((rd_T107 xs (k : Int)).f0 == b) = true
      · have HF := Aside0.mk ht
        rw [ht]
        clear ht
        go_wp2
        go_ret
        refine ⟨(k : Int), rfl, ?_, HB1.out⟩
        have h1 : hasIf b xs = true := by
          have h2 : hasIf b (xs.take (k + 1)) = true := by rw [HT.out, HF.out]; simp
          unfold hasIf at h2 ⊢
          rw [List.any_eq_true] at h2 ⊢
          obtain ⟨x, hx, hx2⟩ := h2
          exact ⟨x, List.mem_of_mem_take hx, hx2⟩
        rw [h1]
        simp
      · have ht2 : ((rd_T107 xs (k : Int)).f0 == b) = false := by simpa using ht
        have HF := Aside0.mk ht2
        rw [ht2]
        clear ht ht2
        go_wp2
        go_roundw
        case rel => exact ⟨k + 1, by omega, by go_num, ⟨by rw [HT.out, HF.out, HN.out]; rfl⟩, HB1⟩
        case measure => simp [intOf]; omega
    · have : k = xs.length := by omega
      subst this
      have h1 := HN.out
      rw [List.take_length] at h1
      have H1 := Aside0.mk h1
      clear h1
      go_wp2
      go_ret
      exact ⟨-1, rfl, by rw [H1.out]; rfl, HB.out⟩
set_option maxHeartbeats 1000000 in
set_option maxRecDepth 100000 in
theorem hasIf_calls (A : Option Addr) (c : Nat) (xs : List S107) (b : Int) (Bb : Nat) (w : World) (hr : Kd.C k107 w A xs.length xs) (hl : xs.length ≤ c) (hb : Bb < w.heap.size) (hbb : w.heap[Bb]? = some (.cells #[.int .i64 b] 3 (0, 0))) :
    Calls Try.prog 59 #[.slice A xs.length c, .func (.func 60) #[] #[.pointer (some ⟨Bb, 0, none⟩)]] w fun e w' => e = .returned (.bool (hasIf b xs)) ∧ Below w.heap.size w w' := by
  have HI := Aside0.mk (idxIf_calls A c xs b Bb w hr hl hb hbb)
  clear hr hbb
  go_enter Try.func59, Try.ntmps59
  go_wp2_with fail
  refine HI.out.mono ?_
  rintro e w1 ⟨r, rfl, h1, hb1⟩
  have H1 := Aside0.mk h1
  clear h1
  go_wp2
  go_ret
  refine ⟨?_, hb1⟩
  rw [← H1.out]
  rfl
end Go.Proofs.Ytocdpledkmmomaa.P
