import Derived.Test.YtocdpledkmmomaaHAGIfaces
namespace Go.Proofs.Ytocdpledkmmomaa.P
open Go.RowKit Go.Shelf Go.Proofs.YtocdpledkmmomaaW.PrintWords Go.Proofs.YtocdpledkmmomaaW.PrintLast Go.Proofs.YtocdpledkmmomaaW.PrintMore
set_option linter.unusedVariables false
set_option linter.unusedSimpArgs false
attribute [local go_sem] Oper.semAt_some
def mxI (l0 : List S110) : Nat := l0.foldr (fun c m => max (c.f3.length + 1) m) 1
theorem mxI_mem {l0 : List S110} {c : S110} (h : c ∈ l0) : c.f3.length + 1 ≤ mxI l0 := by
  induction l0 with
  | nil => cases h
  | cons d l ih =>
    unfold mxI
    rw [List.foldr_cons]
    rcases List.mem_cons.1 h with rfl | h
    · exact Nat.le_max_left _ _
    · exact Nat.le_trans (ih h) (Nat.le_max_right _ _)
theorem mxI_pos (l0 : List S110) : 1 ≤ mxI l0 := by
  induction l0 with
  | nil => exact Nat.le_refl _
  | cons d l ih => exact Nat.le_trans ih (Nat.le_max_right _ _)
theorem rd_mem {l0 : List S110} (x : InW l0) : rd_T110 l0 x.1 ∈ l0 := by
  obtain ⟨h0, h1⟩ := x.2
  have : x.1.toNat < l0.length := by omega
  unfold rd_T110
  rw [List.getD_eq_getElem?_getD, List.getElem?_eq_getElem this]
  exact List.getElem_mem _
theorem mem_compact {xs : List Int} {x : Int} (h : x ∈ Lib.compact xs) : x ∈ xs := by
  unfold Lib.compact Lib.compactUpTo at h
  obtain ⟨j, hj, rfl⟩ := List.mem_map.1 h
  have h2 := (List.mem_filter.1 hj).1
  have h3 : j < xs.length := List.mem_range.1 h2
  simp [h3]
def ifacesL (l0 : List S110) (a : Int) : List Int := Lib.compact (srt (ifsI l0 (upsL l0 (l0.length + 1) a)))
def hier_Ifaces.f (l0_0 : List (S110)) (l0_1 : List (S86)) (l0_2 : List (S185)) (l0_3 : List (S124)) (a1 : Int) : Option (List Int) := if (l0_0.length + 1) * mxI l0_0 < 17592186044000 then some (ifacesL l0_0 a1) else none
theorem ifaces_own {A0_0 : Option Addr} {c0_0 : Nat} {l0_0 : List (S110)} {A0_1 : Option Addr} {c0_1 : Nat} {l0_1 : List (S86)} {A0_2 : Option Addr} {c0_2 : Nat} {l0_2 : List (S185)} {A0_3 : Option Addr} {c0_3 : Nat} {l0_3 : List (S124)} {a1 : Int} {w : World} (hW : WorldC w A0_0 c0_0 l0_0 A0_1 c0_1 l0_1 A0_2 c0_2 l0_2 A0_3 c0_3 l0_3) (hb : (l0_0.length + 1) * mxI l0_0 < 17592186044000) :
    Calls Try.prog 31 #[.agg #[.slice A0_0 l0_0.length c0_0, .slice A0_1 l0_1.length c0_1, .slice A0_2 l0_2.length c0_2, .slice A0_3 l0_3.length c0_3], .int .i64 a1] w fun e w' => ∃ v, e = .returned v ∧ Kd.R (Kd.int .i64) 3 w' w.heap.size (fun _ => True) v (ifacesL l0_0 a1) ∧ Below w.heap.size w w' := by
  have hm := Nat.mul_le_mul_left (l0_0.length + 1) (mxI_pos l0_0)
  refine (ifaces_any A0_0 c0_0 l0_0 A0_1 c0_1 l0_1 A0_2 c0_2 l0_2 A0_3 c0_3 l0_3 a1 w hW (mxI l0_0) (fun x => mxI_mem (rd_mem x)) (by omega) hb).mono ?_
  rintro e w' ⟨v, rfl, h1, h2⟩
  exact ⟨v, rfl, R_own h1, h2⟩
theorem hier_Ifaces.calls (A0_0 : Option Addr) (c0_0 : Nat) (l0_0 : List (S110)) (A0_1 : Option Addr) (c0_1 : Nat) (l0_1 : List (S86)) (A0_2 : Option Addr) (c0_2 : Nat) (l0_2 : List (S185)) (A0_3 : Option Addr) (c0_3 : Nat) (l0_3 : List (S124)) (a1 : Int) (r : List Int) (w : World) (hr0_0 : Kd.C k110 w A0_0 l0_0.length l0_0) (hc0_0 : l0_0.length ≤ c0_0) (hr0_1 : Kd.C k86 w A0_1 l0_1.length l0_1) (hc0_1 : l0_1.length ≤ c0_1) (hr0_2 : Kd.C k185 w A0_2 l0_2.length l0_2) (hc0_2 : l0_2.length ≤ c0_2) (hr0_3 : Kd.C k124 w A0_3 l0_3.length l0_3) (hc0_3 : l0_3.length ≤ c0_3) (h : hier_Ifaces.f l0_0 l0_1 l0_2 l0_3 a1 = some r) :
    Calls Try.prog 31 #[.agg #[.slice A0_0 l0_0.length c0_0, .slice A0_1 l0_1.length c0_1, .slice A0_2 l0_2.length c0_2, .slice A0_3 l0_3.length c0_3], .int .i64 a1] w fun e w' => ∃ v0_ : Value, e = .returned (v0_) ∧ Kd.R (Kd.int .i64) 3 w' w.heap.size (fun _ => True) v0_ r ∧ Below w.heap.size w w' := by
  unfold hier_Ifaces.f at h
  split at h
  case isFalse => cases h
  case isTrue hb =>
  obtain rfl := Option.some.inj h
  exact ifaces_own ⟨hr0_0, hc0_0, hr0_1, hc0_1, hr0_2, hc0_2, hr0_3, hc0_3⟩ hb
def shB (l0 : List S110) (x : Int) : Bool := (Go.bits .and .u8 ((rd_T110 l0 x).f1) 2) != 0
set_option maxHeartbeats 1000000 in
set_option maxRecDepth 100000 in
theorem shared1_calls (A0_0 : Option Addr) (c0_0 : Nat) (l0_0 : List (S110)) (A0_1 : Option Addr) (c0_1 : Nat) (l0_1 : List (S86)) (A0_2 : Option Addr) (c0_2 : Nat) (l0_2 : List (S185)) (A0_3 : Option Addr) (c0_3 : Nat) (l0_3 : List (S124)) (x : Int) (Bb : Nat) (w : World) (hW : WorldC w A0_0 c0_0 l0_0 A0_1 c0_1 l0_1 A0_2 c0_2 l0_2 A0_3 c0_3 l0_3) (hx : 0 ≤ x ∧ x < (l0_0.length : Int)) (hbb : w.heap[Bb]? = some (.cells #[.slice A0_0 l0_0.length c0_0, .slice A0_1 l0_1.length c0_1, .slice A0_2 l0_2.length c0_2, .slice A0_3 l0_3.length c0_3] 54 (0, 0))) :
    Calls Try.prog 65 #[.int .i64 x, .pointer (some ⟨Bb, 0, none⟩)] w fun e w' => e = .returned (.bool (shB l0_0 x)) ∧ Below w.heap.size w w' := by
  have hu54 := Try.underlying54
  have hu110 := Try.underlying110
  obtain ⟨hx0, hx1⟩ := hx
  obtain ⟨ad, B3, b3, B4_, b4_, B5_, b5_, B6_, b6_, e_, -, r1_, -⟩ := at_T110 hW.r0 x hx0 hx1
  subst e_
  obtain ⟨k0, k1, k2, k3⟩ := blk54 hbb
  have HW := Aside0.mk hW
  clear hW hbb
  go_enter Try.func65, Try.ntmps65
  go_wp2
  go_ret
  exact ⟨rfl, Below.refl _ _⟩
theorem any_take (xs : List Int) (p : Int → Bool) (k : Nat) (h : k < xs.length) : (xs.take (k + 1)).any p = ((xs.take k).any p || p (rd xs (k : Int))) := by
  rw [List.take_add_one, List.getElem?_eq_getElem h, Option.toList_some, List.any_append, List.any_cons, List.any_nil, Bool.or_false]
  congr 2
  simp [rd, h]
theorem rd_int_mem (xs : List Int) (k : Nat) (h : k < xs.length) : rd xs (k : Int) ∈ xs := by
  have : rd xs (k : Int) = xs[k] := by simp [rd, h]
  rw [this]
  exact List.getElem_mem _
set_option maxHeartbeats 1000000 in
set_option maxRecDepth 100000 in
theorem idxSh_calls (A0_0 : Option Addr) (c0_0 : Nat) (l0_0 : List (S110)) (A0_1 : Option Addr) (c0_1 : Nat) (l0_1 : List (S86)) (A0_2 : Option Addr) (c0_2 : Nat) (l0_2 : List (S185)) (A0_3 : Option Addr) (c0_3 : Nat) (l0_3 : List (S124)) (A : Option Addr) (c : Nat) (xs : List Int) (Bb : Nat) (w : World) (hW : WorldC w A0_0 c0_0 l0_0 A0_1 c0_1 l0_1 A0_2 c0_2 l0_2 A0_3 c0_3 l0_3) (hr : (Kd.int .i64).C w A xs.length xs) (hin : ∀ x ∈ xs, 0 ≤ x ∧ x < (l0_0.length : Int)) (hbb : w.heap[Bb]? = some (.cells #[.slice A0_0 l0_0.length c0_0, .slice A0_1 l0_1.length c0_1, .slice A0_2 l0_2.length c0_2, .slice A0_3 l0_3.length c0_3] 54 (0, 0))) :
    Calls Try.prog 80 #[.slice A xs.length c, .func (.func 65) #[] #[.pointer (some ⟨Bb, 0, none⟩)]] w fun e w' => ∃ r : Int, e = .returned (.int .i64 r) ∧ decide (0 ≤ r) = xs.any (shB l0_0) ∧ Below w.heap.size w w' := by
  have HR := Aside0.mk hr
  have HW := Aside0.mk hW
  have HBB := Aside0.mk hbb
  have hb : Bb < w.heap.size := (Array.getElem?_eq_some_iff.1 hbb).1
  have hlen : xs.length ≤ 9223372036854775807 := hr.2.1
  clear hr hbb hW
  go_enter Try.func80, Try.ntmps80
  go_wp2
  go_loopw [5, 8] (fun v5 v8 wr => ∃ k : Nat, k ≤ xs.length ∧ v8 = .int .i64 k ∧ Aside0 ((xs.take k).any (shB l0_0) = false) ∧ Aside0 (Below w.heap.size w wr)) (fun _ v8 _ => xs.length - (intOf v8).toNat)
  case atStart => exact ⟨0, Nat.zero_le _, rfl, ⟨by simp⟩, ⟨Below.refl _ _⟩⟩
  case round =>
    obtain ⟨k, hk, rfl, HN, HB⟩ := hrel
    by_cases hlt : k < xs.length
    · obtain ⟨ad, e_, r0_⟩   := Kd.at_int (Kd.C_below HR.out HB.out) (k : Int) (by omega) (by omega)
      simp only [Int.toNat_natCast] at r0_
      subst e_
      have HT := Aside0.mk (any_take xs (shB l0_0) k hlt)
      have HSC := Aside0.mk (shared1_calls A0_0 c0_0 l0_0 A0_1 c0_1 l0_1 A0_2 c0_2 l0_2 A0_3 c0_3 l0_3 (rd xs (k : Int)) Bb wr (HW.out.step HB.out) (hin _ (rd_int_mem xs k hlt)) ((HB.out.block Bb hb).trans HBB.out))
      go_wp2_with fail
      refine HSC.out.mono ?_
      rintro e w1 ⟨rfl, hb1⟩
      have HB1 := Aside0.mk (HB.out.trans (hb1.mono HB.out.size))
      clear hb1 r0_ HB HSC
      by_cases ht : shB l0_0 (rd xs (k : Int)) = true
      · have HF := Aside0.mk ht
        rw [ht]
        clear ht
        go_wp2
        go_ret
        refine ⟨(k : Int), rfl, ?_, HB1.out⟩
        have h1 : xs.any (shB l0_0) = true := List.any_eq_true.2 ⟨_, rd_int_mem xs k hlt, HF.out⟩
        rw [h1]
        simp
      · have ht2 : shB l0_0 (rd xs (k : Int)) = false := by simpa using ht
        have HF := Aside0.mk ht2
        rw [ht2]
        clear ht ht2
        go_wp2
        go_roundw
        case rel => exact ⟨k + 1, by omega, by go_num, ⟨by rw [HT.out, HF.out, HN.out]; rfl⟩, HB1⟩
        case measure => simp [intOf]; omega
    · have : k = xs.length := by omega
      subst this
      have h1 := HN.out
      rw [List.take_length] at h1
      have H1 := Aside0.mk h1
      clear h1
      go_wp2
      go_ret
      exact ⟨-1, rfl, by rw [H1.out]; rfl, HB.out⟩
set_option maxHeartbeats 1000000 in
set_option maxRecDepth 100000 in
theorem hasSh_calls (A0_0 : Option Addr) (c0_0 : Nat) (l0_0 : List (S110)) (A0_1 : Option Addr) (c0_1 : Nat) (l0_1 : List (S86)) (A0_2 : Option Addr) (c0_2 : Nat) (l0_2 : List (S185)) (A0_3 : Option Addr) (c0_3 : Nat) (l0_3 : List (S124)) (A : Option Addr) (c : Nat) (xs : List Int) (Bb : Nat) (w : World) (hW : WorldC w A0_0 c0_0 l0_0 A0_1 c0_1 l0_1 A0_2 c0_2 l0_2 A0_3 c0_3 l0_3) (hr : (Kd.int .i64).C w A xs.length xs) (hin : ∀ x ∈ xs, 0 ≤ x ∧ x < (l0_0.length : Int)) (hbb : w.heap[Bb]? = some (.cells #[.slice A0_0 l0_0.length c0_0, .slice A0_1 l0_1.length c0_1, .slice A0_2 l0_2.length c0_2, .slice A0_3 l0_3.length c0_3] 54 (0, 0))) :
    Calls Try.prog 64 #[.slice A xs.length c, .func (.func 65) #[] #[.pointer (some ⟨Bb, 0, none⟩)]] w fun e w' => e = .returned (.bool (xs.any (shB l0_0))) ∧ Below w.heap.size w w' := by
  have HI := Aside0.mk (idxSh_calls A0_0 c0_0 l0_0 A0_1 c0_1 l0_1 A0_2 c0_2 l0_2 A0_3 c0_3 l0_3 A c xs Bb w hW hr hin hbb)
  clear hr hbb hW
  go_enter Try.func64, Try.ntmps64
  go_wp2_with fail
  refine HI.out.mono ?_
  rintro e w1 ⟨r, rfl, h1, hb1⟩
  have H1 := Aside0.mk h1
  clear h1
  go_wp2
  go_ret
  refine ⟨?_, hb1⟩
  rw [← H1.out]
  rfl
theorem mem_ifsI {l0 : List S110} {cs : List (InW l0)} {x : Int} (h : x ∈ ifsI l0 cs) : 0 ≤ x ∧ x < (l0.length : Int) := by
  unfold ifsI at h
  obtain ⟨c, _, hc⟩ := List.mem_flatMap.1 h
  unfold colI at hc
  rcases List.mem_append.1 hc with h1 | h1
  · split at h1
    · obtain rfl := List.mem_singleton.1 h1
      exact c.2
    · cases h1
  · unfold ownI at h1
    obtain ⟨s, hs, rfl⟩ := List.mem_map.1 h1
    have h2 := (List.mem_filter.1 hs).2
    unfold okI inB at h2
    exact of_decide_eq_true (Bool.and_eq_true _ _ ▸ h2).1
theorem mem_ifacesL {l0 : List S110} {a x : Int} (h : x ∈ ifacesL l0 a) : 0 ≤ x ∧ x < (l0.length : Int) := by
  refine mem_ifsI (cs := upsL l0 (l0.length + 1) a) ?_
  have h1 : x ∈ srt (ifsI l0 (upsL l0 (l0.length + 1) a)) := mem_compact h
  exact List.mem_mergeSort.1 h1
def hier_Shared.f (l0_0 : List (S110)) (l0_1 : List (S86)) (l0_2 : List (S185)) (l0_3 : List (S124)) (a1 : Int) : Option (Bool) := if (l0_0.length + 1) * mxI l0_0 < 17592186044000 then some ((ifacesL l0_0 a1).any (shB l0_0)) else none
set_option maxHeartbeats 1000000 in
set_option maxRecDepth 100000 in
theorem hier_Shared.calls (A0_0 : Option Addr) (c0_0 : Nat) (l0_0 : List (S110)) (A0_1 : Option Addr) (c0_1 : Nat) (l0_1 : List (S86)) (A0_2 : Option Addr) (c0_2 : Nat) (l0_2 : List (S185)) (A0_3 : Option Addr) (c0_3 : Nat) (l0_3 : List (S124)) (a1 : Int) (r : Bool) (w : World) (hr0_0 : Kd.C k110 w A0_0 l0_0.length l0_0) (hc0_0 : l0_0.length ≤ c0_0) (hr0_1 : Kd.C k86 w A0_1 l0_1.length l0_1) (hc0_1 : l0_1.length ≤ c0_1) (hr0_2 : Kd.C k185 w A0_2 l0_2.length l0_2) (hc0_2 : l0_2.length ≤ c0_2) (hr0_3 : Kd.C k124 w A0_3 l0_3.length l0_3) (hc0_3 : l0_3.length ≤ c0_3) (h : hier_Shared.f l0_0 l0_1 l0_2 l0_3 a1 = some r) :
    Calls Try.prog 32 #[.agg #[.slice A0_0 l0_0.length c0_0, .slice A0_1 l0_1.length c0_1, .slice A0_2 l0_2.length c0_2, .slice A0_3 l0_3.length c0_3], .int .i64 a1] w fun e w' => e = .returned (.bool r) ∧ Below w.heap.size w w' := by
  unfold hier_Shared.f at h
  split at h
  case isFalse => cases h
  case isTrue hlen =>
  obtain rfl := Option.some.inj h
  have HW : Aside0 (WorldC w A0_0 c0_0 l0_0 A0_1 c0_1 l0_1 A0_2 c0_2 l0_2 A0_3 c0_3 l0_3) := ⟨hr0_0, hc0_0, hr0_1, hc0_1, hr0_2, hc0_2, hr0_3, hc0_3⟩
  clear hr0_0 hc0_0 hr0_1 hc0_1 hr0_2 hc0_2 hr0_3 hc0_3 h
  have hu54 := Try.underlying54
  have BV := below_alloc (Below.refl w.heap.size w) (.cells #[.slice A0_0 l0_0.length c0_0, .slice A0_1 l0_1.length c0_1, .slice A0_2 l0_2.length c0_2, .slice A0_3 l0_3.length c0_3] 54)
  have BN := blk_new w (.cells #[.slice A0_0 l0_0.length c0_0, .slice A0_1 l0_1.length c0_1, .slice A0_2 l0_2.length c0_2, .slice A0_3 l0_3.length c0_3] 54)
  go_enter Try.func32, Try.ntmps32
  obtain ⟨w1, hw1⟩ : ∃ w1, w.alloc (.cells #[.slice A0_0 l0_0.length c0_0, .slice A0_1 l0_1.length c0_1, .slice A0_2 l0_2.length c0_2, .slice A0_3 l0_3.length c0_3] 54) = w1 := ⟨_, rfl⟩
  rw [hw1] at BV BN
  have B1 := Aside0.mk BV
  have N1 := Aside0.mk BN
  have hs1 : w.heap.size < w1.heap.size := (Array.getElem?_eq_some_iff.1 BN).1
  obtain ⟨k0, k1, k2, k3⟩ := blk54 BN
  clear BV BN
  go_wp2_with fail
  refine (ifaces_own (HW.out.step B1.out) hlen).mono ?_
  rintro e w2 ⟨v, rfl, hR, hb⟩
  obtain ⟨A, c, rfl, hl, hC⟩ := Kd.R_reads hR
  have HS := Aside0.mk (hasSh_calls A0_0 c0_0 l0_0 A0_1 c0_1 l0_1 A0_2 c0_2 l0_2 A0_3 c0_3 l0_3 A c (ifacesL l0_0 a1) w.heap.size w2 (HW.out.step (B1.out.trans (hb.mono B1.out.size))) hC (fun x hx => mem_ifacesL hx) ((hb.block _ hs1).trans N1.out))
  have HB := Aside0.mk (B1.out.trans (hb.mono B1.out.size))
  clear hR hC hb k0 k1 k2 k3
  go_wp2_with fail
  refine HS.out.mono ?_
  rintro e w3 ⟨rfl, hb3⟩
  go_wp2
  go_ret
  exact ⟨rfl, HB.out.trans (hb3.mono HB.out.size)⟩
end Go.Proofs.Ytocdpledkmmomaa.P
