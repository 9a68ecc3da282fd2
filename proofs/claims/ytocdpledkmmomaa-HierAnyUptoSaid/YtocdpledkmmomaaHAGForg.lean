import Derived.Test.YtocdpledkmmomaaHAGClone
namespace Go.Proofs.Ytocdpledkmmomaa.P
open Go.RowKit Go.Proofs.YtocdpledkmmomaaW.PrintWords Go.Proofs.YtocdpledkmmomaaW.PrintLast Go.Proofs.YtocdpledkmmomaaW.PrintMore
set_option linter.unusedVariables false
set_option linter.unusedSimpArgs false

def forg (from_ : Int) (v : S32) : S32 := if v.f0 = 5 ∧ v.f2 ≥ from_ then ⟨1, z30, 0⟩ else v
def forgTo (from_ : Int) (l : List S32) (k : Nat) : List S32 := (l.take k).map (forg from_) ++ l.drop k
def shape_forgotten.f (l0 : List (S32)) (a1 : Int) : Option ((List (S32))) := if l0.length < 8796093022208 then some (l0.map (forg a1)) else none

theorem forgTo_zero (a : Int) (l : List S32) : forgTo a l 0 = l := by simp [forgTo]
theorem forgTo_all (a : Int) (l : List S32) : forgTo a l l.length = l.map (forg a) := by simp [forgTo]
theorem forgTo_length (a : Int) (l : List S32) (k : Nat) : (forgTo a l k).length = l.length := by simp [forgTo]; omega
theorem forgTo_get (a : Int) (l : List S32) (k : Nat) (h : k < l.length) : (forgTo a l k).getD k z32 = l[k] := by
  simp [forgTo, List.getElem?_append, h]
  rw [if_neg (by omega)]
  simp [Nat.min_eq_left (Nat.le_of_lt h), h]
theorem forgTo_succ (a : Int) (l : List S32) (k : Nat) (h : k < l.length) : forgTo a l (k + 1) = (forgTo a l k).set k (forg a l[k]) := by
  apply List.ext_getElem?
  intro i
  simp only [forgTo]
  rcases Nat.lt_trichotomy i k with hi | hi | hi
  · rw [List.getElem?_append_left (by simp; omega), List.getElem?_set_ne (by omega), List.getElem?_append_left (by simp; omega)]
    simp [List.getElem?_take]
    rw [if_pos (by omega), if_pos hi]
  · subst hi
    rw [List.getElem?_append_left (by simp; omega), List.getElem?_set_self (by simp; omega)]
    simp [List.getElem?_take, h]
  · rw [List.getElem?_append_right (by simp; omega), List.getElem?_set_ne (by omega), List.getElem?_append_right (by simp; omega)]
    simp
    congr 1
    omega

theorem forg_same {a : Int} {l : List S32} {k : Nat} {x : S32} (h : (forgTo a l k).getD k z32 = x) (hk : k < l.length) : (forgTo a l k).set k x = forgTo a l k := by
  rw [← h]
  apply List.ext_getElem?
  intro i
  rcases Nat.decEq i k with hi | hi
  · rw [List.getElem?_set_ne (Ne.symm hi)]
  · subst hi
    have : i < (forgTo a l i).length := by rw [forgTo_length]; exact hk
    rw [List.getElem?_set_self this, List.getD_eq_getElem?_getD, List.getElem?_eq_getElem this]
    rfl
theorem cell_later0 {w : World} {o : Obj} {a : Addr} {v : Value} (h : w.cell? a = some v) : (w.alloc o).cell? a = some v := pw_cell_below (below_alloc (Below.refl _ _) o) h
set_option maxHeartbeats 1000000 in
set_option maxRecDepth 100000 in
theorem shape_forgotten.calls (A0 : Option Addr) (c0 : Nat) (l0 : List (S32)) (a1 : Int) (r : List (S32)) (w : World) (hr0 : Kd.C k32 w A0 l0.length l0) (hc0 : l0.length ≤ c0) (h : shape_forgotten.f l0 a1 = some r) :
    Calls Try.prog 43 #[.slice A0 l0.length c0, .int .i64 a1] w fun e w' => ∃ v0_ : Value, e = .returned (v0_) ∧ Kd.R k32 32 w' w.heap.size (fun _ => True) v0_ r ∧ Below w.heap.size w w' := by
  unfold shape_forgotten.f at h
  split at h
  case isFalse => cases h
  case isTrue hlt =>
  obtain rfl := Option.some.inj h
  have HC := Aside0.mk (api_Val.calls A0 c0 l0 l0 w hr0 hc0 (by unfold api_Val.f; rw [if_pos hlt]))
  clear hr0 h
  go_enter Try.func43, Try.ntmps43
  go_wp2_with fail
  refine HC.out.mono ?_
  rintro e w1 ⟨v0, rfl, ho, hb⟩
  clear HC
  by_cases hn : l0 = []
  · subst hn
    obtain ⟨A, c, rfl, hl, hC⟩ := Kd.R_reads ho
    have HO := Aside0.mk ho
    have HB := Aside0.mk hb
    clear ho hb hC
    go_wp2
    go_loopw [11] (fun i wr => i = .int .i64 0 ∧ wr = w1) (fun _ _ => 0)
    case atStart => exact ⟨rfl, rfl⟩
    case round =>
      obtain ⟨rfl, rfl⟩ := hrel
      go_wp2
      go_ret
      exact ⟨_, rfl, HO.out, HB.out⟩
  · obtain ⟨g, cap, rfl, hg, hgl, cells, hcl⟩ := Kd.R_form ho (by rcases l0 with _ | _ <;> simp_all)
    have hpos : 0 < l0.length := by rcases l0 with _ | _ <;> simp_all
    have HO := Aside0.mk ho
    have HB := Aside0.mk hb
    clear ho hb hcl hn
    go_wp2
    go_loopw [11] (fun i wr => ∃ k : Nat, k ≤ l0.length ∧ i = .int .i64 k ∧ Aside0 (Kd.R k32 32 wr w.heap.size (fun _ => True) (.slice (some ⟨g, 0, none⟩) l0.length cap) (forgTo a1 l0 k)) ∧ Aside0 (Below w.heap.size w wr)) (fun i _ => l0.length - (intOf i).toNat)
    case atStart => exact ⟨0, Nat.zero_le _, rfl, ⟨by rw [forgTo_zero]; exact HO.out⟩, HB⟩
    case round =>
      obtain ⟨k, hk, rfl, hR, hBw⟩ := hrel
      by_cases hlt2 : k < l0.length
      · have hs := forgTo_succ a1 l0 k hlt2
        have hgt := forgTo_get a1 l0 k hlt2
        generalize l0[k] = x at hs hgt
        obtain ⟨c, hcl, hM, hcc, hfz⟩ := Kd.R_elem hR.out z32 (k : Int) (by omega) (by omega)
        simp only [Int.toNat_natCast] at hM hcc hfz
        rw [hgt] at hM
        have hc4 := k32_openM hM
        subst hc4
        have HCC := Aside0.mk hcc
        have g0 := hcc 0 _ rfl
        have g1 := hcc 1 _ rfl
        have g2 := hcc 2 _ rfl
        have g3 := hcc 3 _ rfl
        simp only [show k32.sz = 4 from rfl, Nat.add_zero] at g0 g1 g2 g3
        have HS := Aside0.mk hs
        have HGT := Aside0.mk hgt
        clear hcc hfz hM hs hgt hcl
        have hA := fun o => Kd.R_alloc hR.out o
        have hA2 := fun o => below_alloc hBw.out o
        by_cases h5 : x.f0 = 5
        · by_cases h6 : a1 ≤ x.f2
          · have t1 : (x.f0 == 5) = true := by simp [h5]
            have HF := Aside0.mk (show forg a1 x = ⟨1, z30, 0⟩ by simp [forg, h5, h6])
            clear h5
            go_wp2_with ((refine Kd.R_store k32 (w0 := w) w.heap.size rfl rfl 32 (.tmp 28) (.tmp 27) rfl 32 (g := g) (n := l0.length) (cap := cap) (k : Int) 0 (forgTo a1 l0 k) ⟨1, z30, 0⟩ (.agg #[.int .u8 1, .int .u8 0, .int .u16 0, .int .i64 0]) [.int .u8 1, .int .u8 0, .int .u16 0, .int .i64 0] [.int .u8 x.f0, .int .u8 x.f1.f0, .int .u16 x.f1.f1, .int .i64 x.f2] (fun _ => True) (fun _ => False) rfl (by simp [show k32.sz = 4 from rfl]) rfl rfl (by kernel_rfl) (by decide) (hA _) (by omega) (by omega) rfl (fun j u hj => cell_later0 (HCC.out j u hj)) (by decide) (k32_mkM _ _ _ ⟨1, z30, 0⟩) (fun _ h => h.elim) (hA2 _) ?_); intro w2 ho2 hb2 hg2; have HO2 := Aside0.mk ho2; have HB2 := Aside0.mk hb2; clear ho2 hb2 hg2)
            go_roundw
            case rel => exact ⟨k + 1, by omega, by go_num, ⟨by rw [HS.out, HF.out]; exact HO2.out⟩, HB2⟩
            case measure => simp [intOf]; omega
          · have t1 : (x.f0 == 5) = true := by simp [h5]
            have HF := Aside0.mk (show forg a1 x = x by simp only [forg]; rw [if_neg (by omega)])
            clear h5
            go_wp2
            go_roundw
            case rel => exact ⟨k + 1, by omega, by go_num, ⟨by rw [HS.out, HF.out, forg_same HGT.out hlt2]; exact hA _⟩, ⟨hA2 _⟩⟩
            case measure => simp [intOf]; omega
        · have t1 : (x.f0 == 5) = false := by simp [h5]
          have HF := Aside0.mk (show forg a1 x = x by simp only [forg]; rw [if_neg (fun h => h5 h.1)])
          clear h5
          go_wp2
          go_roundw
          case rel => exact ⟨k + 1, by omega, by go_num, ⟨by rw [HS.out, HF.out, forg_same HGT.out hlt2]; exact hA _⟩, ⟨hA2 _⟩⟩
          case measure => simp [intOf]; omega
      · have : k = l0.length := by omega
        subst this
        go_wp2
        go_ret
        exact ⟨_, rfl, by have := hR.out; rwa [forgTo_all] at this, hBw.out⟩
end Go.Proofs.Ytocdpledkmmomaa.P
