import Derived.Test.YtocdpledkmmomaaSBPx4
import Derived.Test.YtocdpledkmmomaaSBSep
namespace Go.Proofs.Ytocdpledkmmomaa.P
open Go.RowKit Go.Proofs.YtocdpledkmmomaaW.PrintWords Go.Proofs.YtocdpledkmmomaaW.PrintLast Go.Proofs.YtocdpledkmmomaaW.PrintMore
set_option linter.unusedVariables false
set_option linter.unusedSimpArgs false
theorem view_append {α : Type} (d : Kd α) {P : Program} {ops : Array Oper} {rest : List Oper} {o : Oper} {a : Act} {Q : Exit → Act → World → Prop} {W : World} (hgd : o.guard = none) (s x : Operand) (t e : TypeId) (z : Value) (bytes : Nat)
    (ho : o.op = .call { callee := .builtin .append, args := #[s, x], argTypes := #[t, t] })
    (ht : P.underlying t = some (.slice e)) (hinfo : (P.info? e).map (fun i => (i.zero, i.size, i.bytes)) = some (some z, d.sz, bytes)) (hz : z.cells.size = d.sz) (hs0 : 0 < d.sz) (hb0 : 0 < bytes)
    (A : Option Addr) (xs ys : List α) (A2 : Option Addr) (m c : Nat) (ok : Nat → Prop) (hs : a.eval s = .slice A xs.length xs.length) (hx : a.eval x = .slice A2 m c)
    (HA : Kd.F d W ok A xs.length xs) (HR : Kd.C d W A2 m ys) (hKM : ∀ W' N ok' x cs, d.K W x cs → d.M W' N ok' x cs) (hl : (xs.length + m) * bytes ≤ 140737488355328)
    (h : ∀ v1 w1, Kd.V d e w1 W.heap.size (fun k => ok k ∨ W.heap.size ≤ k) v1 (xs ++ ys) → Below W.heap.size W w1 → wpList P ops Q rest (a.put o.dst v1) w1) :
    wpList P ops Q (o :: rest) a W := by
  obtain ⟨i0, hi, hzz⟩ := Option.map_eq_some_iff.1 hinfo
  simp only [Prod.mk.injEq] at hzz
  obtain ⟨hz0, hz1, hz2⟩ := hzz
  have hm : ys.length = m := HR.1
  have hlen : xs.length + m ≤ 140737488355328 := Nat.le_trans (Nat.le_mul_of_pos_right _ hb0) hl
  have hrun : ∃ v1 w1, (Builtin.append_ #[t, t] o.type #[.slice A xs.length xs.length, .slice A2 m c]).run P W = .ok v1 w1 ∧ Kd.V d e w1 W.heap.size (fun k => ok k ∨ W.heap.size ≤ k) v1 (xs ++ ys) ∧ Below W.heap.size W w1 := by
    rcases Nat.eq_zero_or_pos m with h0 | h0
    · subst h0
      obtain rfl : ys = [] := List.eq_nil_of_length_eq_zero hm
      rw [List.append_nil]
      have hA2 : (Builtin.append_ #[t, t] o.type #[.slice A xs.length xs.length, .slice A2 0 c]).run P W = .ok (.slice A xs.length xs.length) W := by
        rcases A with _ | ad <;> rcases A2 with _ | ad2 <;> simp [Builtin.append_, run_underlying ht, sizeOf, typeInfo, hi, Builtin.lenOf, Builtin.firstCells, storeCells, loadCells, loadCellsFrom]
      exact ⟨_, W, hA2, Kd.V_mk (Nat.le_refl _) (Kd.F_mono HA (fun k hk => .inl hk)), Below.refl _ _⟩
    · obtain ⟨ad2, rfl, -⟩ := HR.2.2 h0
      obtain ⟨news, hnr, hnc⟩ := ReadsRow.inner_ HR
      have hone : ∀ (zs : List α) (l : List Value), Reps (d.K W) d.sz zs l → ∀ u ∈ l, u.oneCell' = true := by
        intro zs l hr u hu
        obtain ⟨q, hq, rfl⟩ := List.mem_iff_getElem.1 hu
        have hql : q / d.sz < zs.length := by
          rw [Nat.div_lt_iff_lt_mul hs0, ← hr.1]
          exact hq
        have hM := hr.2 (q / d.sz) _ (List.getElem?_eq_getElem hql)
        refine d.K_one hM _ ?_
        have hqr : q % d.sz < d.sz := Nat.mod_lt _ hs0
        have hdm := Nat.div_add_mod' q d.sz
        rw [List.mem_iff_getElem?]
        refine ⟨q % d.sz, ?_⟩
        rw [List.getElem?_take, if_pos hqr, List.getElem?_drop, hdm, List.getElem?_eq_getElem hq]
      have key : ∃ v' w', (Builtin.append_ #[t, t] o.type #[.slice A xs.length xs.length, .slice (some ad2) m c]).run P W = .ok v' w' ∧ ∃ olds, Reps (d.K W) d.sz xs olds ∧ w'.ownsRow W.heap.size e d.sz v' (xs.length + m) (olds ++ news) ∧ W.grownBy w' none := by
        rcases A with _ | ad
        · have hxs : xs = [] := by
            rcases xs with _ | ⟨x0, xs⟩
            · rfl
            · obtain ⟨_, hq, _⟩ := (Kd.F_now HA).2.2 (by simp)
              cases hq
          subst hxs
          obtain ⟨v', w', hr1, r1, r2, _⟩ := run_append_own (P := P) W W.heap.size t o.type e i0 z d.sz bytes ht hi hz0 hz1 hz2 hz hs0 (.slice none 0 0) 0 [] (World.ownsRow_nil W _ e d.sz) ad2 m c news (by rw [hnr.1, hm]) hnc (hone _ _ hnr) (by simp only [maxLen]; omega) (by simpa using hl) (Nat.le_refl _)
          exact ⟨v', w', hr1, [], Reps.none _ _, r1, r2⟩
        · obtain ⟨olds, hor, hoc⟩ := ReadsRow.inner_ (Kd.F_now HA)
          obtain ⟨v', w', hr1, r1, r2⟩ := run_append_arg_grows (P := P) W t o.type e i0 z d.sz bytes ht hi hz0 hz1 hz2 hz hs0 ad xs.length xs.length olds hor.1 hoc ad2 m c news (by rw [hnr.1, hm]) hnc (by omega) (by simp only [maxLen]; omega) hl
          exact ⟨v', w', hr1, olds, hor, r1, r2⟩
      obtain ⟨v', w', hr1, olds, hor, r1, r2⟩ := key
      have hb : Below W.heap.size W w' := ⟨r2.os, r2.tape, r2.output, r2.size, fun k hk => r2.block k hk (by simp)⟩
      refine ⟨v', w', hr1, Kd.V_mono (Kd.R_V (e := e) (base := W.heap.size) (ok := fun k => W.heap.size ≤ k) ⟨fun k hk => own_base r1 k hk, olds ++ news, ?_, ?_⟩) (fun k hk => .inr hk), hb⟩
      · rw [List.length_append, hm]; exact r1
      · exact (Kd.reps_append hor hnr).imp_ (fun x cs hK => hKM _ _ _ x cs hK)
  obtain ⟨v1, w1, hr1, hV, hB⟩ := hrun
  refine wpList_plain hgd fun K hK' => ?_
  unfold Oper.wp
  simp [execOp, ho, resolve, invoke, builtin, hs, hx, hr1, Result.andThen]
  exact hK' _ _ (h v1 w1 hV hB)
structure Three (N : Nat) (sp : Nat → Prop) (v0 v1 v2 : Value) (t1 t2 : List S32) (t3 : List Int) (W : World) : Prop where
  a : Kd.R k32 32 W N sp v0 t1
  b : Kd.V k32 32 W N (fun k => sp k ∧ some k ≠ v0.ownBlock ∧ some k ≠ v2.ownBlock) v1 t2
  c : (Kd.int .i64).R 3 W N sp v2 t3
def chT (N : Nat) (sp : Nat → Prop) (v0 v1 v2 : Value) (t1 t2 : List S32) (t3 : List Int) : Chunk := ⟨sp, Three N sp v0 v1 v2 t1 t2 t3⟩
theorem foot_chT {N : Nat} {sp : Nat → Prop} {v0 v1 v2 : Value} {t1 t2 : List S32} {t3 : List Int} {W : World} (h : Three N sp v0 v1 v2 t1 t2 t3 W) : Foot (chT N sp v0 v1 v2 t1 t2 t3).p W (chT N sp v0 v1 v2 t1 t2 t3).s := fun W' hW =>
  ⟨Kd.R_step h.a hW, Kd.V_step h.b (fun k hk hlt => hW k hk.1 hlt), Kd.R_step h.c hW⟩
theorem three_of {N M : Nat} {v0 v1 v2 : Value} {t1 t2 : List S32} {t3 : List Int} {W : World} (h0 : Kd.R k32 32 W M (fun k_ => some k_ ≠ (v1 : Value).ownBlock) v0 t1) (h1 : Kd.R k32 32 W M (fun k_ => some k_ ≠ (v0 : Value).ownBlock) v1 t2) (h2 : Kd.R (Kd.int .i64) 3 W M (fun _ => True) v2 t3) (hN : N ≤ M) : Three N (fun k => M ≤ k ∧ k < W.heap.size) v0 v1 v2 t1 t2 t3 W := by
  refine ⟨Kd.R_mono (Kd.R_lower (Kd.R_mono (Kd.R_bound h0) (ok' := fun k => M ≤ k ∧ k < W.heap.size) (fun k hk => ⟨hk.2.1, hk.2.2.1⟩)) hN) (fun _ hk => hk), ?_, Kd.R_lower (Kd.R_mono (Kd.R_bound h2) (ok' := fun k => M ≤ k ∧ k < W.heap.size) (fun k hk => ⟨hk.2.1, hk.2.2.1⟩)) hN⟩
  refine Kd.R_V (e := 32) (base := M) (Kd.R_mono (Kd.R_bound h1) (fun k hk => ⟨⟨hk.2.1, hk.2.2.1⟩, hk.1, fun he => ?_⟩))
  obtain ⟨_, _, _, q, hq, cells, hc⟩ := hk
  have hq32 : q = 32 := by simpa [show k32.E = [] from rfl] using hq
  subst hq32
  obtain ⟨inner, ho⟩ := Kd.R_own h2
  obtain ⟨cells2, hc2⟩ := own_typed ho k he.symm
  rw [hc] at hc2
  injection hc2 with hc2
  injection hc2 with _ hc2
  exact absurd hc2 (by decide)
theorem three_append {N : Nat} {sp : Nat → Prop} {v0 v1 v2 u1 : Value} {t1 t2 u2 : List S32} {t3 : List Int} {W w5 : World} (h : Three N sp v0 v1 v2 t1 t2 t3 W) (hV : Kd.V k32 32 w5 W.heap.size (fun k => (sp k ∧ some k ≠ v0.ownBlock ∧ some k ≠ v2.ownBlock) ∨ W.heap.size ≤ k) u1 u2) (hB : Below W.heap.size W w5) (hN : N ≤ W.heap.size) :
    Three N (fun k => sp k ∨ (W.heap.size ≤ k ∧ k < w5.heap.size)) v0 u1 v2 t1 u2 t3 w5 := by
  refine ⟨Kd.R_mono (Kd.R_below h.a hB) (fun k hk => .inl hk), Kd.V_mono (Kd.V_bound (Kd.V_lower (base' := N) (Kd.V_mono hV (fun _ hk => hk)) hN)) (fun k hk => ?_), Kd.R_mono (Kd.R_below h.c hB) (fun k hk => .inl hk)⟩
  obtain ⟨hk | hk, hlt⟩ := hk
  · exact ⟨.inl hk.1, hk.2⟩
  · refine ⟨.inr ⟨hk, hlt⟩, fun he => ?_, fun he => ?_⟩
    · have := Kd.R_lt h.a k he.symm; omega
    · have := Kd.R_lt h.c k he.symm; omega
theorem copied_eq {l0 l1 : List S32} {l2 : List Int} {t1 t2 : List S32} {t3 : List Int} (h : shape_copied.f l0 l1 l2 = some (t1, t2, t3)) : t1 = l0 ∧ t2 = l1 ∧ t3 = l2 := by
  unfold shape_copied.f at h
  obtain ⟨a, ha, h⟩ := Option.bind_eq_some_iff.1 h
  obtain ⟨b, hb, h⟩ := Option.bind_eq_some_iff.1 h
  obtain ⟨c, hc, h⟩ := Option.bind_eq_some_iff.1 h
  unfold api_Val.f at ha hb
  unfold slices_Clone_int_int.f at hc
  split at ha <;> split at hb <;> split at hc <;> simp_all
theorem blk25 {W : World} {b : Nat} {T : Nat} {v0 v1 v2 : Value} (h : W.heap[b]? = some (.cells [v0, v1, v2].toArray T (0, 0))) : W.cell? ⟨b, 0, none⟩ = some v0 ∧ W.cell? ⟨b, 1, none⟩ = some v1 ∧ W.cell? ⟨b, 2, none⟩ = some v2 := ⟨blk_cell h 0, blk_cell h 1, blk_cell h 2⟩
def shape_Push.f (l0_0 : List (S32)) (l0_1 : List (S32)) (l0_2 : List Int) (a1 : Int) (l2 : List (S32)) : Option ((List (S32)) × (List (S32)) × List Int × Int) :=
  if l2.length < 1000000000000 ∧ l0_1.length < 1000000000000 then
    if a1 < (l0_1.length : Int) ∨ wrap64 (a1 - (l0_1.length : Int)) < (l2.length : Int) then some ([], [], [], 9)
    else (shape_copied.f l0_0 l0_1 l0_2).bind fun t => some (t.1, t.2.1 ++ l2, t.2.2, 0)
  else none
theorem k32_KM' {W : World} : ∀ W' N ok' x cs, k32.K W x cs → k32.M W' N ok' x cs := fun _ _ _ _ _ h => h
set_option maxHeartbeats 4000000 in
set_option maxRecDepth 100000 in
theorem shape_Push.calls (A0_0 : Option Addr) (c0_0 : Nat) (l0_0 : List (S32)) (A0_1 : Option Addr) (c0_1 : Nat) (l0_1 : List (S32)) (A0_2 : Option Addr) (c0_2 : Nat) (l0_2 : List Int) (a1 : Int) (A2 : Option Addr) (c2 : Nat) (l2 : List (S32)) (r1 : List (S32)) (r2 : List (S32)) (r3 : List Int) (r4 : Int) (w : World) (hr0_0 : Kd.C k32 w A0_0 l0_0.length l0_0) (hc0_0 : l0_0.length ≤ c0_0) (hr0_1 : Kd.C k32 w A0_1 l0_1.length l0_1) (hc0_1 : l0_1.length ≤ c0_1) (hr0_2 : Kd.C (Kd.int .i64) w A0_2 l0_2.length l0_2) (hc0_2 : l0_2.length ≤ c0_2) (hr2 : Kd.C k32 w A2 l2.length l2) (hc2 : l2.length ≤ c2) (h : shape_Push.f l0_0 l0_1 l0_2 a1 l2 = some (r1, r2, r3, r4)) :
    Calls Try.prog 17 #[.agg #[.slice A0_0 l0_0.length c0_0, .slice A0_1 l0_1.length c0_1, .slice A0_2 l0_2.length c0_2], .int .i64 a1, .slice A2 l2.length c2] w fun e w' => ∃ v0_ v1_ v2_ : Value, e = .returned (.tuple #[.agg #[v0_, v1_, v2_], .int .i64 r4]) ∧ Kd.R k32 32 w' w.heap.size (fun k_ => (w.heap.size ≤ k_)) v0_ r1 ∧ Kd.V k32 32 w' w.heap.size (fun k_ => (w.heap.size ≤ k_) ∧ some k_ ≠ (v0_ : Value).ownBlock ∧ some k_ ≠ (v2_ : Value).ownBlock) v1_ r2 ∧ Kd.R (Kd.int .i64) 3 w' w.heap.size (fun k_ => (w.heap.size ≤ k_)) v2_ r3 ∧ Below w.heap.size w w' := by
  unfold shape_Push.f at h
  split at h
  case isFalse => cases h
  case isTrue hlen =>
  have hu25 := Try.underlying25
  have HR0 := Aside0.mk hr0_0
  have HR1 := Aside0.mk hr0_1
  have HR2 := Aside0.mk hr0_2
  have HRL := Aside0.mk hr2
  have HL := Aside0.mk hlen
  clear hr0_0 hr0_1 hr0_2 hr2 hlen
  split at h
  case isTrue hbad =>
    injection h with h
    injection h with e1 h
    injection h with e2 h
    injection h with e3 e4
    subst e1 e2 e3 e4
    go_enter Try.func17, Try.ntmps17
    by_cases hb1 : a1 < (l0_1.length : Int)
    · go_wp2
      refine bodyPost_ret (v := .tuple #[.agg #[.slice none 0 0, .slice none 0 0, .slice none 0 0], .int .i64 9]) (by simp [results, Try.results17, go_sem]) rfl ⟨_, _, _, rfl, Kd.R_nil _ _ _ _ _, Kd.V_nil _ _ _ _ _, Kd.R_nil _ _ _ _ _, ?_⟩
      repeat (first | exact Below.refl _ _ | refine Below.alloc ?_ (by simp) _ | refine Below.setCell ?_ (by simp) _)
    · have hb2 : wrap64 (a1 - (l0_1.length : Int)) < (l2.length : Int) := by rcases hbad with h | h; exact absurd h hb1; exact h
      clear hbad
      go_wp2
      refine bodyPost_ret (v := .tuple #[.agg #[.slice none 0 0, .slice none 0 0, .slice none 0 0], .int .i64 9]) (by simp [results, Try.results17, go_sem]) rfl ⟨_, _, _, rfl, Kd.R_nil _ _ _ _ _, Kd.V_nil _ _ _ _ _, Kd.R_nil _ _ _ _ _, ?_⟩
      repeat (first | exact Below.refl _ _ | refine Below.alloc ?_ (by simp) _ | refine Below.setCell ?_ (by simp) _)
  case isFalse hgood =>
    obtain ⟨⟨t1, t2, t3⟩, ht, h⟩ := Option.bind_eq_some_iff.1 h
    injection h with h
    injection h with e1 h
    injection h with e2 h
    injection h with e3 e4
    subst e1 e2 e3 e4
    have hg1 : ¬ a1 < (l0_1.length : Int) := fun h => hgood (.inl h)
    have hg2 : ¬ wrap64 (a1 - (l0_1.length : Int)) < (l2.length : Int) := fun h => hgood (.inr h)
    clear hgood
    go_enter Try.func17, Try.ntmps17
    go_wp2_with fail
    have hA := below_alloc (below_alloc (Below.refl w.heap.size w) (.cells #[.slice A0_0 l0_0.length c0_0, .slice A0_1 l0_1.length c0_1, .slice A0_2 l0_2.length c0_2] 25)) (.cells #[.slice none 0 0, .slice none 0 0, .slice none 0 0] 25)
    refine (shape_copied.calls A0_0 c0_0 l0_0 A0_1 c0_1 l0_1 A0_2 c0_2 l0_2 t1 t2 t3 _ (Kd.C_below HR0.out hA) hc0_0 (Kd.C_below HR1.out hA) hc0_1 (Kd.C_below HR2.out hA) hc0_2 ht).mono ?_
    rintro e w1 ⟨v0, v1, v2, rfl, ha, hb, hc, hB⟩
    have H0 := ((Sep.nil w).appB 25 [.slice A0_0 l0_0.length c0_0, .slice A0_1 l0_1.length c0_1, .slice A0_2 l0_2.length c0_2]).appB 25 [.slice none 0 0, .slice none 0 0, .slice none 0 0]
    have hT := three_of (N := w.heap.size) ha hb hc (by simp; omega)
    have H1 := H0.app (chT _ _ v0 v1 v2 t1 t2 t3) hB (fun k hk => hk) (foot_chT hT)
    obtain ⟨A0, c0, rfl⟩ := Kd.R_slice ha
    obtain ⟨A1, c1, rfl⟩ := Kd.R_slice hb
    obtain ⟨A2_, c2_, rfl⟩ := Kd.R_slice hc
    have hl2 := (Kd.R_reads' hb).2.1
    have H2 := H1.appB 25 [.slice A0 t1.length c0, .slice A1 t2.length c1, .slice A2_ t3.length c2_]
    simp only [World.size_alloc, List.nil_append, List.cons_append] at H2 ⊢
    have HB := Aside0.mk (hA.trans (hB.mono (by simp; omega)))
    have HT2 := Aside0.mk ht
    have HS := Aside0.mk H2
    clear ha hb hc hT H0 H1 H2 hA hB ht h hc2 hc0_0 hc0_1 hc0_2 hg1 hg2
    have HF := Aside0.mk (Kd.V_F (HS.out.get 2 rfl : Three _ _ _ _ _ _ _ _ _).b)
    have HRL2 := Aside0.mk (Kd.C_below HRL.out (HB.out.trans (below_alloc (Below.refl w1.heap.size w1) (.cells #[.slice A0 t1.length c0, .slice A1 t2.length c1, .slice A2_ t3.length c2_] 25) |>.mono HB.out.size)))
    have HLE := Aside0.mk (show t2.length = l0_1.length by rw [(copied_eq HT2.out).2.1])
    clear HRL
    go_wp2_with (first | (at_builtin; go_loud (refine view_append k32 rfl (.tmp 35) (.tmp 36) 22 32 _ 16 rfl Try.underlying22 info32 rfl (by decide) (by decide) A1 t2 l2 A2 _ c2 _ rfl rfl HF.out HRL2.out k32_KM' (by have := HL.out; have := HLE.out; omega) ?_); intro u1 w5 hV hB5; obtain ⟨AU, cU, hu1⟩ := Kd.V_slice hV; rw [List.length_append] at hu1; subst hu1; have H6 := Aside0.mk (HS.out.upd 2 rfl (chT _ _ _ _ _ _ _ _) (Grew.of_below hB5) (fun k hk _ => hB5.block k hk) (fun k hk => hk.elim .inl (fun h => .inr h.1)) (fun k hk => hk.elim (fun h => Nat.lt_of_lt_of_le (HS.out.lt 2 _ rfl k h) hB5.size) (fun h => h.2)) (foot_chT (three_append (HS.out.get 2 rfl) hV hB5 HS.out.base))); clear hV hB5 HF HRL2 HS) | (refine sep_store H6.out 3 rfl rfl rfl 22 (.tmp 38) (.tmp 37) rfl 1 rfl (.slice AU (t2.length + l2.length) cU) [.slice AU (t2.length + l2.length) cU] rfl rfl (show _ = some 1 by kernel_rfl) rfl (by simp) _ rfl ?_; intro w6 H7_; have H7 := Aside0.mk H7_; clear H7_ H6; obtain ⟨z0, z1, z2⟩ := blk25 (H7.out.get 3 rfl)) | (refine sep_store H7.out 1 rfl rfl rfl 25 (.tmp 6) (.tmp 39) rfl 0 rfl (.agg #[.slice A0 t1.length c0, .slice AU (t2.length + l2.length) cU, .slice A2_ t3.length c2_]) [.slice A0 t1.length c0, .slice AU (t2.length + l2.length) cU, .slice A2_ t3.length c2_] rfl rfl (show _ = some 3 by kernel_rfl) rfl (by simp) _ rfl ?_; intro w7 H8_; have H8 := Aside0.mk H8_; clear H8_ H7 z0 z1 z2; obtain ⟨y0, y1, y2⟩ := blk25 (H8.out.get 1 rfl)))
    have hf : Three w.heap.size _ (.slice A0 t1.length c0) (.slice AU (t2.length + l2.length) cU) (.slice A2_ t3.length c2_) t1 (t2 ++ l2) t3 w7 := H8.out.get 2 rfl
    have hge := H8.out.ge 2 _ rfl
    refine bodyPost_ret (v := .tuple #[.agg #[.slice A0 t1.length c0, .slice AU (t2.length + l2.length) cU, .slice A2_ t3.length c2_], .int .i64 0]) (by simp [results, Try.results17, go_sem, y0, y1, y2]) rfl ⟨_, _, _, rfl, Kd.R_mono hf.a (fun k hk => hge k hk), Kd.V_mono hf.b (fun k hk => ⟨hge k hk.1, hk.2⟩), Kd.R_mono hf.c (fun k hk => hge k hk), H8.out.below⟩
def shape_Pop.f (l0_0 : List (S32)) (l0_1 : List (S32)) (l0_2 : List Int) (a1 : Int) : Option ((List (S32)) × (List (S32)) × List Int × (List (S32)) × Int) :=
  if a1 < 0 then some ([], [], [], [], 2)
  else if (l0_1.length : Int) < a1 then some ([], [], [], [], 9)
  else if l0_1.length < 1000000000000 then (shape_copied.f l0_0 l0_1 l0_2).bind fun t => some (t.1, t.2.1.take (t.2.1.length - a1.toNat), t.2.2, t.2.1.drop (t.2.1.length - a1.toNat), 0)
  else none
set_option maxHeartbeats 4000000 in
set_option maxRecDepth 100000 in
theorem shape_Pop.calls (A0_0 : Option Addr) (c0_0 : Nat) (l0_0 : List (S32)) (A0_1 : Option Addr) (c0_1 : Nat) (l0_1 : List (S32)) (A0_2 : Option Addr) (c0_2 : Nat) (l0_2 : List Int) (a1 : Int) (r1 : List (S32)) (r2 : List (S32)) (r3 : List Int) (r4 : List (S32)) (r5 : Int) (w : World) (hr0_0 : Kd.C k32 w A0_0 l0_0.length l0_0) (hc0_0 : l0_0.length ≤ c0_0) (hr0_1 : Kd.C k32 w A0_1 l0_1.length l0_1) (hc0_1 : l0_1.length ≤ c0_1) (hr0_2 : Kd.C (Kd.int .i64) w A0_2 l0_2.length l0_2) (hc0_2 : l0_2.length ≤ c0_2) (h : shape_Pop.f l0_0 l0_1 l0_2 a1 = some (r1, r2, r3, r4, r5)) :
    Calls Try.prog 18 #[.agg #[.slice A0_0 l0_0.length c0_0, .slice A0_1 l0_1.length c0_1, .slice A0_2 l0_2.length c0_2], .int .i64 a1] w fun e w' => ∃ v0_ v1_ v2_ v3_ : Value, e = .returned (.tuple #[.agg #[v0_, v1_, v2_], v3_, .int .i64 r5]) ∧ Kd.R k32 32 w' w.heap.size (fun k_ => (w.heap.size ≤ k_) ∧ some k_ ≠ (v3_ : Value).ownBlock) v0_ r1 ∧ Kd.V k32 32 w' w.heap.size (fun k_ => (w.heap.size ≤ k_) ∧ some k_ ≠ (v0_ : Value).ownBlock ∧ some k_ ≠ (v2_ : Value).ownBlock ∧ some k_ ≠ (v3_ : Value).ownBlock) v1_ r2 ∧ Kd.R (Kd.int .i64) 3 w' w.heap.size (fun k_ => (w.heap.size ≤ k_)) v2_ r3 ∧ Kd.R k32 32 w' w.heap.size (fun k_ => (w.heap.size ≤ k_) ∧ some k_ ≠ (v0_ : Value).ownBlock) v3_ r4 ∧ Below w.heap.size w w' := by
  unfold shape_Pop.f at h
  have hu25 := Try.underlying25
  have HR0 := Aside0.mk hr0_0
  have HR1 := Aside0.mk hr0_1
  have HR2 := Aside0.mk hr0_2
  clear hr0_0 hr0_1 hr0_2
  split at h
  case isTrue hneg =>
    injection h with h
    injection h with e1 h
    injection h with e2 h
    injection h with e3 h
    injection h with e4 e5
    subst e1 e2 e3 e4 e5
    go_enter Try.func18, Try.ntmps18
    go_wp2
    refine bodyPost_ret (v := .tuple #[.agg #[.slice none 0 0, .slice none 0 0, .slice none 0 0], .slice none 0 0, .int .i64 2]) (by simp [results, Try.results18, go_sem]) rfl ⟨_, _, _, _, rfl, Kd.R_nil _ _ _ _ _, Kd.V_nil _ _ _ _ _, Kd.R_nil _ _ _ _ _, Kd.R_nil _ _ _ _ _, ?_⟩
    repeat (first | exact Below.refl _ _ | refine Below.alloc ?_ (by simp) _ | refine Below.setCell ?_ (by simp) _)
  case isFalse hpos =>
  split at h
  case isTrue hbig =>
    injection h with h
    injection h with e1 h
    injection h with e2 h
    injection h with e3 h
    injection h with e4 e5
    subst e1 e2 e3 e4 e5
    go_enter Try.func18, Try.ntmps18
    go_wp2
    refine bodyPost_ret (v := .tuple #[.agg #[.slice none 0 0, .slice none 0 0, .slice none 0 0], .slice none 0 0, .int .i64 9]) (by simp [results, Try.results18, go_sem]) rfl ⟨_, _, _, _, rfl, Kd.R_nil _ _ _ _ _, Kd.V_nil _ _ _ _ _, Kd.R_nil _ _ _ _ _, Kd.R_nil _ _ _ _ _, ?_⟩
    repeat (first | exact Below.refl _ _ | refine Below.alloc ?_ (by simp) _ | refine Below.setCell ?_ (by simp) _)
  case isFalse hsmall =>
  split at h
  case isFalse => cases h
  case isTrue hlen =>
    obtain ⟨⟨t1, t2, t3⟩, ht, h⟩ := Option.bind_eq_some_iff.1 h
    have hle := (copied_eq ht).2.1
    injection h with h
    injection h with e1 h
    injection h with e2 h
    injection h with e3 h
    injection h with e4 e5
    subst e1 e2 e3 e4 e5
    go_enter Try.func18, Try.ntmps18
    go_wp2_with fail
    have hA := below_alloc (below_alloc (Below.refl w.heap.size w) (.cells #[.slice A0_0 l0_0.length c0_0, .slice A0_1 l0_1.length c0_1, .slice A0_2 l0_2.length c0_2] 25)) (.cells #[.slice none 0 0, .slice none 0 0, .slice none 0 0] 25)
    refine (shape_copied.calls A0_0 c0_0 l0_0 A0_1 c0_1 l0_1 A0_2 c0_2 l0_2 t1 t2 t3 _ (Kd.C_below HR0.out hA) hc0_0 (Kd.C_below HR1.out hA) hc0_1 (Kd.C_below HR2.out hA) hc0_2 ht).mono ?_
    rintro e w1 ⟨v0, v1, v2, rfl, ha, hb, hc, hB⟩
    have H0 := ((Sep.nil w).appB 25 [.slice A0_0 l0_0.length c0_0, .slice A0_1 l0_1.length c0_1, .slice A0_2 l0_2.length c0_2]).appB 25 [.slice none 0 0, .slice none 0 0, .slice none 0 0]
    have hT := three_of (N := w.heap.size) ha hb hc (by simp; omega)
    have H1 := H0.app (chT _ _ v0 v1 v2 t1 t2 t3) hB (fun k hk => hk) (foot_chT hT)
    obtain ⟨A0, c0, rfl⟩ := Kd.R_slice ha
    obtain ⟨A1, c1, rfl⟩ := Kd.R_slice hb
    obtain ⟨A2_, c2_, rfl⟩ := Kd.R_slice hc
    have hl2 := (Kd.R_reads' hb).2.1
    have H2 := H1.appB 25 [.slice A0 t1.length c0, .slice A1 t2.length c1, .slice A2_ t3.length c2_]
    simp only [World.size_alloc, List.nil_append, List.cons_append] at H2 ⊢
    have HB := Aside0.mk (hA.trans (hB.mono (by simp; omega)))
    have HT2 := Aside0.mk ht
    have HS := Aside0.mk H2
    have hlt2 : t2.length < 1000000000000 := by rw [hle]; exact hlen
    have ha1 : a1 ≤ (t2.length : Int) := by rw [hle]; omega
    clear ha hb hc hT H0 H1 H2 hA hB ht h hc0_0 hc0_1 hc0_2
    obtain ⟨n, rfl⟩ : ∃ n : Nat, a1 = n := ⟨a1.toNat, by omega⟩
    clear hle
    obtain ⟨k, hk⟩ : ∃ k : Nat, k + n = t2.length := ⟨t2.length - n, by omega⟩
    have hdl : (t2.drop k).length = n := by rw [List.length_drop]; omega
    obtain ⟨D, hD⟩ : ∃ D, D = t2.drop k := ⟨_, rfl⟩
    rw [← hD] at hdl
    obtain ⟨A', hA'⟩ : ∃ A', A' = (if c1 = k then A1 else A1.map (·.add (k * 4))) := ⟨_, rfl⟩
    have hcut : ∀ W : World, (Instr.slice 22 (.slice A1 t2.length c1) (some (.int .i64 ((t2.length : Int) - (n : Int)))) none none).run Try.prog W = .ok (.slice A' D.length (c1 - k)) W := by
      obtain ⟨i0, hi0, hzz⟩ := Option.map_eq_some_iff.1 info32
      simp only [Prod.mk.injEq] at hzz
      intro W
      have := cut_from 22 32 .i64 Try.underlying22 hi0 4 hzz.2.1 A1 t2.length c1 ((t2.length : Int) - (n : Int)) (by omega) (by omega) W
      rw [this, hdl, hA', show ((t2.length : Int) - (n : Int)).toNat = k by omega, show t2.length - k = n by omega]
    have HF := Aside0.mk (Kd.V_F (HS.out.get 2 rfl : Three _ _ _ _ _ _ _ _ _).b)
    have HC := Aside0.mk (show Kd.C k32 _ A' D.length D by rw [hA', hD]; exact Kd.C_drop (Kd.F_now HF.out) (by omega) hl2)
    have HK := Aside0.mk hk
    have HDL := Aside0.mk hdl
    have HDD := Aside0.mk hD
    clear hdl hA' hD
    go_wp2_with fail
    refine (api_Val.calls A' (c1 - k) D D _ HC.out (by rw [HDL.out]; omega) (by unfold api_Val.f; rw [if_pos (by rw [HDL.out]; omega)])).mono ?_
    rintro e w3 ⟨vl, rfl, hvl, hB3⟩
    obtain ⟨AL, cL, rfl⟩ := Kd.R_slice hvl
    have H3 := Aside0.mk (HS.out.app (chR k32 32 _ (.slice AL D.length cL) D) hB3 (fun k_ hk_ => ⟨Kd.R_base hvl k_ hk_, Kd.R_lt hvl k_ hk_⟩) (foot_chR rfl hvl))
    obtain ⟨z0, z1, z2⟩ := blk25 (H3.out.get 3 rfl)
    clear hvl hB3 HS HF HC hcut hk
    go_wp2_with (first | (refine sep_store H3.out 3 rfl rfl rfl 22 (.tmp 38) (.tmp 37) rfl 1 rfl (.slice A1 (t2.length - n) (t2.length - n)) [.slice A1 (t2.length - n) (t2.length - n)] rfl rfl (show _ = some 1 by kernel_rfl) rfl (by simp) _ rfl ?_; intro w6 H7_; have H7 := Aside0.mk H7_; clear H7_ H3 z0 z1 z2; obtain ⟨z0, z1, z2⟩ := blk25 (H7.out.get 3 rfl)) | (refine sep_store H7.out 1 rfl rfl rfl 25 (.tmp 4) (.tmp 39) rfl 0 rfl (.agg #[.slice A0 t1.length c0, .slice A1 (t2.length - n) (t2.length - n), .slice A2_ t3.length c2_]) [.slice A0 t1.length c0, .slice A1 (t2.length - n) (t2.length - n), .slice A2_ t3.length c2_] rfl rfl (show _ = some 3 by kernel_rfl) rfl (by simp) _ rfl ?_; intro w7 H8_; have H8 := Aside0.mk H8_; clear H8_ H7 z0 z1 z2; obtain ⟨y0, y1, y2⟩ := blk25 (H8.out.get 1 rfl)))
    have hf : Three w.heap.size _ (.slice A0 t1.length c0) (.slice A1 t2.length c1) (.slice A2_ t3.length c2_) t1 t2 t3 w7 := H8.out.get 2 rfl
    have hge := H8.out.ge 2 _ rfl
    have hap := H8.out.apart 2 4 _ _ (by decide) rfl rfl
    have hge4 := H8.out.ge 4 _ rfl
    have hv3 : Kd.R k32 32 w7 _ (fun _ => True) (.slice AL D.length cL) D := H8.out.get 4 rfl
    have hb3 : w.heap.size ≤ (w1.alloc (.cells #[.slice A0 t1.length c0, .slice A1 t2.length c1, .slice A2_ t3.length c2_] 25)).heap.size := by have := HB.out.size; simp; omega
    have hkk := HK.out
    have hDD := HDD.out
    have htl : (t2.take (t2.length - (n : Int).toNat)).length = t2.length - n := by simp
    refine bodyPost_ret (v := .tuple #[.agg #[.slice A0 t1.length c0, .slice A1 (t2.length - n) (t2.length - n), .slice A2_ t3.length c2_], .slice AL D.length cL, .int .i64 0]) (by simp [results, Try.results18, go_sem, y0, y1, y2]) rfl ⟨_, _, _, _, rfl, Kd.R_mono hf.a (fun k_ hk_ => ⟨hge k_ hk_, fun he => hap k_ hk_ he.symm⟩), ?_, Kd.R_mono hf.c (fun k_ hk_ => hge k_ hk_), ?_, H8.out.below⟩
    · have hF := Kd.F_take (m := t2.length - (n : Int).toNat) (Kd.V_F hf.b) (by omega)
      have hV := Kd.V_mk (e := 32) (base := w.heap.size) (c := t2.length - n) (by omega) (Kd.F_mono hF (ok' := fun k_ => (w.heap.size ≤ k_) ∧ some k_ ≠ (Value.slice A0 t1.length c0).ownBlock ∧ some k_ ≠ (Value.slice A2_ t3.length c2_).ownBlock ∧ some k_ ≠ (Value.slice AL D.length cL).ownBlock) (fun k_ hk_ => ⟨hge k_ hk_.1, hk_.2.1, hk_.2.2, fun he => hap k_ hk_.1 he.symm⟩))
      rwa [htl] at hV
    · have hd : t2.drop (t2.length - (n : Int).toNat) = D := by rw [hDD]; congr 1; omega
      show Kd.R k32 32 w7 w.heap.size _ _ (t2.drop (t2.length - (n : Int).toNat))
      rw [hd]
      exact Kd.R_mono (Kd.R_lower (Kd.R_tight rfl hv3) hb3) (fun k_ hk_ => ⟨hge4 k_ hk_.symm, fun he => hap k_ (hf.a.1 k_ he.symm) hk_.symm⟩)
end Go.Proofs.Ytocdpledkmmomaa.P
