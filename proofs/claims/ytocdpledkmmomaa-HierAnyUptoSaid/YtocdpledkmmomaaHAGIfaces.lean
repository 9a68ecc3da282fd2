import Derived.Test.YtocdpledkmmomaaHAGSortC
namespace Go.Proofs.Ytocdpledkmmomaa.P
open Go.RowKit Go.Shelf Go.Proofs.YtocdpledkmmomaaW.PrintWords Go.Proofs.YtocdpledkmmomaaW.PrintLast Go.Proofs.YtocdpledkmmomaaW.PrintMore
set_option linter.unusedVariables false
set_option linter.unusedSimpArgs false
attribute [local go_sem] Oper.semAt_some
def inB (l0 : List S110) (x : Int) : Bool := decide (0 ≤ x ∧ x < (l0.length : Int))
def okI (l0 : List S110) (x : Int) : Bool := inB l0 x && isIf l0 x
def ownI (l0 : List S110) (ys : List S107) : List Int := (ys.filter fun s => okI l0 s.f0).map (·.f0)
def colI (l0 : List S110) (c : Int) : List Int := (if isIf l0 c then [c] else []) ++ ownI l0 (rd_T110 l0 c).f3
def ifsI (l0 : List S110) (cs : List (InW l0)) : List Int := cs.flatMap fun c => colI l0 c.1
theorem ownI_take (l0 : List S110) (ys : List S107) (k : Nat) (h : k < ys.length) : ownI l0 (ys.take (k + 1)) = ownI l0 (ys.take k) ++ (if okI l0 (rd_T107 ys (k : Int)).f0 then [(rd_T107 ys (k : Int)).f0] else []) := by
  unfold ownI
  rw [List.take_add_one, List.getElem?_eq_getElem h, Option.toList_some, List.filter_append, List.map_append]
  congr 1
  have e : rd_T107 ys (k : Int) = ys[k] := by simp [rd_T107, h]
  rw [e]
  by_cases hx : okI l0 ys[k].f0 = true
  · simp [hx]
  · simp [hx]
theorem ownI_le (l0 : List S110) (ys : List S107) : (ownI l0 ys).length ≤ ys.length := by
  unfold ownI
  rw [List.length_map]
  exact List.length_filter_le _ _
theorem ifsI_snoc (l0 : List S110) (pre : List (InW l0)) (x : InW l0) : ifsI l0 (pre ++ [x]) = ifsI l0 pre ++ colI l0 x.1 := by simp [ifsI]
theorem AppI.step {w0 W W' : World} {s base b : Nat} {bs : List (Nat × Nat × List Value)} {xs : List Int} (h : AppI w0 s base b bs xs W) (hb : Below W.heap.size W W') : AppI w0 s base b bs xs W' := by
  obtain ⟨v, hv, hrow⟩ := h.box
  refine ⟨h.below.trans (hb.mono h.below.size), Nat.le_trans h.size hb.size, ⟨v, (hb.block _ (Array.getElem?_eq_some_iff.1 hv).1).trans hv, hrow.1, ?_⟩, fun p hp => (hb.block p.1 (Array.getElem?_eq_some_iff.1 (h.blk p hp)).1).trans (h.blk p hp)⟩
  rcases hrow.2 with h1 | ⟨g, cap, cur, hv, hg, hgb, hr⟩
  · exact .inl h1
  · exact .inr ⟨g, cap, cur, hv, hg, (hb.block g (Array.getElem?_eq_some_iff.1 hgb).1).trans hgb, hr⟩
def RelU (n Bw Ba : Nat) (A B : World) : Prop := KeepsOthers A B ∧ KpU n Bw Ba A B
theorem RelU.trans {n Bw Ba : Nat} {A B C : World} (h : RelU n Bw Ba A B) (k : RelU n Bw Ba B C) : RelU n Bw Ba A C := ⟨h.1.trans k.1, kpU_t h.2 k.2⟩
theorem RelU.refl (n Bw Ba : Nat) (A : World) : RelU n Bw Ba A A := ⟨⟨Nat.le_refl _, fun _ _ h _ => h⟩, Below.refl _ _, rfl, rfl⟩
theorem RelU.of_below {n Bw Ba : Nat} {A B : World} (hb : Below A.heap.size A B) (hn : n ≤ A.heap.size) (h1 : Bw < A.heap.size) (h2 : Ba < A.heap.size) : RelU n Bw Ba A B := ⟨keepsOthers_below hb, hb.mono hn, hb.block _ h1, hb.block _ h2⟩
theorem AppI.pushU {w0 W w3 : World} {s base b Bw Ba : Nat} {bs : List (Nat × Nat × List Value)} {xs : List Int} {v v' : Value} {x : Int} (hb0 : w0.heap.size ≤ b) (hbase0 : w0.heap.size ≤ base) (h : AppI w0 s base b bs xs W) (hv : W.heap[b]? = some (.cells #[v] 23 (0, 0))) (hrow : W.ownsRow base 3 1 v xs.length (nums .i64 xs))
    (hown : w3.ownsRow base 3 1 v' (xs.length + 1) (nums .i64 xs ++ [.int .i64 x])) (hg : (W.alloc (.cells #[.int .i64 x] 3)).grownBy w3 v.ownBlock) (hbs : ∀ p ∈ bs, p.1 ≠ b ∧ (p.1 < base ∨ p.2.1 ≠ 3)) (h1 : Bw < base) (h2 : Ba < base) (h3 : base ≤ W.heap.size) (n1 : Bw ≠ b) (n2 : Ba ≠ b) :
    AppI w0 s base b bs (xs ++ [x]) (w3.setCell ⟨b, 0, none⟩ v') ∧ RelU w0.heap.size Bw Ba W (w3.setCell ⟨b, 0, none⟩ v') := by
  obtain ⟨p1, p2, p3⟩ := AppI.push hb0 hbase0 h hv hrow hown hg hbs
  refine ⟨p1, p2, ?_, p3 _ h1 n1 (by omega), p3 _ h2 n2 (by omega)⟩
  refine (((Below.refl w0.heap.size W).alloc h.below.size _).grown hg (by have := h.below.size; simp; omega) fun j ej => Nat.le_trans hbase0 (hrow.lt j ej).1).setCell (p := ⟨b, 0, none⟩) hb0 v'
theorem row_ne {W : World} {base n D : Nat} {v : Value} {xs : List Value} {o : Obj} (h : W.ownsRow base 3 1 v n xs) (hD : W.heap[D]? = some o) (ho : o.isCells = false) : some D ≠ v.ownBlock := by
  rcases h.2 with ⟨rfl, _⟩ | ⟨g, cap, cur, rfl, _, hgb, _⟩
  · simp [Value.ownBlock]
  · intro e
    obtain rfl : D = g := by simpa [Value.ownBlock] using e
    rw [hgb] at hD
    cases hD
    cases ho
theorem upsL_le (l0 : List S110) : ∀ (k : Nat) (a : Int), (upsL l0 k a).length ≤ k
  | 0, a => by simp [upsL]
  | k + 1, a => by
    unfold upsL
    split
    · have := upsL_le l0 k (rd_T110 l0 a).f2
      simp
      omega
    · simp
set_option maxHeartbeats 4000000 in
set_option maxRecDepth 100000 in
theorem ifaces_any (A0 : Option Addr) (c0 : Nat) (l0 : List S110) (A1 : Option Addr) (c1 : Nat) (l1 : List S86) (A2 : Option Addr) (c2 : Nat) (l2 : List S185) (A3 : Option Addr) (c3 : Nat) (l3 : List S124) (a : Int) (w : World) (hW : WorldC w A0 c0 l0 A1 c1 l1 A2 c2 l2 A3 c3 l3) (M : Nat) (hM : ∀ x : InW l0, (rd_T110 l0 x.1).f3.length + 1 ≤ M) (hlen : l0.length < 17592186044000) (hMl : (l0.length + 1) * M < 17592186044000) :
    Calls Try.prog 31 #[.agg #[.slice A0 l0.length c0, .slice A1 l1.length c1, .slice A2 l2.length c2, .slice A3 l3.length c3], .int .i64 a] w fun e w' => ∃ v, e = .returned v ∧ w'.ownsRow w.heap.size 3 1 v (Lib.compact (srt (ifsI l0 (upsL l0 (l0.length + 1) a)))).length (nums .i64 (Lib.compact (srt (ifsI l0 (upsL l0 (l0.length + 1) a))))) ∧ Below w.heap.size w w' := by
  refine (callsIn_wide (n := 3)).1 ?_
  have h13 : 1 ≤ 3 := by omega
  have hu23 := Try.underlying23
  have hu54 := Try.underlying54
  have hu49 := Try.underlying49
  have hu105 := Try.underlying105
  have hu107 := Try.underlying107
  have hu110 := Try.underlying110
  obtain ⟨i0, hi, hz0, hz1, hz2⟩ := info3s
  have hi' := Aside0.mk hi
  clear hi
  refine callsIn_of_wp_marks Try.func31 rfl trivial ?_ rfl
  simp only [Try.ntmps31, List.size_toArray, List.length_cons, List.length_nil, Nat.reduceAdd, Nat.reduceSub, Array.replicate_succ, Array.replicate_zero, List.push_toArray, List.append_toArray, List.nil_append, List.cons_append]
  have H := Aside0.mk ((Hold.nil w).allocB [.slice A0 l0.length c0, .slice A1 l1.length c1, .slice A2 l2.length c2, .slice A3 l3.length c3] 54 |>.allocB [.slice none 0 0] 23)
  simp only [List.nil_append, List.cons_append, World.size_alloc] at H
  have HW := Aside0.mk hW
  clear hW
  gi_wp2_with fail
  obtain ⟨w1, hw1⟩ : ∃ w1, w1 = (w.alloc (.cells #[.slice A0 l0.length c0, .slice A1 l1.length c1, .slice A2 l2.length c2, .slice A3 l3.length c3] 54)).alloc (.cells #[.slice none 0 0] 23) := ⟨_, rfl⟩
  have hs1 : w.heap.size + 1 + 1 ≤ w1.heap.size := by rw [hw1]; simp
  have H1 := Aside0.mk (show Hold w.heap.size w w1 _ by rw [hw1]; exact H.out)
  rw [← hw1]
  clear hw1 H
  refine ⟨trivial, ?_⟩
  refine (callsIn_wide.2 (ups_calls A0 l0.length c0 A1 l1.length c1 A2 l2.length c2 A3 l3.length c3 a w1)).mono ?_
  rintro e w2 ⟨rfl, rfl⟩
  gi_wp2
  refine wpIn_rangeFunc_ownC rfl h13 (gf := 76) (lb := #[.pointer (some ⟨w1.heap.size, 0, none⟩), .pointer (some ⟨w1.heap.size + 1, 0, none⟩)]) rfl trivial (enters_of Try.func76 (by kernel_rfl) rfl)
    (ups1_seq 2 (by omega) w w1.heap.size (w1.heap.size + 1) (by omega) (by omega) A0 c0 l0 A1 c1 l1 A2 c2 l2 A3 c3 l3 HW.out (by omega) a)
    (by simp) (fun o o' => ⟨((((H1.out.below.alloc (by omega) _).alloc (by simp; omega) _).alloc (by simp; omega) _).alloc (by simp; omega) _), ?pre1, ?pre2⟩) kpU_t (fun W l o o' hl h _ _ => kpU_b (N := w1.heap.size + 1 + 1) (by omega) (by omega) (by omega) W l o o' (by simpa using hl) h) (fun _ => rfl)
    (fun pre W => AppI w (w1.heap.size + 1 + 1) (w1.heap.size + 1 + 1) (w.heap.size + 1) [(w.heap.size, 54, [.slice A0 l0.length c0, .slice A1 l1.length c1, .slice A2 l2.length c2, .slice A3 l3.length c3])] (ifsI l0 pre) W ∧ (ifsI l0 pre).length ≤ pre.length * M)
    (fun c pre W => False)
    (fun s A B row hs hg hr => ⟨AppI.own hs.1 hg hr (by simp; omega) (by omega) (by omega) (by omega) (by simp; omega), hs.2⟩)
    (fun c s A B row hs hg hr => hs)
    ?start
    (fun x => { tmps := #[.agg #[.slice A0 l0.length c0, .slice A1 l1.length c1, .slice A2 l2.length c2, .slice A3 l3.length c3], .int .i64 a, .pointer (some ⟨w.heap.size, 0, none⟩), undef, .slice none 0 0, .pointer (some ⟨w.heap.size + 1, 0, none⟩), .int .i64 x.1, undef, undef, .agg #[.slice A0 l0.length c0, .slice A1 l1.length c1, .slice A2 l2.length c2, .slice A3 l3.length c3], .int .i64 a, .func (.func 76) #[] #[.pointer (some ⟨w1.heap.size, 0, none⟩), .pointer (some ⟨w1.heap.size + 1, 0, none⟩)], .int .i64 x.1, undef, undef, undef, undef, undef, undef, undef, undef, undef, undef, undef, undef, undef, undef, undef, undef, undef, undef, undef, undef, undef, undef, undef, undef, undef, undef, undef, undef, undef, undef, undef, undef, undef, undef, undef, undef, undef, undef], defers := [] }) ?assign ?body ?done ?stop
  case pre1 => exact ((((below_alloc (Below.refl _ ((w1.alloc _).alloc _)) o).trans (below_alloc (Below.refl _ _) o' |>.mono (by simp))).block _ (by simp; omega)).trans ((Below.heap_alloc (w1.alloc _) _ _ (by simp)).trans (blk_new w1 _)))
  case pre2 => exact ((((below_alloc (Below.refl _ ((w1.alloc _).alloc _)) o).trans (below_alloc (Below.refl _ _) o' |>.mono (by simp))).block _ (by simp)).trans (by simpa using blk_new (w1.alloc (.cells #[.slice A0 l0.length c0, .slice A1 l1.length c1, .slice A2 l2.length c2, .slice A3 l3.length c3] 54)) (.cells #[.int .i64 a] 3)))
  case start =>
    have hb2 := (below_alloc (below_alloc (Below.refl w1.heap.size w1) (.cells #[.slice A0 l0.length c0, .slice A1 l1.length c1, .slice A2 l2.length c2, .slice A3 l3.length c3] 54)) (.cells #[.int .i64 a] 3))
    refine ⟨⟨(H1.out.below.alloc (by omega) _).alloc (by simp; omega) _, by simp, ⟨.slice none 0 0, (hb2.block _ (H1.out.all 1 _ rfl).1).trans (H1.out.B 1 rfl), rfl, .inl ⟨rfl, rfl⟩⟩, fun p hp => ?_⟩, by simp [ifsI]⟩
    obtain rfl := List.mem_singleton.1 hp
    exact (hb2.block _ (H1.out.all 0 _ rfl).1).trans (H1.out.B 0 rfl)
  case assign =>
    intro l x W K hK
    gi_wp2
    exact hK
  case body =>
    rintro l pre x W ⟨hI, hn⟩ hlt
    have HI := Aside0.mk hI
    have HN := Aside0.mk hn
    obtain ⟨hx0, hx1⟩ := x.2
    obtain ⟨ad, B3, b3, B4_, b4_, B5_, b5_, B6_, b6_, e_, -, -, -, r3_, -, -, -, hb3_, hc3_, -⟩ := at_T110 HW.out.r0 x.1 hx0 hx1
    subst e_
    have R3 := Aside0.mk r3_
    have C3 := Aside0.mk hc3_
    clear r3_ hc3_
    obtain ⟨k0, k1, k2, k3⟩ := blk54 (hI.blk (w.heap.size, 54, [.slice (some ad) l0.length c0, .slice A1 l1.length c1, .slice A2 l2.length c2, .slice A3 l3.length c3]) (by simp))
    have HWW := Aside0.mk (HW.out.step hI.below)
    have hIs := hI.size
    clear hI hn
    gi_wp2_with fail
    refine ⟨trivial, ?_⟩
    refine (CallsIn.inRound l (callsIn_wide.2 (hier_iface.calls (some ad) c0 l0 A1 c1 l1 A2 c2 l2 A3 c3 l3 x.1 _ _ HWW.out.r0 HWW.out.h0 HWW.out.r1 HWW.out.h1 HWW.out.r2 HWW.out.h2 HWW.out.r3 HWW.out.h3 (iface_of x.2 rfl)))).mono ?_
    rintro e w5 ⟨rfl, hb3⟩
    have HI5 := Aside0.mk (HI.out.step hb3)
    have HR5 := Aside0.mk (RelU.of_below (n := w.heap.size) (Bw := w1.heap.size) (Ba := w1.heap.size + 1) hb3 (by omega) (by omega) (by omega))
    have hI5s := HI5.out.size
    clear k0 k1 k2 k3 hb3 HWW HI
    have hpm : (pre.length + 1) * M ≤ (l0.length + 1) * M := Nat.mul_le_mul_right _ (by omega)
    rw [Nat.add_mul, Nat.one_mul] at hpm
    have hxm := hM x
    have hno := HN.out
    by_cases hx : isIf l0 x.1 = true
    · have HX := Aside0.mk hx
      obtain ⟨v, hv, hrow⟩ := HI5.out.box
      have HV_ := Aside0.mk hv
      have HR_ := Aside0.mk hrow
      have f2 : w5.cell? ⟨w.heap.size + 1, 0, none⟩ = some v := Boxed.cell hv
      have f3 : w5.frozen? ⟨w.heap.size + 1, 0, none⟩ = false := Boxed.frozen hv
      clear hv hrow
      rw [hx]
      clear hx
      gi_wp2_with (first
      | (gi_at_builtin; refine wpListIn_append_own _ rfl _ _ 23 rfl (w1.heap.size + 1 + 1) 3 i0 (.int .i64 0) 1 8 Try.underlying23 hi'.out hz0 hz1 hz2 rfl (by decide) _ _ _ rfl (HR_.out.alloc _) ⟨w5.heap.size, 0, none⟩ 1 1 [.int .i64 x.1] rfl rfl (cell_one_new _ _ _) (by simp [Value.oneCell']) (by simp only [maxLen]; omega) (by omega) (by simp; omega) ?_; intro v_ w_ hown_ hg_ hnil_
         obtain ⟨g_, cap_, rfl⟩ := ownsRow_succ hown_
         have f3_ : w_.frozen? ⟨w.heap.size + 1, 0, none⟩ = false := Boxed.frozen (Boxed.kept (Boxed.alloc HV_.out _) hg_ (Boxed.not_row HV_.out (by decide) HR_.out))
         have f2_ : w_.cell? ⟨w.heap.size + 1, 0, none⟩ = some v := Boxed.cell (Boxed.kept (Boxed.alloc HV_.out _) hg_ (Boxed.not_row HV_.out (by decide) HR_.out))
         have hP_ := AppI.pushU (Bw := w1.heap.size) (Ba := w1.heap.size + 1) (by omega) (by omega) HI5.out HV_.out HR_.out hown_ hg_ (by simp) (by omega) (by omega) (by omega) (by omega) (by omega)
         obtain ⟨w6, hW6⟩ : ∃ w6, w_.setCell ⟨w.heap.size + 1, 0, none⟩ (.slice (some ⟨g_, 0, none⟩) ((ifsI l0 pre).length + 1) cap_) = w6 := ⟨_, rfl⟩
         rw [hW6] at hP_
         have P6 := Aside0.mk hP_.1
         have R6 := Aside0.mk (HR5.out.trans hP_.2)
         clear hP_
         obtain ⟨k0, k1, k2, k3⟩ := blk54 (P6.out.blk (w.heap.size, 54, [.slice (some ad) l0.length c0, .slice A1 l1.length c1, .slice A2 l2.length c2, .slice A3 l3.length c3]) (by simp))
         have r3 : w6.cell? ⟨(ad.add (x.1.toNat * 7)).block, (ad.add (x.1.toNat * 7)).off + 3, none⟩ = some (.slice B3 (rd_T110 l0 x.1).f3.length b3) := (P6.out.below.cell (World.block_lt_of_cell? w _ R3.out)).trans R3.out)
      | fail)
      clear hW6 f2_ f3_ hown_ hg_ hnil_ f2 f3 HV_ HR_ HI5 HR5
      have HCOL := Aside0.mk (show ifsI l0 (pre ++ [x]) = ifsI l0 pre ++ [x.1] ++ ownI l0 (rd_T110 l0 x.1).f3 by rw [ifsI_snoc]; unfold colI; rw [HX.out, if_pos rfl, List.append_assoc])
      gi_wp2
      gi_loopw [8, 27] (fun v8 i wr => ∃ k : Nat, k ≤ (rd_T110 l0 x.1).f3.length ∧ i = .int .i64 k ∧ Aside0 (AppI w (w1.heap.size + 1 + 1) (w1.heap.size + 1 + 1) (w.heap.size + 1) [(w.heap.size, 54, [.slice (some ad) l0.length c0, .slice A1 l1.length c1, .slice A2 l2.length c2, .slice A3 l3.length c3])] ((ifsI l0 pre ++ [x.1]) ++ ownI l0 ((rd_T110 l0 x.1).f3.take k)) wr) ∧ Aside0 (RelU w.heap.size w1.heap.size (w1.heap.size + 1) W wr)) (fun _ i _ => (rd_T110 l0 x.1).f3.length - (intOf i).toNat)
      case atStart => exact ⟨0, Nat.zero_le _, rfl, ⟨by simpa [ownI] using P6.out⟩, R6⟩
      case round =>
        clear k0 k1 k2 k3 r3 P6 R6
        obtain ⟨k, hk, rfl, PK, RK⟩ := hrel
        by_cases hlt2 : k < (rd_T110 l0 x.1).f3.length
        · obtain ⟨ad4, B4, b4, e_, r4_, r5_, -, -⟩ := at_T107 (Kd.C_below C3.out PK.out.below) (k : Int) (by omega) (by omega)
          subst e_
          simp only [Int.toNat_natCast] at r4_ r5_
          obtain ⟨zs, hzs⟩ : ∃ zs, (ifsI l0 pre ++ [x.1]) ++ ownI l0 ((rd_T110 l0 x.1).f3.take k) = zs := ⟨_, rfl⟩
          rw [hzs] at PK
          have HZ := Aside0.mk hzs
          clear hzs
          have HT := Aside0.mk (ownI_take l0 (rd_T110 l0 x.1).f3 k hlt2)
          have hPs := PK.out.size
          have BV := below_alloc (Below.refl wr.heap.size wr) (.cells #[.int .i64 (rd_T107 (rd_T110 l0 x.1).f3 (k : Int)).f0, .slice B4 (rd_T107 (rd_T110 l0 x.1).f3 (k : Int)).f1.length b4] 107)
          have BN := blk_new wr (.cells #[.int .i64 (rd_T107 (rd_T110 l0 x.1).f3 (k : Int)).f0, .slice B4 (rd_T107 (rd_T110 l0 x.1).f3 (k : Int)).f1.length b4] 107)
          obtain ⟨V, hV⟩ : ∃ V, wr.alloc (.cells #[.int .i64 (rd_T107 (rd_T110 l0 x.1).f3 (k : Int)).f0, .slice B4 (rd_T107 (rd_T110 l0 x.1).f3 (k : Int)).f1.length b4] 107) = V := ⟨_, rfl⟩
          rw [hV] at BV BN
          have PV := Aside0.mk (PK.out.step BV)
          have RV := Aside0.mk (RK.out.trans (RelU.of_below (n := w.heap.size) (Bw := w1.heap.size) (Ba := w1.heap.size + 1) BV (by omega) (by omega) (by omega)))
          have NV := Aside0.mk BN
          have hNs : wr.heap.size < V.heap.size := (Array.getElem?_eq_some_iff.1 BN).1
          have HWV := Aside0.mk (HW.out.step PV.out.below)
          clear BV BN PK RK
          obtain ⟨k0, k1, k2, k3⟩ := blk54 (PV.out.blk (w.heap.size, 54, [.slice (some ad) l0.length c0, .slice A1 l1.length c1, .slice A2 l2.length c2, .slice A3 l3.length c3]) (by simp))
          have n0 : V.cell? ⟨wr.heap.size, 0, none⟩ = some (.int .i64 (rd_T107 (rd_T110 l0 x.1).f3 (k : Int)).f0) := blk_cell NV.out 0
          by_cases ht : 0 ≤ (rd_T107 (rd_T110 l0 x.1).f3 (k : Int)).f0 ∧ (rd_T107 (rd_T110 l0 x.1).f3 (k : Int)).f0 < (l0.length : Int)
          · have HTT := Aside0.mk ht
            clear ht
            gi_wp2_with fail
            refine ⟨trivial, ?_⟩
            refine (CallsIn.inRound l (callsIn_wide.2 (hier_there.calls (some ad) c0 l0 A1 c1 l1 A2 c2 l2 A3 c3 l3 _ true _ HWV.out.r0 HWV.out.h0 HWV.out.r1 HWV.out.h1 HWV.out.r2 HWV.out.h2 HWV.out.r3 HWV.out.h3 (there_true HTT.out)))).mono ?_
            rintro e V2 ⟨rfl, hb⟩
            have PV2 := Aside0.mk (PV.out.step hb)
            have hPs2 := PV.out.size
            have RV2 := Aside0.mk (RV.out.trans (RelU.of_below (n := w.heap.size) (Bw := w1.heap.size) (Ba := w1.heap.size + 1) hb (by omega) (by omega) (by omega)))
            have NV2 := Aside0.mk ((hb.block _ hNs).trans NV.out)
            have HWV2 := Aside0.mk (HW.out.step PV2.out.below)
            have hNs2 : wr.heap.size < V2.heap.size := Nat.lt_of_lt_of_le hNs hb.size
            clear hb k0 k1 k2 k3 n0 PV RV NV HWV r4_ r5_ hV
            obtain ⟨k0, k1, k2, k3⟩ := blk54 (PV2.out.blk (w.heap.size, 54, [.slice (some ad) l0.length c0, .slice A1 l1.length c1, .slice A2 l2.length c2, .slice A3 l3.length c3]) (by simp))
            have n0 : V2.cell? ⟨wr.heap.size, 0, none⟩ = some (.int .i64 (rd_T107 (rd_T110 l0 x.1).f3 (k : Int)).f0) := blk_cell NV2.out 0
            gi_wp2_with fail
            refine ⟨trivial, ?_⟩
            refine (CallsIn.inRound l (callsIn_wide.2 (hier_iface.calls (some ad) c0 l0 A1 c1 l1 A2 c2 l2 A3 c3 l3 _ _ _ HWV2.out.r0 HWV2.out.h0 HWV2.out.r1 HWV2.out.h1 HWV2.out.r2 HWV2.out.h2 HWV2.out.r3 HWV2.out.h3 (iface_of HTT.out rfl)))).mono ?_
            rintro e V3 ⟨rfl, hb⟩
            have PV3 := Aside0.mk (PV2.out.step hb)
            have hPs3 := PV2.out.size
            have hPs4 := PV3.out.size
            have RV3 := Aside0.mk (RV2.out.trans (RelU.of_below (n := w.heap.size) (Bw := w1.heap.size) (Ba := w1.heap.size + 1) hb (by omega) (by omega) (by omega)))
            have NV3 := Aside0.mk ((hb.block _ hNs2).trans NV2.out)
            clear hb k0 k1 k2 k3 n0 PV2 RV2 NV2 HWV2
            have n0 : V3.cell? ⟨wr.heap.size, 0, none⟩ = some (.int .i64 (rd_T107 (rd_T110 l0 x.1).f3 (k : Int)).f0) := blk_cell NV3.out 0
            by_cases hx2 : isIf l0 (rd_T107 (rd_T110 l0 x.1).f3 (k : Int)).f0 = true
            · have HX2 := Aside0.mk hx2
              obtain ⟨v2, hv, hrow⟩ := PV3.out.box
              have HV_ := Aside0.mk hv
              have HR_ := Aside0.mk hrow
              have f2 : V3.cell? ⟨w.heap.size + 1, 0, none⟩ = some v2 := Boxed.cell hv
              have f3 : V3.frozen? ⟨w.heap.size + 1, 0, none⟩ = false := Boxed.frozen hv
              clear hv hrow
              have hol := ownI_le l0 ((rd_T110 l0 x.1).f3.take k)
              rw [List.length_take] at hol
              have hxl : zs.length + 1 ≤ pre.length * M + M := by
                rw [← HZ.out]
                simp only [List.length_append, List.length_cons, List.length_nil]
                omega
              rw [hx2]
              clear hx2
              gi_wp2_with (first
                | (gi_at_builtin; refine wpListIn_append_own _ rfl _ _ 23 rfl (w1.heap.size + 1 + 1) 3 i0 (.int .i64 0) 1 8 Try.underlying23 hi'.out hz0 hz1 hz2 rfl (by decide) _ _ _ rfl (HR_.out.alloc _) ⟨V3.heap.size, 0, none⟩ 1 1 [.int .i64 (rd_T107 (rd_T110 l0 x.1).f3 (k : Int)).f0] rfl rfl (cell_one_new _ _ _) (by simp [Value.oneCell']) (by simp only [maxLen]; omega) (by omega) (by simp; omega) ?_; intro v_ w_ hown_ hg_ hnil_
                   obtain ⟨g_, cap_, rfl⟩ := ownsRow_succ hown_
                   have f3_ : w_.frozen? ⟨w.heap.size + 1, 0, none⟩ = false := Boxed.frozen (Boxed.kept (Boxed.alloc HV_.out _) hg_ (Boxed.not_row HV_.out (by decide) HR_.out))
                   have f2_ : w_.cell? ⟨w.heap.size + 1, 0, none⟩ = some v2 := Boxed.cell (Boxed.kept (Boxed.alloc HV_.out _) hg_ (Boxed.not_row HV_.out (by decide) HR_.out))
                   have hP_ := AppI.pushU (Bw := w1.heap.size) (Ba := w1.heap.size + 1) (by omega) (by omega) PV3.out HV_.out HR_.out hown_ hg_ (by simp) (by omega) (by omega) (by omega) (by omega) (by omega)
                   obtain ⟨V4, hV4⟩ : ∃ V4, w_.setCell ⟨w.heap.size + 1, 0, none⟩ (.slice (some ⟨g_, 0, none⟩) (zs.length + 1) cap_) = V4 := ⟨_, rfl⟩
                   rw [hV4] at hP_
                   have P4 := Aside0.mk hP_.1
                   have R4 := Aside0.mk (RV3.out.trans hP_.2)
                   clear hP_)
                | fail)
              refine ⟨⟨k + 1, by omega, by simp, ⟨by rw [HT.out, show okI l0 (rd_T107 (rd_T110 l0 x.1).f3 (k : Int)).f0 = true by unfold okI inB; rw [decide_eq_true HTT.out, HX2.out]; rfl, if_pos rfl, ← List.append_assoc, HZ.out]; exact P4.out⟩, R4⟩, by simp [intOf]; omega⟩
            · have hx3 : isIf l0 (rd_T107 (rd_T110 l0 x.1).f3 (k : Int)).f0 = false := by simpa using hx2
              have HX2 := Aside0.mk hx3
              rw [hx3]
              clear hx2 hx3
              gi_wp2
              refine ⟨⟨k + 1, by omega, by simp, ⟨by rw [HT.out, show okI l0 (rd_T107 (rd_T110 l0 x.1).f3 (k : Int)).f0 = false by unfold okI; rw [HX2.out, Bool.and_false]]; rw [if_neg (by decide), List.append_nil, HZ.out]; exact PV3.out⟩, RV3⟩, by simp [intOf]; omega⟩
          · have HTT := Aside0.mk ht
            clear ht
            gi_wp2_with fail
            refine ⟨trivial, ?_⟩
            refine (CallsIn.inRound l (callsIn_wide.2 (hier_there.calls (some ad) c0 l0 A1 c1 l1 A2 c2 l2 A3 c3 l3 _ false _ HWV.out.r0 HWV.out.h0 HWV.out.r1 HWV.out.h1 HWV.out.r2 HWV.out.h2 HWV.out.r3 HWV.out.h3 (there_false HTT.out)))).mono ?_
            rintro e V2 ⟨rfl, hb⟩
            have PV2 := Aside0.mk (PV.out.step hb)
            have hPs2 := PV.out.size
            have RV2 := Aside0.mk (RV.out.trans (RelU.of_below (n := w.heap.size) (Bw := w1.heap.size) (Ba := w1.heap.size + 1) hb (by omega) (by omega) (by omega)))
            clear hb k0 k1 k2 k3 n0 PV RV NV HWV r4_ r5_ hV
            gi_wp2
            refine ⟨trivial, ?_⟩
            gi_wp2
            exact ⟨⟨k + 1, by omega, by simp, ⟨by rw [HT.out, show okI l0 (rd_T107 (rd_T110 l0 x.1).f3 (k : Int)).f0 = false by unfold okI inB; rw [decide_eq_false HTT.out, Bool.false_and], if_neg (by decide), List.append_nil, HZ.out]; exact PV2.out⟩, RV2⟩, by simp [intOf]; omega⟩
        · obtain rfl : k = (rd_T110 l0 x.1).f3.length := by omega
          rw [List.take_length] at PK
          clear hk
          gi_wp2
          refine ⟨RK.out.1, RK.out.2, ?_⟩
          show AppI _ _ _ _ _ (ifsI l0 (pre ++ [x])) wr ∧ (ifsI l0 (pre ++ [x])).length ≤ (pre ++ [x]).length * M
          rw [HCOL.out]
          refine ⟨PK.out, ?_⟩
          have hoi := ownI_le l0 (rd_T110 l0 x.1).f3
          simp only [List.length_append, List.length_cons, List.length_nil, Nat.add_mul, Nat.one_mul]
          omega
    · have hx2 : isIf l0 x.1 = false := by simpa using hx
      have HCOL := Aside0.mk (show ifsI l0 (pre ++ [x]) = ifsI l0 pre ++ ownI l0 (rd_T110 l0 x.1).f3 by rw [ifsI_snoc]; unfold colI; rw [hx2, if_neg (by decide), List.nil_append])
      rw [hx2]
      clear hx hx2
      obtain ⟨k0, k1, k2, k3⟩ := blk54 (HI5.out.blk (w.heap.size, 54, [.slice (some ad) l0.length c0, .slice A1 l1.length c1, .slice A2 l2.length c2, .slice A3 l3.length c3]) (by simp))
      have r3 : w5.cell? ⟨(ad.add (x.1.toNat * 7)).block, (ad.add (x.1.toNat * 7)).off + 3, none⟩ = some (.slice B3 (rd_T110 l0 x.1).f3.length b3) := (HI5.out.below.cell (World.block_lt_of_cell? w _ R3.out)).trans R3.out
      gi_wp2
      gi_loopw [8, 27] (fun v8 i wr => ∃ k : Nat, k ≤ (rd_T110 l0 x.1).f3.length ∧ i = .int .i64 k ∧ Aside0 (AppI w (w1.heap.size + 1 + 1) (w1.heap.size + 1 + 1) (w.heap.size + 1) [(w.heap.size, 54, [.slice (some ad) l0.length c0, .slice A1 l1.length c1, .slice A2 l2.length c2, .slice A3 l3.length c3])] (ifsI l0 pre ++ ownI l0 ((rd_T110 l0 x.1).f3.take k)) wr) ∧ Aside0 (RelU w.heap.size w1.heap.size (w1.heap.size + 1) W wr)) (fun _ i _ => (rd_T110 l0 x.1).f3.length - (intOf i).toNat)
      case atStart => exact ⟨0, Nat.zero_le _, rfl, ⟨by simpa [ownI] using HI5.out⟩, HR5⟩
      case round =>
        clear k0 k1 k2 k3 r3 HI5 HR5
        obtain ⟨k, hk, rfl, PK, RK⟩ := hrel
        by_cases hlt2 : k < (rd_T110 l0 x.1).f3.length
        · obtain ⟨ad4, B4, b4, e_, r4_, r5_, -, -⟩ := at_T107 (Kd.C_below C3.out PK.out.below) (k : Int) (by omega) (by omega)
          subst e_
          simp only [Int.toNat_natCast] at r4_ r5_
          obtain ⟨zs, hzs⟩ : ∃ zs, ifsI l0 pre ++ ownI l0 ((rd_T110 l0 x.1).f3.take k) = zs := ⟨_, rfl⟩
          rw [hzs] at PK
          have HZ := Aside0.mk hzs
          clear hzs
          have HT := Aside0.mk (ownI_take l0 (rd_T110 l0 x.1).f3 k hlt2)
          have hPs := PK.out.size
          have BV := below_alloc (Below.refl wr.heap.size wr) (.cells #[.int .i64 (rd_T107 (rd_T110 l0 x.1).f3 (k : Int)).f0, .slice B4 (rd_T107 (rd_T110 l0 x.1).f3 (k : Int)).f1.length b4] 107)
          have BN := blk_new wr (.cells #[.int .i64 (rd_T107 (rd_T110 l0 x.1).f3 (k : Int)).f0, .slice B4 (rd_T107 (rd_T110 l0 x.1).f3 (k : Int)).f1.length b4] 107)
          obtain ⟨V, hV⟩ : ∃ V, wr.alloc (.cells #[.int .i64 (rd_T107 (rd_T110 l0 x.1).f3 (k : Int)).f0, .slice B4 (rd_T107 (rd_T110 l0 x.1).f3 (k : Int)).f1.length b4] 107) = V := ⟨_, rfl⟩
          rw [hV] at BV BN
          have PV := Aside0.mk (PK.out.step BV)
          have RV := Aside0.mk (RK.out.trans (RelU.of_below (n := w.heap.size) (Bw := w1.heap.size) (Ba := w1.heap.size + 1) BV (by omega) (by omega) (by omega)))
          have NV := Aside0.mk BN
          have hNs : wr.heap.size < V.heap.size := (Array.getElem?_eq_some_iff.1 BN).1
          have HWV := Aside0.mk (HW.out.step PV.out.below)
          clear BV BN PK RK
          obtain ⟨k0, k1, k2, k3⟩ := blk54 (PV.out.blk (w.heap.size, 54, [.slice (some ad) l0.length c0, .slice A1 l1.length c1, .slice A2 l2.length c2, .slice A3 l3.length c3]) (by simp))
          have n0 : V.cell? ⟨wr.heap.size, 0, none⟩ = some (.int .i64 (rd_T107 (rd_T110 l0 x.1).f3 (k : Int)).f0) := blk_cell NV.out 0
          by_cases ht : 0 ≤ (rd_T107 (rd_T110 l0 x.1).f3 (k : Int)).f0 ∧ (rd_T107 (rd_T110 l0 x.1).f3 (k : Int)).f0 < (l0.length : Int)
          · have HTT := Aside0.mk ht
            clear ht
            gi_wp2_with fail
            refine ⟨trivial, ?_⟩
            refine (CallsIn.inRound l (callsIn_wide.2 (hier_there.calls (some ad) c0 l0 A1 c1 l1 A2 c2 l2 A3 c3 l3 _ true _ HWV.out.r0 HWV.out.h0 HWV.out.r1 HWV.out.h1 HWV.out.r2 HWV.out.h2 HWV.out.r3 HWV.out.h3 (there_true HTT.out)))).mono ?_
            rintro e V2 ⟨rfl, hb⟩
            have PV2 := Aside0.mk (PV.out.step hb)
            have hPs2 := PV.out.size
            have RV2 := Aside0.mk (RV.out.trans (RelU.of_below (n := w.heap.size) (Bw := w1.heap.size) (Ba := w1.heap.size + 1) hb (by omega) (by omega) (by omega)))
            have NV2 := Aside0.mk ((hb.block _ hNs).trans NV.out)
            have HWV2 := Aside0.mk (HW.out.step PV2.out.below)
            have hNs2 : wr.heap.size < V2.heap.size := Nat.lt_of_lt_of_le hNs hb.size
            clear hb k0 k1 k2 k3 n0 PV RV NV HWV r4_ r5_ hV
            obtain ⟨k0, k1, k2, k3⟩ := blk54 (PV2.out.blk (w.heap.size, 54, [.slice (some ad) l0.length c0, .slice A1 l1.length c1, .slice A2 l2.length c2, .slice A3 l3.length c3]) (by simp))
            have n0 : V2.cell? ⟨wr.heap.size, 0, none⟩ = some (.int .i64 (rd_T107 (rd_T110 l0 x.1).f3 (k : Int)).f0) := blk_cell NV2.out 0
            gi_wp2_with fail
            refine ⟨trivial, ?_⟩
            refine (CallsIn.inRound l (callsIn_wide.2 (hier_iface.calls (some ad) c0 l0 A1 c1 l1 A2 c2 l2 A3 c3 l3 _ _ _ HWV2.out.r0 HWV2.out.h0 HWV2.out.r1 HWV2.out.h1 HWV2.out.r2 HWV2.out.h2 HWV2.out.r3 HWV2.out.h3 (iface_of HTT.out rfl)))).mono ?_
            rintro e V3 ⟨rfl, hb⟩
            have PV3 := Aside0.mk (PV2.out.step hb)
            have hPs3 := PV2.out.size
            have hPs4 := PV3.out.size
            have RV3 := Aside0.mk (RV2.out.trans (RelU.of_below (n := w.heap.size) (Bw := w1.heap.size) (Ba := w1.heap.size + 1) hb (by omega) (by omega) (by omega)))
            have NV3 := Aside0.mk ((hb.block _ hNs2).trans NV2.out)
            clear hb k0 k1 k2 k3 n0 PV2 RV2 NV2 HWV2
            have n0 : V3.cell? ⟨wr.heap.size, 0, none⟩ = some (.int .i64 (rd_T107 (rd_T110 l0 x.1).f3 (k : Int)).f0) := blk_cell NV3.out 0
            by_cases hx2 : isIf l0 (rd_T107 (rd_T110 l0 x.1).f3 (k : Int)).f0 = true
            · have HX2 := Aside0.mk hx2
              obtain ⟨v2, hv, hrow⟩ := PV3.out.box
              have HV_ := Aside0.mk hv
              have HR_ := Aside0.mk hrow
              have f2 : V3.cell? ⟨w.heap.size + 1, 0, none⟩ = some v2 := Boxed.cell hv
              have f3 : V3.frozen? ⟨w.heap.size + 1, 0, none⟩ = false := Boxed.frozen hv
              clear hv hrow
              have hol := ownI_le l0 ((rd_T110 l0 x.1).f3.take k)
              rw [List.length_take] at hol
              have hxl : zs.length + 1 ≤ pre.length * M + M := by
                rw [← HZ.out]
                simp only [List.length_append, List.length_cons, List.length_nil]
                omega
              rw [hx2]
              clear hx2
              gi_wp2_with (first
                | (gi_at_builtin; refine wpListIn_append_own _ rfl _ _ 23 rfl (w1.heap.size + 1 + 1) 3 i0 (.int .i64 0) 1 8 Try.underlying23 hi'.out hz0 hz1 hz2 rfl (by decide) _ _ _ rfl (HR_.out.alloc _) ⟨V3.heap.size, 0, none⟩ 1 1 [.int .i64 (rd_T107 (rd_T110 l0 x.1).f3 (k : Int)).f0] rfl rfl (cell_one_new _ _ _) (by simp [Value.oneCell']) (by simp only [maxLen]; omega) (by omega) (by simp; omega) ?_; intro v_ w_ hown_ hg_ hnil_
                   obtain ⟨g_, cap_, rfl⟩ := ownsRow_succ hown_
                   have f3_ : w_.frozen? ⟨w.heap.size + 1, 0, none⟩ = false := Boxed.frozen (Boxed.kept (Boxed.alloc HV_.out _) hg_ (Boxed.not_row HV_.out (by decide) HR_.out))
                   have f2_ : w_.cell? ⟨w.heap.size + 1, 0, none⟩ = some v2 := Boxed.cell (Boxed.kept (Boxed.alloc HV_.out _) hg_ (Boxed.not_row HV_.out (by decide) HR_.out))
                   have hP_ := AppI.pushU (Bw := w1.heap.size) (Ba := w1.heap.size + 1) (by omega) (by omega) PV3.out HV_.out HR_.out hown_ hg_ (by simp) (by omega) (by omega) (by omega) (by omega) (by omega)
                   obtain ⟨V4, hV4⟩ : ∃ V4, w_.setCell ⟨w.heap.size + 1, 0, none⟩ (.slice (some ⟨g_, 0, none⟩) (zs.length + 1) cap_) = V4 := ⟨_, rfl⟩
                   rw [hV4] at hP_
                   have P4 := Aside0.mk hP_.1
                   have R4 := Aside0.mk (RV3.out.trans hP_.2)
                   clear hP_)
                | fail)
              refine ⟨⟨k + 1, by omega, by simp, ⟨by rw [HT.out, show okI l0 (rd_T107 (rd_T110 l0 x.1).f3 (k : Int)).f0 = true by unfold okI inB; rw [decide_eq_true HTT.out, HX2.out]; rfl, if_pos rfl, ← List.append_assoc, HZ.out]; exact P4.out⟩, R4⟩, by simp [intOf]; omega⟩
            · have hx3 : isIf l0 (rd_T107 (rd_T110 l0 x.1).f3 (k : Int)).f0 = false := by simpa using hx2
              have HX2 := Aside0.mk hx3
              rw [hx3]
              clear hx2 hx3
              gi_wp2
              refine ⟨⟨k + 1, by omega, by simp, ⟨by rw [HT.out, show okI l0 (rd_T107 (rd_T110 l0 x.1).f3 (k : Int)).f0 = false by unfold okI; rw [HX2.out, Bool.and_false]]; rw [if_neg (by decide), List.append_nil, HZ.out]; exact PV3.out⟩, RV3⟩, by simp [intOf]; omega⟩
          · have HTT := Aside0.mk ht
            clear ht
            gi_wp2_with fail
            refine ⟨trivial, ?_⟩
            refine (CallsIn.inRound l (callsIn_wide.2 (hier_there.calls (some ad) c0 l0 A1 c1 l1 A2 c2 l2 A3 c3 l3 _ false _ HWV.out.r0 HWV.out.h0 HWV.out.r1 HWV.out.h1 HWV.out.r2 HWV.out.h2 HWV.out.r3 HWV.out.h3 (there_false HTT.out)))).mono ?_
            rintro e V2 ⟨rfl, hb⟩
            have PV2 := Aside0.mk (PV.out.step hb)
            have hPs2 := PV.out.size
            have RV2 := Aside0.mk (RV.out.trans (RelU.of_below (n := w.heap.size) (Bw := w1.heap.size) (Ba := w1.heap.size + 1) hb (by omega) (by omega) (by omega)))
            clear hb k0 k1 k2 k3 n0 PV RV NV HWV r4_ r5_ hV
            gi_wp2
            refine ⟨trivial, ?_⟩
            gi_wp2
            exact ⟨⟨k + 1, by omega, by simp, ⟨by rw [HT.out, show okI l0 (rd_T107 (rd_T110 l0 x.1).f3 (k : Int)).f0 = false by unfold okI inB; rw [decide_eq_false HTT.out, Bool.false_and], if_neg (by decide), List.append_nil, HZ.out]; exact PV2.out⟩, RV2⟩, by simp [intOf]; omega⟩
        · obtain rfl : k = (rd_T110 l0 x.1).f3.length := by omega
          rw [List.take_length] at PK
          clear hk
          gi_wp2
          refine ⟨RK.out.1, RK.out.2, ?_⟩
          show AppI _ _ _ _ _ (ifsI l0 (pre ++ [x])) wr ∧ (ifsI l0 (pre ++ [x])).length ≤ (pre ++ [x]).length * M
          rw [HCOL.out]
          refine ⟨PK.out, ?_⟩
          have hoi := ownI_le l0 (rd_T110 l0 x.1).f3
          simp only [List.length_append, List.length_cons, List.length_nil, Nat.add_mul, Nat.one_mul]
          omega
  case done =>
    rintro D ys W hD rfl ⟨hI, hn⟩ hK
    have HI := Aside0.mk hI
    obtain ⟨v, hv, hrow⟩ := hI.box
    have f2 : W.cell? ⟨w.heap.size + 1, 0, none⟩ = some v := Boxed.cell hv
    have HV_ := Aside0.mk hv
    have HR_ := Aside0.mk hrow
    have HK_ := Aside0.mk hK
    have hul := Nat.mul_le_mul_right M (upsL_le l0 (l0.length + 1) a)
    have HL := Aside0.mk (show (ifsI l0 (upsL l0 (l0.length + 1) a)).length < 4611686018427387904 by omega)
    have HLS := Aside0.mk (show (srt (ifsI l0 (upsL l0 (l0.length + 1) a))).length < 4611686018427387904 by rw [srt_length]; exact HL.out)
    have hsz := HI.out.size
    clear hI hv hrow hK hn hul
    gi_wp2_with fail
    refine ⟨trivial, ?_⟩
    refine (callsIn_wide.2 (sort_own HR_.out HL.out)).mono ?_
    rintro e W2 ⟨rfl, hrow2, hg2⟩
    have B2 := Aside0.mk (HI.out.below.grown hg2 HI.out.below.size (fun k e => Nat.le_trans (show w.heap.size ≤ w1.heap.size + 1 + 1 by omega) (HR_.out.lt k e).1))
    have V2 := Aside0.mk (Boxed.kept HV_.out hg2 (Boxed.not_row HV_.out (by decide) HR_.out))
    have K2 := Aside0.mk ((hg2.block D (Array.getElem?_eq_some_iff.1 HK_.out).1 (row_ne HR_.out HK_.out rfl)).trans HK_.out)
    have R2 := Aside0.mk hrow2
    clear hrow2 hg2 f2
    have f2 : W2.cell? ⟨w.heap.size + 1, 0, none⟩ = some v := Boxed.cell V2.out
    gi_wp2_with fail
    refine ⟨trivial, ?_⟩
    refine (callsIn_wide.2 (compact_own R2.out HLS.out)).mono ?_
    rintro e W3 ⟨v3, rfl, hrow3, hg3⟩
    have B3 := Aside0.mk (B2.out.grown hg3 B2.out.size (fun k e => Nat.le_trans (show w.heap.size ≤ w1.heap.size + 1 + 1 by omega) (R2.out.lt k e).1))
    have K3 := Aside0.mk ((hg3.block D (Array.getElem?_eq_some_iff.1 K2.out).1 (row_ne R2.out K2.out rfl)).trans K2.out)
    have R3 := Aside0.mk hrow3
    clear hrow3 hg3
    gi_wp2
    have hD2 : w.heap.size ≤ D := by simp at hD; omega
    refine ⟨by simp, .inl ⟨_, _, rfl, run_takeDeferred K3.out, ?_⟩⟩
    refine ⟨v3, ?_, ⟨v3, rfl, own_weak (ownsRow_putObj R3.out _ K3.out rfl) (by omega), B3.out.trans (belowK_b (w := w) (Nat.le_refl _) W3 D _ _ hD2 K3.out rfl rfl)⟩⟩
    simp [results, Try.f31, go_sem]
  case stop =>
    rintro D c pre W hD hp hf hK
    exact hf.elim

end Go.Proofs.Ytocdpledkmmomaa.P
