import Derived.Test.YtocdpledkmmomaaSBPx8
import Derived.Test.YtocdpledkmmomaaSBPx9
import Derived.Test.YtocdpledkmmomaaSBPx10
import Derived.Test.YtocdpledkmmomaaSBGLives17
import Derived.IntWalk
namespace Go.Proofs.Ytocdpledkmmomaa.P
open Go.RowKit Go.Proofs.YtocdpledkmmomaaW.PrintWords Go.Proofs.YtocdpledkmmomaaW.PrintLast Go.Proofs.YtocdpledkmmomaaW.PrintMore
set_option linter.unusedVariables false
set_option linter.unusedSimpArgs false
theorem Hold.addV {α : Type} {N : Nat} {w0 W : World} {Ls : List MonoP} (h : Hold N w0 W Ls) {d : Kd α} {e M : Nat} {ok : Nat → Prop} {v : Value} {xs : List α} (hr : d.V e W M ok v xs) : ∃ A c, v = .slice A xs.length c ∧ Hold N w0 W (Ls ++ [mC d A xs xs.length c]) := by
  obtain ⟨A, c, rfl⟩ := Kd.V_slice hr
  exact ⟨A, c, rfl, h.add _ ⟨rfl, (Kd.V_reads' hr).2.1, (Kd.V_reads' hr).2.2⟩⟩
theorem store_at {P : Program} {ops : Array Oper} {rest : List Oper} {o : Oper} {a : Act} {Q : Exit → Act → World → Prop} {W : World} (N : Nat) {b T : Nat} {cs : Array Value} (hblk : W.heap[b]? = some (.cells cs T (0, 0))) (hN : o.dst = none) (hgd : o.guard = none) (t : TypeId) (p x : Operand) (ho : o.op = .store t p x) (hp : a.eval p = .pointer (some ⟨b, 0, none⟩))
    (u : Value) (seg : List Value) (hx : a.eval x = u) (hu : u.cells.toList = seg) (ht : (P.info? t).map (·.size) = some seg.length) (h1 : (seg.all fun q => q.oneCell') = true) (hj : seg.length = cs.size) (hNb : N ≤ b)
    (hc : ∀ w1, StoreAt N T b W w1 → w1.heap[b]? = some (.cells seg.toArray T (0, 0)) → wpList P ops Q rest a w1) : wpList P ops Q (o :: rest) a W := by
  refine wpList_plain hgd fun K hK => ?_
  have hrun : (Instr.storeAt t (.pointer (some ⟨b, 0, none⟩)) u).run P W = .ok () (W.setCells b 0 seg) := run_store_run t u seg hblk hu ht (by simp [hj]) (fun q hq => List.all_eq_true.1 h1 q hq)
  obtain ⟨e1, e2, e3, e4⟩ := setCells_same b seg 0 W
  obtain ⟨cur, h2, h3, h4⟩ := setCells_row (g := b) (e := T) seg 0 W cs hblk (by simp [hj])
  have hnew : (W.setCells b 0 seg).heap[b]? = some (.cells seg.toArray T (0, 0)) := by
    rw [h2]
    congr 2
    apply Array.toList_inj.1
    have h5 : cur.toList = seg ++ List.drop cs.size cs.toList := by simpa [hj] using h4
    rw [List.drop_of_length_le (by simp), List.append_nil] at h5
    simpa using h5
  unfold Oper.wp execOp
  simp only [ho, hp, hx, Sem.run_bind, Sem.run_pure, Result.andThen_ok, hrun]
  show K (a.put o.dst undef) _
  rw [hN]
  exact hK a _ (hc _ ⟨e1, e2, e3, e4, hNb, ⟨_, _, hblk, hnew, by simpa using hj⟩, fun k hk => setCells_far seg 0 k hk⟩ hnew)
theorem R_storeAt {α : Type} {N T g : Nat} {w w' : World} (hs : StoreAt N T g w w') {d : Kd α} {e M : Nat} {ok : Nat → Prop} {v : Value} {xs : List α} (hE : ((e :: d.E).all fun q => q != T) = true) (h : d.R e w M ok v xs) : d.R e w' M ok v xs := by
  obtain ⟨cells, hc⟩ := hs.old
  exact Kd.R_mono (Kd.R_step (Kd.R_types h hc (fun q hq => by simpa using List.all_eq_true.1 hE q hq)) (fun k hk _ => hs.far k hk.2)) (fun _ h => h.1)
theorem StoreAt.below {N T g : Nat} {w w' : World} (hs : StoreAt N T g w w') : Below N w w' := ⟨hs.os, hs.tape, hs.output, Nat.le_of_eq hs.size.symm, fun k hk => hs.far k (by have := hs.base; omega)⟩
structure SbEq1 (k : Nat) (L S : List S32) (C : List Int) (l : List S32) (x1 x2 : List S32) (x3 : List Int) (y1 y2 : List S32) (y3 : List Int) (m : List S32) : Prop where
  great : garderobelaw17_great.f L S C = some false
  push : shape_Push.f L S C 1000 l = some (x1, x2, x3, 0)
  pop : shape_Pop.f x1 x2 x3 (l.length : Int) = some (y1, y2, y3, m, 0)
  same : garderoberef17_Same.f k y1 y2 y3 L S C = some true
  vals : garderoberef17_Vals.f k m l = some true
structure SbEq2 (k : Nat) (L S : List S32) (C : List Int) (place : Int) (z1 z2 : List S32) (z3 : List Int) (v0 v1 v2 v3 : Int) (t1 t2 : List S32) (t3 : List Int) : Prop where
  call : shape_Call.f k L S C place = some (z1, z2, z3, 0)
  zlen : z2.length = S.length + 1
  v : rd_T32 z2 (S.length : Int) = ⟨v0, ⟨v1, v2⟩, v3⟩
  ret : shape_Return.f k z1 z2 z3 v0 v1 v2 v3 = some (t1, t2, t3, place, 0)
  clen : t3.length = C.length
  tlen : t2.length = S.length + 1
  tv : rd_T32 t2 (S.length : Int) = ⟨1, ⟨0, 0⟩, 0⟩

set_option maxHeartbeats 4000000 in
set_option maxRecDepth 100000 in
theorem shapeBack_great (k : Nat) (A0 : Option Addr) (z0 : Nat) (L : List S32) (A1 : Option Addr) (q1 : Nat) (S : List S32) (A2 : Option Addr) (q2 : Nat) (C : List Int) (A3 : Option Addr) (q3 : Nat) (l : List S32) (place : Int)  (hg : garderobelaw17_great.f L S C = some true)
    (w : World) (hL : Kd.C k32 w A0 L.length L) (lL : L.length ≤ z0) (hS : Kd.C k32 w A1 S.length S) (lS : S.length ≤ q1) (hC : Kd.C (Kd.int .i64) w A2 C.length C) (lC : C.length ≤ q2) (hl : Kd.C k32 w A3 l.length l) (ll : l.length ≤ q3) : Calls Try.prog 4 #[.agg #[.slice A0 L.length z0, .slice A1 S.length q1, .slice A2 C.length q2], .slice A3 l.length q3, .int .i64 place] w fun e w' => e = .returned (.bool true) ∧ Below w.heap.size w w' := by
  have HQ := Aside0.mk hg
  clear hg
  have hu25 := Try.underlying25
  have hu32 := Try.underlying32
  have H := Aside0.mk ((((((Hold.nil w).add (mC k32 A0 L L.length z0) ⟨rfl, lL, hL⟩).add (mC k32 A1 S S.length q1) ⟨rfl, lS, hS⟩).add (mC (Kd.int .i64) A2 C C.length q2) ⟨rfl, lC, hC⟩).add (mC k32 A3 l l.length q3) ⟨rfl, ll, hl⟩).allocB [.slice A0 L.length z0, .slice A1 S.length q1, .slice A2 C.length q2] 25)
  simp only [List.nil_append, List.cons_append] at H
  clear hL lL hS lS hC lC hl ll
  go_enter Try.func4, Try.ntmps4
  go_wp2_with fail
  refine (garderobelaw17_great.calls A0 z0 L A1 q1 S A2 q2 C true _ (H.out.C 0 rfl) (H.out.all 0 _ rfl).2.1 (H.out.C 1 rfl) (H.out.all 1 _ rfl).2.1 (H.out.C 2 rfl) (H.out.all 2 _ rfl).2.1 HQ.out).mono ?_
  rintro e w1 ⟨rfl, hb⟩
  have H1_ := Aside0.mk (H.out.step hb)
  clear hb H
  go_wp2_with fail
  refine (lives17_any _).mono ?_
  rintro e wz ⟨rfl, hb⟩
  have HF := Aside0.mk (H1_.out.step hb).below
  clear hb
  go_wp2
  go_ret
  exact ⟨rfl, HF.out⟩
set_option maxHeartbeats 4000000 in
set_option maxRecDepth 100000 in
theorem shapeBack_long (k : Nat) (A0 : Option Addr) (z0 : Nat) (L : List S32) (A1 : Option Addr) (q1 : Nat) (S : List S32) (A2 : Option Addr) (q2 : Nat) (C : List Int) (A3 : Option Addr) (q3 : Nat) (l : List S32) (place : Int)  (hg : garderobelaw17_great.f L S C = some false) (hlen : 300 < (l.length : Int))
    (w : World) (hL : Kd.C k32 w A0 L.length L) (lL : L.length ≤ z0) (hS : Kd.C k32 w A1 S.length S) (lS : S.length ≤ q1) (hC : Kd.C (Kd.int .i64) w A2 C.length C) (lC : C.length ≤ q2) (hl : Kd.C k32 w A3 l.length l) (ll : l.length ≤ q3) : Calls Try.prog 4 #[.agg #[.slice A0 L.length z0, .slice A1 S.length q1, .slice A2 C.length q2], .slice A3 l.length q3, .int .i64 place] w fun e w' => e = .returned (.bool true) ∧ Below w.heap.size w w' := by
  have HQ := Aside0.mk hg
  clear hg
  have hu25 := Try.underlying25
  have hu32 := Try.underlying32
  have H := Aside0.mk ((((((Hold.nil w).add (mC k32 A0 L L.length z0) ⟨rfl, lL, hL⟩).add (mC k32 A1 S S.length q1) ⟨rfl, lS, hS⟩).add (mC (Kd.int .i64) A2 C C.length q2) ⟨rfl, lC, hC⟩).add (mC k32 A3 l l.length q3) ⟨rfl, ll, hl⟩).allocB [.slice A0 L.length z0, .slice A1 S.length q1, .slice A2 C.length q2] 25)
  simp only [List.nil_append, List.cons_append] at H
  clear hL lL hS lS hC lC hl ll
  go_enter Try.func4, Try.ntmps4
  go_wp2_with fail
  refine (garderobelaw17_great.calls A0 z0 L A1 q1 S A2 q2 C false _ (H.out.C 0 rfl) (H.out.all 0 _ rfl).2.1 (H.out.C 1 rfl) (H.out.all 1 _ rfl).2.1 (H.out.C 2 rfl) (H.out.all 2 _ rfl).2.1 HQ.out).mono ?_
  rintro e w1 ⟨rfl, hb⟩
  have H1_ := Aside0.mk (H.out.step hb)
  clear hb H
  go_wp2_with fail
  refine (lives17_any _).mono ?_
  rintro e wz ⟨rfl, hb⟩
  have HF := Aside0.mk (H1_.out.step hb).below
  clear hb
  go_wp2
  go_ret
  exact ⟨rfl, HF.out⟩
set_option maxHeartbeats 4000000 in
set_option maxRecDepth 100000 in
theorem shapeBack_no (k : Nat) (A0 : Option Addr) (z0 : Nat) (L : List S32) (A1 : Option Addr) (q1 : Nat) (S : List S32) (A2 : Option Addr) (q2 : Nat) (C : List Int) (A3 : Option Addr) (q3 : Nat) (l : List S32) (place : Int) (x1 x2 : List S32) (x3 : List Int) (y1 y2 : List S32) (y3 : List Int) (m : List S32) (hq : SbEq1 k L S C l x1 x2 x3 y1 y2 y3 m) (hlen : (l.length : Int) ≤ 300) (hSl : S.length ≤ 300) (hc : shape_Call.f k L S C place = some ([], [], [], 9))
    (w : World) (hL : Kd.C k32 w A0 L.length L) (lL : L.length ≤ z0) (hS : Kd.C k32 w A1 S.length S) (lS : S.length ≤ q1) (hC : Kd.C (Kd.int .i64) w A2 C.length C) (lC : C.length ≤ q2) (hl : Kd.C k32 w A3 l.length l) (ll : l.length ≤ q3) : Calls Try.prog 4 #[.agg #[.slice A0 L.length z0, .slice A1 S.length q1, .slice A2 C.length q2], .slice A3 l.length q3, .int .i64 place] w fun e w' => e = .returned (.bool true) ∧ Below w.heap.size w w' := by
  have HQ := Aside0.mk hq
  have HC := Aside0.mk hc
  clear hq hc
  have hu25 := Try.underlying25
  have hu32 := Try.underlying32
  have H := Aside0.mk ((((((Hold.nil w).add (mC k32 A0 L L.length z0) ⟨rfl, lL, hL⟩).add (mC k32 A1 S S.length q1) ⟨rfl, lS, hS⟩).add (mC (Kd.int .i64) A2 C C.length q2) ⟨rfl, lC, hC⟩).add (mC k32 A3 l l.length q3) ⟨rfl, ll, hl⟩).allocB [.slice A0 L.length z0, .slice A1 S.length q1, .slice A2 C.length q2] 25)
  simp only [List.nil_append, List.cons_append] at H
  clear hL lL hS lS hC lC hl ll
  go_enter Try.func4, Try.ntmps4
  go_wp2_with fail
  refine (garderobelaw17_great.calls A0 z0 L A1 q1 S A2 q2 C false _ (H.out.C 0 rfl) (H.out.all 0 _ rfl).2.1 (H.out.C 1 rfl) (H.out.all 1 _ rfl).2.1 (H.out.C 2 rfl) (H.out.all 2 _ rfl).2.1 HQ.out.great).mono ?_
  rintro e w1 ⟨rfl, hb⟩
  have H1_ := Aside0.mk (H.out.step hb)
  clear hb H
  obtain ⟨k0_0, k0_1, k0_2⟩ := blk25 (H1_.out.B 4 rfl)
  go_wp2_with fail
  refine (shape_Push.calls A0 z0 L A1 q1 S A2 q2 C 1000 A3 q3 l x1 x2 x3 0 _ (H1_.out.C 0 rfl) (H1_.out.all 0 _ rfl).2.1 (H1_.out.C 1 rfl) (H1_.out.all 1 _ rfl).2.1 (H1_.out.C 2 rfl) (H1_.out.all 2 _ rfl).2.1 (H1_.out.C 3 rfl) (H1_.out.all 3 _ rfl).2.1 HQ.out.push).mono ?_
  rintro e w2 ⟨u0_, u1_, u2_, rfl, g0_, g1_, g2_, hb⟩
  obtain ⟨X0, yX0, rfl, h1_⟩ := (H1_.out.step hb).addR g0_
  obtain ⟨X1, yX1, rfl, h2_⟩ := h1_.addV g1_
  obtain ⟨X2, yX2, rfl, h3_⟩ := h2_.addR g2_
  have H2_ := Aside0.mk (h3_.allocB [.slice X0 x1.length yX0, .slice X1 x2.length yX1, .slice X2 x3.length yX2] 25)
  simp only [List.nil_append, List.cons_append] at H2_
  clear g0_ g1_ g2_ hb h1_ h2_ h3_ H1_
  clear k0_0 k0_1 k0_2
  obtain ⟨k0_0, k0_1, k0_2⟩ := blk25 (H2_.out.B 8 rfl)
  go_wp2_with fail
  refine (shape_Pop.calls X0 yX0 x1 X1 yX1 x2 X2 yX2 x3 (l.length : Int) y1 y2 y3 m 0 _ (H2_.out.C 5 rfl) (H2_.out.all 5 _ rfl).2.1 (H2_.out.C 6 rfl) (H2_.out.all 6 _ rfl).2.1 (H2_.out.C 7 rfl) (H2_.out.all 7 _ rfl).2.1 HQ.out.pop).mono ?_
  rintro e w3 ⟨u0_, u1_, u2_, u3_, rfl, g0_, g1_, g2_, g3_, hb⟩
  obtain ⟨Y0, yY0, rfl, h1_⟩ := (H2_.out.step hb).addR g0_
  obtain ⟨Y1, yY1, rfl, h2_⟩ := h1_.addV g1_
  obtain ⟨Y2, yY2, rfl, h3_⟩ := h2_.addR g2_
  obtain ⟨Y3, yY3, rfl, h4_⟩ := h3_.addR g3_
  have H3_ := Aside0.mk (h4_.allocB [.slice Y0 y1.length yY0, .slice Y1 y2.length yY1, .slice Y2 y3.length yY2] 25)
  simp only [List.nil_append, List.cons_append] at H3_
  clear g0_ g1_ g2_ g3_ hb h1_ h2_ h3_ h4_ H2_
  clear k0_0 k0_1 k0_2
  obtain ⟨k0_0, k0_1, k0_2⟩ := blk25 (H3_.out.B 13 rfl)
  obtain ⟨k1_0, k1_1, k1_2⟩ := blk25 (H3_.out.B 4 rfl)
  go_wp2_with fail
  refine (garderoberef17_Same.calls k Y0 yY0 y1 Y1 yY1 y2 Y2 yY2 y3 A0 z0 L A1 q1 S A2 q2 C true _ (H3_.out.C 9 rfl) (H3_.out.all 9 _ rfl).2.1 (H3_.out.C 10 rfl) (H3_.out.all 10 _ rfl).2.1 (H3_.out.C 11 rfl) (H3_.out.all 11 _ rfl).2.1 (H3_.out.C 0 rfl) (H3_.out.all 0 _ rfl).2.1 (H3_.out.C 1 rfl) (H3_.out.all 1 _ rfl).2.1 (H3_.out.C 2 rfl) (H3_.out.all 2 _ rfl).2.1 HQ.out.same).mono ?_
  rintro e w4 ⟨rfl, hb⟩
  have H4_ := Aside0.mk (H3_.out.step hb)
  clear hb H3_
  clear k0_0 k0_1 k0_2 k1_0 k1_1 k1_2
  go_wp2_with fail
  refine (garderoberef17_Vals.calls k Y3 yY3 m A3 q3 l true _ (H4_.out.C 12 rfl) (H4_.out.all 12 _ rfl).2.1 (H4_.out.C 3 rfl) (H4_.out.all 3 _ rfl).2.1 HQ.out.vals).mono ?_
  rintro e w5 ⟨rfl, hb⟩
  have H5_ := Aside0.mk (H4_.out.step hb.below)
  clear hb H4_
  obtain ⟨k0_0, k0_1, k0_2⟩ := blk25 (H5_.out.B 4 rfl)
  go_wp2_with fail
  refine (shape_Call.calls k A0 z0 L A1 q1 S A2 q2 C place [] [] [] 9 _ (H5_.out.C 0 rfl) (H5_.out.all 0 _ rfl).2.1 (H5_.out.C 1 rfl) (H5_.out.all 1 _ rfl).2.1 (H5_.out.C 2 rfl) (H5_.out.all 2 _ rfl).2.1 HC.out).mono ?_
  rintro e w6 ⟨u0_, u1_, u2_, rfl, g0_, g1_, g2_, hb⟩
  obtain ⟨Z0, yZ0, rfl, h1_⟩ := (H5_.out.step hb).addR g0_
  obtain ⟨Z1, yZ1, rfl, h2_⟩ := h1_.addR g1_
  obtain ⟨Z2, yZ2, rfl, h3_⟩ := h2_.addR g2_
  have H6_ := Aside0.mk (h3_.allocB [.slice Z0 ([] : List S32).length yZ0, .slice Z1 ([] : List S32).length yZ1, .slice Z2 ([] : List Int).length yZ2] 25)
  simp only [List.nil_append, List.cons_append] at H6_
  clear g0_ g1_ g2_ hb h1_ h2_ h3_ H5_
  clear k0_0 k0_1 k0_2
  go_wp2_with fail
  refine (lives17_any _).mono ?_
  rintro e wz ⟨rfl, hb⟩
  have HF := Aside0.mk (H6_.out.step hb).below
  clear hb
  go_wp2
  go_ret
  exact ⟨rfl, HF.out⟩
set_option maxHeartbeats 4000000 in
set_option maxRecDepth 100000 in
theorem shapeBack_walk (k : Nat) (A0 : Option Addr) (z0 : Nat) (L : List S32) (A1 : Option Addr) (q1 : Nat) (S : List S32) (A2 : Option Addr) (q2 : Nat) (C : List Int) (A3 : Option Addr) (q3 : Nat) (l : List S32) (place : Int) (x1 x2 : List S32) (x3 : List Int) (y1 y2 : List S32) (y3 : List Int) (m : List S32) (z1 z2 : List S32) (z3 : List Int) (v0 v1 v2 v3 : Int) (t1 t2 : List S32) (t3 : List Int) (hq : SbEq1 k L S C l x1 x2 x3 y1 y2 y3 m) (hlen : (l.length : Int) ≤ 300) (hSl : S.length ≤ 300) (hq2 : SbEq2 k L S C place z1 z2 z3 v0 v1 v2 v3 t1 t2 t3)
    (w : World) (hL : Kd.C k32 w A0 L.length L) (lL : L.length ≤ z0) (hS : Kd.C k32 w A1 S.length S) (lS : S.length ≤ q1) (hC : Kd.C (Kd.int .i64) w A2 C.length C) (lC : C.length ≤ q2) (hl : Kd.C k32 w A3 l.length l) (ll : l.length ≤ q3) : Calls Try.prog 4 #[.agg #[.slice A0 L.length z0, .slice A1 S.length q1, .slice A2 C.length q2], .slice A3 l.length q3, .int .i64 place] w fun e w' => e = .returned (.bool true) ∧ Below w.heap.size w w' := by
  have HQ := Aside0.mk hq
  have HC := Aside0.mk hq2
  clear hq hq2
  have hu25 := Try.underlying25
  have hu32 := Try.underlying32
  have H := Aside0.mk ((((((Hold.nil w).add (mC k32 A0 L L.length z0) ⟨rfl, lL, hL⟩).add (mC k32 A1 S S.length q1) ⟨rfl, lS, hS⟩).add (mC (Kd.int .i64) A2 C C.length q2) ⟨rfl, lC, hC⟩).add (mC k32 A3 l l.length q3) ⟨rfl, ll, hl⟩).allocB [.slice A0 L.length z0, .slice A1 S.length q1, .slice A2 C.length q2] 25)
  simp only [List.nil_append, List.cons_append] at H
  clear hL lL hS lS hC lC hl ll
  go_enter Try.func4, Try.ntmps4
  go_wp2_with fail
  refine (garderobelaw17_great.calls A0 z0 L A1 q1 S A2 q2 C false _ (H.out.C 0 rfl) (H.out.all 0 _ rfl).2.1 (H.out.C 1 rfl) (H.out.all 1 _ rfl).2.1 (H.out.C 2 rfl) (H.out.all 2 _ rfl).2.1 HQ.out.great).mono ?_
  rintro e w1 ⟨rfl, hb⟩
  have H1_ := Aside0.mk (H.out.step hb)
  clear hb H
  obtain ⟨k0_0, k0_1, k0_2⟩ := blk25 (H1_.out.B 4 rfl)
  go_wp2_with fail
  refine (shape_Push.calls A0 z0 L A1 q1 S A2 q2 C 1000 A3 q3 l x1 x2 x3 0 _ (H1_.out.C 0 rfl) (H1_.out.all 0 _ rfl).2.1 (H1_.out.C 1 rfl) (H1_.out.all 1 _ rfl).2.1 (H1_.out.C 2 rfl) (H1_.out.all 2 _ rfl).2.1 (H1_.out.C 3 rfl) (H1_.out.all 3 _ rfl).2.1 HQ.out.push).mono ?_
  rintro e w2 ⟨u0_, u1_, u2_, rfl, g0_, g1_, g2_, hb⟩
  obtain ⟨X0, yX0, rfl, h1_⟩ := (H1_.out.step hb).addR g0_
  obtain ⟨X1, yX1, rfl, h2_⟩ := h1_.addV g1_
  obtain ⟨X2, yX2, rfl, h3_⟩ := h2_.addR g2_
  have H2_ := Aside0.mk (h3_.allocB [.slice X0 x1.length yX0, .slice X1 x2.length yX1, .slice X2 x3.length yX2] 25)
  simp only [List.nil_append, List.cons_append] at H2_
  clear g0_ g1_ g2_ hb h1_ h2_ h3_ H1_
  clear k0_0 k0_1 k0_2
  obtain ⟨k0_0, k0_1, k0_2⟩ := blk25 (H2_.out.B 8 rfl)
  go_wp2_with fail
  refine (shape_Pop.calls X0 yX0 x1 X1 yX1 x2 X2 yX2 x3 (l.length : Int) y1 y2 y3 m 0 _ (H2_.out.C 5 rfl) (H2_.out.all 5 _ rfl).2.1 (H2_.out.C 6 rfl) (H2_.out.all 6 _ rfl).2.1 (H2_.out.C 7 rfl) (H2_.out.all 7 _ rfl).2.1 HQ.out.pop).mono ?_
  rintro e w3 ⟨u0_, u1_, u2_, u3_, rfl, g0_, g1_, g2_, g3_, hb⟩
  obtain ⟨Y0, yY0, rfl, h1_⟩ := (H2_.out.step hb).addR g0_
  obtain ⟨Y1, yY1, rfl, h2_⟩ := h1_.addV g1_
  obtain ⟨Y2, yY2, rfl, h3_⟩ := h2_.addR g2_
  obtain ⟨Y3, yY3, rfl, h4_⟩ := h3_.addR g3_
  have H3_ := Aside0.mk (h4_.allocB [.slice Y0 y1.length yY0, .slice Y1 y2.length yY1, .slice Y2 y3.length yY2] 25)
  simp only [List.nil_append, List.cons_append] at H3_
  clear g0_ g1_ g2_ g3_ hb h1_ h2_ h3_ h4_ H2_
  clear k0_0 k0_1 k0_2
  obtain ⟨k0_0, k0_1, k0_2⟩ := blk25 (H3_.out.B 13 rfl)
  obtain ⟨k1_0, k1_1, k1_2⟩ := blk25 (H3_.out.B 4 rfl)
  go_wp2_with fail
  refine (garderoberef17_Same.calls k Y0 yY0 y1 Y1 yY1 y2 Y2 yY2 y3 A0 z0 L A1 q1 S A2 q2 C true _ (H3_.out.C 9 rfl) (H3_.out.all 9 _ rfl).2.1 (H3_.out.C 10 rfl) (H3_.out.all 10 _ rfl).2.1 (H3_.out.C 11 rfl) (H3_.out.all 11 _ rfl).2.1 (H3_.out.C 0 rfl) (H3_.out.all 0 _ rfl).2.1 (H3_.out.C 1 rfl) (H3_.out.all 1 _ rfl).2.1 (H3_.out.C 2 rfl) (H3_.out.all 2 _ rfl).2.1 HQ.out.same).mono ?_
  rintro e w4 ⟨rfl, hb⟩
  have H4_ := Aside0.mk (H3_.out.step hb)
  clear hb H3_
  clear k0_0 k0_1 k0_2 k1_0 k1_1 k1_2
  go_wp2_with fail
  refine (garderoberef17_Vals.calls k Y3 yY3 m A3 q3 l true _ (H4_.out.C 12 rfl) (H4_.out.all 12 _ rfl).2.1 (H4_.out.C 3 rfl) (H4_.out.all 3 _ rfl).2.1 HQ.out.vals).mono ?_
  rintro e w5 ⟨rfl, hb⟩
  have H5_ := Aside0.mk (H4_.out.step hb.below)
  clear hb H4_
  obtain ⟨k0_0, k0_1, k0_2⟩ := blk25 (H5_.out.B 4 rfl)
  go_wp2_with fail
  refine (shape_Call.calls k A0 z0 L A1 q1 S A2 q2 C place z1 z2 z3 0 _ (H5_.out.C 0 rfl) (H5_.out.all 0 _ rfl).2.1 (H5_.out.C 1 rfl) (H5_.out.all 1 _ rfl).2.1 (H5_.out.C 2 rfl) (H5_.out.all 2 _ rfl).2.1 HC.out.call).mono ?_
  rintro e w6 ⟨u0_, u1_, u2_, rfl, g0_, g1_, g2_, hb⟩
  obtain ⟨Z0, yZ0, rfl, h1_⟩ := (H5_.out.step hb).addR g0_
  obtain ⟨Z1, yZ1, rfl, h2_⟩ := h1_.addR g1_
  obtain ⟨Z2, yZ2, rfl, h3_⟩ := h2_.addR g2_
  have H6_ := Aside0.mk (h3_.allocB [.slice Z0 z1.length yZ0, .slice Z1 z2.length yZ1, .slice Z2 z3.length yZ2] 25)
  simp only [List.nil_append, List.cons_append] at H6_
  clear g0_ g1_ g2_ hb h1_ h2_ h3_ H5_
  clear k0_0 k0_1 k0_2
  have q1_ : ((z2.length : Int) != (S.length : Int) + 1) = false := by have := HC.out.zlen; simp; omega
  have q2_ : (S.length : Int) < (z2.length : Int) := by have := HC.out.zlen; omega
  have K_ := H6_.out.allocB [.slice Z0 z1.length yZ0, .slice Z1 z2.length yZ1, .slice Z2 z3.length yZ2] 25
  simp only [List.nil_append, List.cons_append, World.size_alloc] at K_
  have K := Aside0.mk K_
  clear K_
  obtain ⟨ad, e_, r0_, r1_, r2_, r3_⟩ := at_T32 (K.out.C 15 rfl) (S.length : Int) (by omega) q2_
  subst e_
  rw [HC.out.v] at r0_ r1_ r2_ r3_
  simp only [Int.toNat_natCast] at r0_ r1_ r2_ r3_
  obtain ⟨k0_0, k0_1, k0_2⟩ := blk25 (K.out.B 4 rfl)
  go_wp2_with fail
  have H9 := K.out.allocB [.int .u8 v0, .int .u8 v1, .int .u16 v2, .int .i64 v3] 32
  simp only [List.nil_append, List.cons_append, World.size_alloc] at H9
  have HK := Aside0.mk H9
  clear H9 r0_ r1_ r2_ r3_
  clear k0_0 k0_1 k0_2
  refine (shape_Return.calls k Z0 yZ0 z1 (some ad) yZ1 z2 Z2 yZ2 z3 v0 v1 v2 v3 t1 t2 t3 place 0 _ (HK.out.C 14 rfl) (HK.out.all 14 _ rfl).2.1 (HK.out.C 15 rfl) (HK.out.all 15 _ rfl).2.1 (HK.out.C 16 rfl) (HK.out.all 16 _ rfl).2.1 HC.out.ret).mono ?_
  rintro e w7 ⟨u0_, u1_, u2_, rfl, g0_, g1_, g2_, hb⟩
  obtain ⟨T0, yT0, rfl⟩ := Kd.R_slice g0_
  obtain ⟨T1, yT1, rfl⟩ := Kd.R_slice g1_
  obtain ⟨T2, yT2, rfl⟩ := Kd.R_slice g2_
  have HS := Aside0.mk (HK.out.step hb)
  have HB7 := Aside0.mk (show Below (w6.heap.size + 1) (w6.alloc (.cells #[.slice Z0 z1.length yZ0, .slice (some ad) z2.length yZ1, .slice Z2 z3.length yZ2] 25)) w7 from (((Below.refl _ _).alloc (by simp) _).alloc (by simp) _).trans (hb.mono (by simp)))
  have G0 := Aside0.mk g0_
  have G1 := Aside0.mk g1_
  have G2 := Aside0.mk g2_
  clear g0_ g1_ g2_ hb HK K
  go_wp2_with (refine store_at (b := w6.heap.size + 1) (T := 25) (cs := [.slice Z0 z1.length yZ0, .slice (some ad) z2.length yZ1, .slice Z2 z3.length yZ2].toArray) (w6.heap.size + 1) ?_ ?_ ?_ 25 (.tmp 14) (.tmp 89) ?_ ?_ (.agg #[.slice T0 t1.length yT0, .slice T1 t2.length yT1, .slice T2 t3.length yT2]) [.slice T0 t1.length yT0, .slice T1 t2.length yT1, .slice T2 t3.length yT2] ?_ rfl (show _ = some 3 by kernel_rfl) rfl rfl (Nat.le_refl _) ?_; exact HS.out.B 18 rfl; rfl; rfl; rfl; rfl; rfl; intro w8 hst hnew; have HU_ := ((H6_.out.step ((HB7.out.trans hst.below).mono (by simp))).add (mB (w6.heap.size + 1) 25 [.slice T0 t1.length yT0, .slice T1 t2.length yT1, .slice T2 t3.length yT2]) ⟨(Array.getElem?_eq_some_iff.1 hnew).1, hnew⟩).add (mC k32 T1 t2 t2.length yT1) ⟨rfl, (Kd.R_reads' (R_storeAt hst rfl G1.out)).2.1, (Kd.R_reads' (R_storeAt hst rfl G1.out)).2.2⟩; have HU := Aside0.mk HU_; clear HU_ hst hnew G0 G1 G2 HS HB7)
  have HF := Aside0.mk HU.out.below
  have B14 := Aside0.mk (HU.out.B 18 rfl)
  have B4 := Aside0.mk (HU.out.B 4 rfl)
  have C14 := Aside0.mk (HU.out.C 19 rfl)
  have q3_ : ((t3.length : Int) == (C.length : Int)) = true := by have := HC.out.clen; simp; omega
  have q4_ : ((t2.length : Int) == (S.length : Int) + 1) = true := by have := HC.out.tlen; simp; omega
  have q6_ : IntKind.i64.wrap ((S.length : Int) + 1) = (S.length : Int) + 1 := IntWalk.i64_in _ (by omega)
  have q7_ : ((t2.length : Int) = (S.length : Int) + 1) = True := eq_true (by have := HC.out.tlen; omega)
  have q5_ : (S.length : Int) < (t2.length : Int) := by have := HC.out.tlen; omega
  obtain ⟨ad2, e_, -⟩ := at_T32 C14.out (S.length : Int) (by omega) q5_
  subst e_
  have f1_ : ∀ p : GrownOf w8, p.w.cell? ⟨w6.heap.size + 1, 1, none⟩ = some (.slice (some ad2) t2.length yT1) := fun p => blk_cell (p.block B14.out) 1
  have f2_ : ∀ p : GrownOf w8, p.w.cell? ⟨w6.heap.size + 1, 2, none⟩ = some (.slice T2 t3.length yT2) := fun p => blk_cell (p.block B14.out) 2
  have f3_ : ∀ p : GrownOf w8, p.w.cell? ⟨w.heap.size, 1, none⟩ = some (.slice A1 S.length q1) := fun p => blk_cell (p.block B4.out) 1
  have f4_ : ∀ p : GrownOf w8, p.w.cell? ⟨w.heap.size, 2, none⟩ = some (.slice A2 C.length q2) := fun p => blk_cell (p.block B4.out) 2
  have F5 := fun p : GrownOf w8 => at_T32 (Kd.C_below C14.out p.h) (S.length : Int) (by omega) q5_
  have f5_ : ∀ p : GrownOf w8, p.w.cell? (ad2.add (S.length * 4)) = some (.int .u8 1) := fun p => by
    obtain ⟨a_, h_, r0_, r1_, r2_, r3_⟩ := F5 p
    obtain rfl := Option.some.inj h_
    rw [HC.out.tv] at r0_
    simpa using r0_
  have f6_ : ∀ p : GrownOf w8, p.w.cell? ⟨(ad2.add (S.length * 4)).block, (ad2.add (S.length * 4)).off + 1, none⟩ = some (.int .u8 0) := fun p => by
    obtain ⟨a_, h_, r0_, r1_, r2_, r3_⟩ := F5 p
    obtain rfl := Option.some.inj h_
    rw [HC.out.tv] at r1_
    simpa using r1_
  have f7_ : ∀ p : GrownOf w8, p.w.cell? ⟨(ad2.add (S.length * 4)).block, (ad2.add (S.length * 4)).off + 2, none⟩ = some (.int .u16 0) := fun p => by
    obtain ⟨a_, h_, r0_, r1_, r2_, r3_⟩ := F5 p
    obtain rfl := Option.some.inj h_
    rw [HC.out.tv] at r2_
    simpa using r2_
  have f8_ : ∀ p : GrownOf w8, p.w.cell? ⟨(ad2.add (S.length * 4)).block, (ad2.add (S.length * 4)).off + 3, none⟩ = some (.int .i64 0) := fun p => by
    obtain ⟨a_, h_, r0_, r1_, r2_, r3_⟩ := F5 p
    obtain rfl := Option.some.inj h_
    rw [HC.out.tv] at r3_
    simpa using r3_
  clear B14 B4 C14 HU F5
  refine wp_region_grown rfl (by kernel_rfl) ?_
  repeat (quiet_step ((first | (go_at_call 20; exact calls_grown _ (garderoberef16_None.calls 1 0 0 0 _ rfl)) | (go_at_call 10; exact calls_grown _ (lives17_any _)))))
  refine wpQuiet_nil ?_
  rintro _ ⟨p, rfl⟩
  have hfin := HF.out.trans (p.h.mono HF.out.size)
  go_wp2
  go_ret
  exact ⟨rfl, hfin⟩
end Go.Proofs.Ytocdpledkmmomaa.P
