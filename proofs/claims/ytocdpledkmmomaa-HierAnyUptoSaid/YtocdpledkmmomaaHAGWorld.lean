import Derived.Test.YtocdpledkmmomaaHAGWorldA
namespace Go.Proofs.Ytocdpledkmmomaa.P
open Go.RowKit Go.Proofs.YtocdpledkmmomaaW.PrintWords Go.Proofs.YtocdpledkmmomaaW.PrintLast Go.Proofs.YtocdpledkmmomaaW.PrintMore
set_option linter.unusedVariables false
set_option linter.unusedSimpArgs false
def wU : List Int := [160, 0, 0, 0, 98, 1, 1]
def Outer (w : World) (b0 bw bp bu : Nat) (tv : Value) (k : Nat) (wr : World) : Prop :=
  ∃ (s : Nat → Prop) (AC AM AE : Option Addr) (cC cM cE : Nat) (ic im ie : List (List Value)), Sep w.heap.size w wr
    [chB b0 54 [.slice none 0 0, .slice none 0 0, .slice none 0 0, .slice none 0 0],
     chB bw 54 [.slice AC k cC, .slice AM (wTo k).ms.length cM, .slice none 0 0, .slice none 0 0],
     chR (Kd.int .u8) 5 w.heap.size (.slice (some ⟨bu, 0, none⟩) 7 7) wU,
     chB bp 124 [.slice (some ⟨bu, 0, none⟩) 7 7, .int .u8 1, .int .u8 0, .bool false, .slice AE k cE, .slice none 0 0],
     chZ w.heap.size s tv (wTo k) ic im ie,
     chR (kRaw 7) 110 w.heap.size (.slice AC k cC) ic, chR (kRaw 11) 86 w.heap.size (.slice AM (wTo k).ms.length cM) im, chR (kRaw 3) 131 w.heap.size (.slice AE k cE) ie]
theorem wor_start {w w1 : World} {tv : Value} (hb : Below ((((w.alloc (.cells #[.slice none 0 0, .slice none 0 0, .slice none 0 0, .slice none 0 0] 54)).alloc (.cells #[.slice none 0 0, .slice none 0 0, .slice none 0 0, .slice none 0 0] 54)).alloc (.cells #[.int .u8 160, .int .u8 0, .int .u8 0, .int .u8 0, .int .u8 98, .int .u8 1, .int .u8 1] 5)).alloc (.cells #[.slice (some ⟨w.heap.size + 1 + 1, 0, none⟩) 7 7, .int .u8 1, .int .u8 0, .bool false, .slice none 0 0, .slice none 0 0] 124)).heap.size ((((w.alloc (.cells #[.slice none 0 0, .slice none 0 0, .slice none 0 0, .slice none 0 0] 54)).alloc (.cells #[.slice none 0 0, .slice none 0 0, .slice none 0 0, .slice none 0 0] 54)).alloc (.cells #[.int .u8 160, .int .u8 0, .int .u8 0, .int .u8 0, .int .u8 98, .int .u8 1, .int .u8 1] 5)).alloc (.cells #[.slice (some ⟨w.heap.size + 1 + 1, 0, none⟩) 7 7, .int .u8 1, .int .u8 0, .bool false, .slice none 0 0, .slice none 0 0] 124)) w1)
    (ht : Kd.R k129 129 w1 ((((w.alloc (.cells #[.slice none 0 0, .slice none 0 0, .slice none 0 0, .slice none 0 0] 54)).alloc (.cells #[.slice none 0 0, .slice none 0 0, .slice none 0 0, .slice none 0 0] 54)).alloc (.cells #[.int .u8 160, .int .u8 0, .int .u8 0, .int .u8 0, .int .u8 98, .int .u8 1, .int .u8 1] 5)).alloc (.cells #[.slice (some ⟨w.heap.size + 1 + 1, 0, none⟩) 7 7, .int .u8 1, .int .u8 0, .bool false, .slice none 0 0, .slice none 0 0] 124)).heap.size (fun _ => True) tv tabRows) :
    Outer w w.heap.size (w.heap.size + 1) (w.heap.size + 1 + 1 + 1) (w.heap.size + 1 + 1) tv 0 w1 := by
  have h1 := (Sep.nil w).appB 54 [.slice none 0 0, .slice none 0 0, .slice none 0 0, .slice none 0 0]
  have h2 := h1.appB 54 [.slice none 0 0, .slice none 0 0, .slice none 0 0, .slice none 0 0]
  have h3 := h2.appLit (Kd.int .u8) rfl 5 7 wU [.int .u8 160, .int .u8 0, .int .u8 0, .int .u8 0, .int .u8 98, .int .u8 1, .int .u8 1] rfl (Kd.reps_scalar wU) (by decide)
  have h4 := h3.appB 124 [.slice (some ⟨w.heap.size + 1 + 1, 0, none⟩) 7 7, .int .u8 1, .int .u8 0, .bool false, .slice none 0 0, .slice none 0 0]
  have h5 := h4.app (chZ w.heap.size (fun k => (w.heap.size + 4) ≤ k ∧ k < w1.heap.size) tv (wTo 0) [] [] []) hb (fun k hk => by simpa [chZ, Nat.add_assoc] using hk) (foot_chZ ⟨?_, RowsIn.nil, RowsIn.nil, RowsIn.nil⟩)
  · have h6 := ((h5.appNilR (kRaw 7) rfl 110 w.heap.size).appNilR (kRaw 11) rfl 86 w.heap.size).appNilR (kRaw 3) rfl 131 w.heap.size
    refine ⟨(fun k => (w.heap.size + 4) ≤ k ∧ k < w1.heap.size), none, none, none, 0, 0, 0, [], [], [], ?_⟩
    rw [show (wTo 0).ms.length = 0 from rfl]
    simpa [Nat.add_assoc] using h6
  · exact Kd.R_lower (Kd.R_mono (Kd.R_bound ht) (fun k hk => ⟨by simpa [Nat.add_assoc] using hk.2.1, hk.2.2.1⟩)) (by simp; omega)
theorem wor_base {N : Nat} {s : Nat → Prop} {tv : Value} {q : WAcc} {ic im ie : List (List Value)} {W : World} (h : Zone N s tv q ic im ie W) (r : S129) (hr : r.f0 < q.cs.length) :
    ∃ b4 b5, k30.R 30 W N s b4 (wBase q r).1 ∧ (Kd.int .i64).R 3 W N s b5 (wBase q r).2 ∧ (0 ≤ r.f0 → ∃ a b c d e, ic.getD r.f0.toNat [] = [a, b, c, d, b4, b5, e]) := by
  unfold wBase
  by_cases h0 : 0 ≤ r.f0
  · rw [if_pos h0]
    obtain ⟨v3, v4, v5, v6, he, h1, h2, h3, h4⟩ := k110_openM (h.c.getD r.f0.toNat (by omega) z110 [])
    exact ⟨v4, v5, h2, h3, fun _ => ⟨_, _, _, _, _, he⟩⟩
  · rw [if_neg h0]
    exact ⟨.slice none 0 0, .slice none 0 0, Kd.R_nil _ _ _ _ _, Kd.R_nil _ _ _ _ _, fun h => absurd h h0⟩
def wL (w : World) (b0 : Nat) (tv : Value) (k : Nat) (r : S129) (q : WAcc) (s : Nat → Prop) (AC AE : Option Addr) (cC cE : Nat) (ic ie : List (List Value)) (A2 A3 A4 : Option Addr) (c2 c3 c4 : Nat) (b4 b5 : Value) (br : Nat)
    (ms : List S86) (AM : Option Addr) (cM : Nat) (im : List (List Value)) (F : List S30) (AF : Option Addr) (cF : Nat) (V : List Int) (AV : Option Addr) (cV : Nat) : List Chunk :=
    [chB b0 54 [.slice none 0 0, .slice none 0 0, .slice none 0 0, .slice none 0 0],
     chB (b0 + 1) 54 [.slice AC k cC, .slice AM ms.length cM, .slice none 0 0, .slice none 0 0],
     chR (Kd.int .u8) 5 w.heap.size (.slice (some ⟨b0 + 1 + 1, 0, none⟩) 7 7) wU,
     chB (b0 + 1 + 1 + 1) 124 [.slice (some ⟨b0 + 1 + 1, 0, none⟩) 7 7, .int .u8 1, .int .u8 0, .bool false, .slice AE k cE, .slice none 0 0],
     chZr w.heap.size s tv ⟨q.cs, ms, q.es⟩ ic im ie r (wBase q r) (.slice A2 r.f2.length c2) (.slice A3 r.f3.length c3) (.slice A4 r.f4.length c4) b4 b5,
     chR (kRaw 7) 110 w.heap.size (.slice AC k cC) ic, chR (kRaw 11) 86 w.heap.size (.slice AM ms.length cM) im, chR (kRaw 3) 131 w.heap.size (.slice AE k cE) ie,
     chB br 129 [.int .i64 r.f0, .int .u8 r.f1, .slice A2 r.f2.length c2, .slice A3 r.f3.length c3, .slice A4 r.f4.length c4],
     chB (br + 1) 110 [.int .i64 0, .int .u8 r.f1, .int .i64 r.f0, .slice none 0 0, .slice AF F.length cF, .slice AV V.length cV, .slice none 0 0],
     chR k30 30 w.heap.size (.slice AF F.length cF) F, chR (Kd.int .i64) 3 w.heap.size (.slice AV V.length cV) V]
def wX (L : List Chunk) (w : World) (k bx : Nat) (X : List Int) (AX : Option Addr) (cX : Nat) : List Chunk :=
  L ++ [chB bx 131 [.int .i64 k, .slice none 0 0, .slice AX X.length cX], chR (Kd.int .i64) 3 w.heap.size (.slice AX X.length cX) X]
def chZx (N : Nat) (s : Nat → Prop) (tv : Value) (q : WAcc) (ic im ie : List (List Value)) (r : S129) (b : List S30 × List Int) (v2 v3 v4 b4 b5 v : Value) (l : List S30) : Chunk := ⟨s, fun W => (chZr N s tv q ic im ie r b v2 v3 v4 b4 b5).p W ∧ k30.R 30 W N s v l⟩
theorem foot_chZx {N : Nat} {s : Nat → Prop} {tv : Value} {q : WAcc} {ic im ie : List (List Value)} {W : World} {r : S129} {b : List S30 × List Int} {v2 v3 v4 b4 b5 v : Value} {l : List S30} (h : (chZr N s tv q ic im ie r b v2 v3 v4 b4 b5).p W) (h2 : k30.R 30 W N s v l) : Foot (chZx N s tv q ic im ie r b v2 v3 v4 b4 b5 v l).p W (chZx N s tv q ic im ie r b v2 v3 v4 b4 b5 v l).s := fun W' hW => ⟨foot_chZr h.1 h.2 W' hW, Kd.R_step h2 hW⟩
theorem wor_elem {N : Nat} {s : Nat → Prop} {W : World} {A : Option Addr} {n c : Nat} {l : List S133} (h : k133.R 133 W N s (.slice A n c) l) (j : Nat) (hj : j < l.length) :
    ∃ g A5 c5, A = some ⟨g, 0, none⟩ ∧ k30.R 30 W N s (.slice A5 (l.getD j z133).f4.length c5) (l.getD j z133).f4 ∧ W.cell? ⟨g, j * 6, none⟩ = some (.string (l.getD j z133).f0) ∧ W.cell? ⟨g, j * 6 + 1, none⟩ = some (.int .i64 (l.getD j z133).f1) ∧ W.cell? ⟨g, j * 6 + 2, none⟩ = some (.int .u8 (l.getD j z133).f2) ∧ W.cell? ⟨g, j * 6 + 3, none⟩ = some (.int .u8 (l.getD j z133).f3.f0) ∧ W.cell? ⟨g, j * 6 + 4, none⟩ = some (.int .u16 (l.getD j z133).f3.f1) ∧ W.cell? ⟨g, j * 6 + 5, none⟩ = some (.slice A5 (l.getD j z133).f4.length c5) := by
  obtain ⟨g, c', hg, -⟩ := Kd.R_form h (by omega)
  injection hg with h1 h2 h3
  subst h1 h2 h3
  obtain ⟨c, -, hM, hcc, -⟩ := Kd.R_elem h z133 (j : Int) (by omega) (by omega)
  simp only [Int.toNat_natCast] at hM hcc
  obtain ⟨v5, rfl, hR5⟩ := k133_openM hM
  obtain ⟨A5, c5, rfl⟩ := Kd.R_slice hR5
  exact ⟨g, A5, c5, rfl, Kd.R_mono hR5 (fun k_ hk_ => hk_.1), hcc 0 _ rfl, hcc 1 _ rfl, hcc 2 _ rfl, hcc 3 _ rfl, hcc 4 _ rfl, hcc 5 _ rfl⟩
theorem wor_method {N : Nat} {w0 W : World} {L : List Chunk} {s : Nat → Prop} {tv : Value} {cs : List S110} {ms : List S86} {es : List S131} {ic im ie : List (List Value)} {r : S129} {b : List S30 × List Int} {v2 v3 v4 b4 b5 : Value} {A5 : Option Addr} {c5 : Nat} {x : S133} {k : Int} (h : Sep N w0 W L)
    (hi : L[4]? = some (chZx N s tv ⟨cs, ms, es⟩ ic im ie r b v2 v3 v4 b4 b5 (.slice A5 x.f4.length c5) x.f4)) :
    Sep N w0 W (L.set 4 (chZr N s tv ⟨cs, ms ++ [wLinked k x], es⟩ ic (im ++ [[.int .i64 0, .int .u8 x.f2, .int .i64 k, .slice A5 x.f4.length c5, .int .u8 x.f3.f0, .int .u16 x.f3.f1, .int .i64 0, .int .i64 0, .slice none 0 0, .slice none 0 0, .int .i64 x.f1]]) ie r b v2 v3 v4 b4 b5)) := by
  obtain ⟨⟨hz, hr⟩, h5⟩ := h.get 4 hi
  exact h.turn 4 hi _ (fun _ h => h) (foot_chZr ⟨hz.t, hz.c, hz.m.snoc (k86_mkM W N s (wLinked k x) h5 (Kd.R_nil _ _ _ _ _) (Kd.R_nil _ _ _ _ _)), hz.e⟩ hr)
theorem RowsIn.one {α : Type} {R : α → List Value → Prop} {x : α} {c : List Value} (h : R x c) : RowsIn R [x] [c] := RowsIn.snoc RowsIn.nil h
theorem winfo131 : (Try.prog.info? 131).map (fun i => (i.zero, i.size, i.bytes)) = some (some (.agg #[(.int .i64 0), (.slice none 0 0), (.slice none 0 0)]), 3, 56) := by kernel_rfl
theorem wor_round {w : World} {b0 : Nat} {tv : Value} {k : Nat} {r : S129} {q : WAcc} {s : Nat → Prop} {AC AM AE AF AV AX : Option Addr} {cC cM cE cF cV cX : Nat} {ic im ie : List (List Value)} {v2 v3 v4 b4 b5 : Value} {br bx : Nat} {ms ms1 : List S86} {F : List S30} {V X : List Int} {wr : World} {ys1 ys2 : List Value}
    (H : Sep w.heap.size w wr
      [chB b0 54 [.slice none 0 0, .slice none 0 0, .slice none 0 0, .slice none 0 0],
       chB (b0 + 1) 54 [.slice AC (k + 1) cC, .slice AM ms.length cM, .slice none 0 0, .slice none 0 0],
       chR (Kd.int .u8) 5 w.heap.size (.slice (some ⟨b0 + 1 + 1, 0, none⟩) 7 7) wU,
       chB (b0 + 1 + 1 + 1) 124 [.slice (some ⟨b0 + 1 + 1, 0, none⟩) 7 7, .int .u8 1, .int .u8 0, .bool false, .slice AE (k + 1) cE, .slice none 0 0],
       chZr w.heap.size s tv ⟨q.cs, ms, q.es⟩ ic im ie r (wBase q r) v2 v3 v4 b4 b5,
       chR (kRaw 7) 110 w.heap.size (.slice AC (k + 1) cC) (ic ++ [[.int .i64 0, .int .u8 r.f1, .int .i64 r.f0, .slice none 0 0, .slice AF F.length cF, .slice AV V.length cV, .slice none 0 0]]), chR (kRaw 11) 86 w.heap.size (.slice AM ms.length cM) im, chR (kRaw 3) 131 w.heap.size (.slice AE (k + 1) cE) (ie ++ [[.int .i64 k, .slice none 0 0, .slice AX X.length cX]]),
       chB br 129 ys1, chB (br + 1) 110 ys2,
       chR k30 30 w.heap.size (.slice AF F.length cF) F, chR (Kd.int .i64) 3 w.heap.size (.slice AV V.length cV) V,
       chB bx 131 [.int .i64 k, .slice none 0 0, .slice AX X.length cX], chR (Kd.int .i64) 3 w.heap.size (.slice AX X.length cX) X])
    (hst : wTo (k + 1) = wStep q r) (hk : q.cs.length = k) (hF : F = (wBase q r).1 ++ r.f2) (hv : r.f3.foldl (wVirt k) ((wBase q r).2, q.ms) = (V, ms1)) (hx : r.f4.foldl (wExp k) ([], ms1) = (X, ms)) :
    Outer w b0 (b0 + 1) (b0 + 1 + 1 + 1) (b0 + 1 + 1) tv (k + 1) wr := by
  have hq : wStep q r = ⟨q.cs ++ [⟨0, r.f1, r.f0, [], F, V, []⟩], ms, q.es ++ [⟨k, [], X⟩]⟩ := by
    simp only [wStep, hk, hv, hx, hF]
  obtain ⟨hz, -⟩ := H.get 4 rfl
  have hRF : k30.R 30 wr w.heap.size (fun _ => True) (.slice AF F.length cF) F := H.get 10 rfl
  have hRV : (Kd.int .i64).R 3 wr w.heap.size (fun _ => True) (.slice AV V.length cV) V := H.get 11 rfl
  have hRX : (Kd.int .i64).R 3 wr w.heap.size (fun _ => True) (.slice AX X.length cX) X := H.get 13 rfl
  have hfin : Zone w.heap.size (fun j => ((s j ∨ (Value.slice AF F.length cF).ownBlock = some j) ∨ (Value.slice AV V.length cV).ownBlock = some j) ∨ (Value.slice AX X.length cX).ownBlock = some j) tv ⟨q.cs ++ [⟨0, r.f1, r.f0, [], F, V, []⟩], ms, q.es ++ [⟨k, [], X⟩]⟩ (ic ++ [[.int .i64 0, .int .u8 r.f1, .int .i64 r.f0, .slice none 0 0, .slice AF F.length cF, .slice AV V.length cV, .slice none 0 0]]) im (ie ++ [[.int .i64 k, .slice none 0 0, .slice AX X.length cX]]) wr := by
    have hw := hz.wide (s' := fun j => ((s j ∨ (Value.slice AF F.length cF).ownBlock = some j) ∨ (Value.slice AV V.length cV).ownBlock = some j) ∨ (Value.slice AX X.length cX).ownBlock = some j) (fun j hj => .inl (.inl (.inl hj)))
    exact ⟨hw.t, hw.c.snoc (k110_mkM wr w.heap.size _ ⟨0, r.f1, r.f0, [], F, V, []⟩ (Kd.R_nil _ _ _ _ _) (Kd.R_mono (Kd.R_tight rfl hRF) (fun j hj => .inl (.inl (.inr hj.symm)))) (Kd.R_mono (Kd.R_tight rfl hRV) (fun j hj => .inl (.inr hj.symm))) (Kd.R_nil _ _ _ _ _)), hw.m,
      hw.e.snoc (k131_mkM wr w.heap.size _ ⟨k, [], X⟩ (Kd.R_nil _ _ _ _ _) (Kd.R_mono (Kd.R_tight rfl hRX) (fun j hj => .inr hj.symm)))⟩
  have j1 := H.join 4 10 (by decide) rfl rfl ⟨fun j => s j ∨ (Value.slice AF F.length cF).ownBlock = some j, fun _ => True⟩ (fun j hj => hj) (fun _ _ => trivial)
  have j2 := j1.join 4 11 (by decide) rfl rfl ⟨fun j => (s j ∨ (Value.slice AF F.length cF).ownBlock = some j) ∨ (Value.slice AV V.length cV).ownBlock = some j, fun _ => True⟩ (fun j hj => hj) (fun _ _ => trivial)
  have j3 := j2.join 4 13 (by decide) rfl rfl (chZ _ _ _ _ _ _ _) (fun j hj => hj) (foot_chZ hfin)
  refine ⟨(fun j => ((s j ∨ (Value.slice AF F.length cF).ownBlock = some j) ∨ (Value.slice AV V.length cV).ownBlock = some j) ∨ (Value.slice AX X.length cX).ownBlock = some j), AC, AM, AE, cC, cM, cE, (ic ++ [[.int .i64 0, .int .u8 r.f1, .int .i64 r.f0, .slice none 0 0, .slice AF F.length cF, .slice AV V.length cV, .slice none 0 0]]), im, (ie ++ [[.int .i64 k, .slice none 0 0, .slice AX X.length cX]]), ?_⟩
  rw [hst, hq]
  exact j3.take 8
theorem wor_done {w wr : World} {b0 bw bp : Nat} {ys0 ys1 ys2 : List Value} {tv vu vC vM vE vP : Value} {s : Nat → Prop} {q : WAcc} {ic im ie : List (List Value)}
    (H : Sep w.heap.size w wr [chB b0 54 ys0, chB bw 54 ys1, chR (Kd.int .u8) 5 w.heap.size vu wU, chB bp 124 ys2, chZ w.heap.size s tv q ic im ie, chR (kRaw 7) 110 w.heap.size vC ic, chR (kRaw 11) 86 w.heap.size vM im, chR (kRaw 3) 131 w.heap.size vE ie, chR (kRaw 6) 124 w.heap.size vP [[vu, .int .u8 1, .int .u8 0, .bool false, vE, .slice none 0 0]]]) :
    Kd.R k110 110 wr w.heap.size (fun _ => True) vC q.cs ∧ Kd.R k86 86 wr w.heap.size (fun _ => True) vM q.ms ∧ Kd.R k124 124 wr w.heap.size (fun _ => True) vP [⟨wU, ⟨1, 0⟩, false, q.es, []⟩] ∧ Below w.heap.size w wr := by
  have hz : Zone w.heap.size s tv q ic im ie wr := H.get 4 rfl
  refine ⟨row_of_raw (d := k110) (H.get 5 rfl) hz.c (fun j hj => ⟨trivial, fun he => H.apart 4 5 _ _ (by decide) rfl rfl j hj he.symm⟩) (fun _ _ => trivial), row_of_raw (d := k86) (H.get 6 rfl) hz.m (fun j hj => ⟨trivial, fun he => H.apart 4 6 _ _ (by decide) rfl rfl j hj he.symm⟩) (fun _ _ => trivial), ?_, H.below⟩
  refine row_of_raw (d := k124) (ok2 := fun j => some j ≠ vP.ownBlock) (H.get 8 rfl) (RowsIn.one (k124_mkM wr w.heap.size _ ⟨wU, ⟨1, 0⟩, false, q.es, []⟩ ?_ ?_ (Kd.R_nil _ _ _ _ _))) (fun j hj => ⟨trivial, hj⟩) (fun _ _ => trivial)
  · have h2 : (Kd.int .u8).R 5 wr w.heap.size (fun _ => True) vu wU := H.get 2 rfl
    exact Kd.R_mono (Kd.R_tight rfl h2) (fun j hj he => H.apart 2 8 _ _ (by decide) rfl rfl j hj.symm he.symm)
  · exact row_of_raw (d := k131) (H.get 7 rfl) hz.e (fun j hj => ⟨fun he => H.apart 4 8 _ _ (by decide) rfl rfl j hj he.symm, fun he => H.apart 4 7 _ _ (by decide) rfl rfl j hj he.symm⟩) (fun j hj he => H.apart 7 8 _ _ (by decide) rfl rfl j hj he.symm)
set_option maxHeartbeats 8000000 in
set_option maxRecDepth 100000 in
theorem garderoberef12_World.calls  (r1 : List (S110)) (r2 : List (S86)) (r3 : List (S185)) (r4 : List (S124)) (w : World) (h : garderoberef12_World.f  = some (r1, r2, r3, r4)) :
    Calls Try.prog 37 #[] w fun e w' => ∃ v0_ v1_ v2_ v3_ : Value, e = .returned (.agg #[v0_, v1_, v2_, v3_]) ∧ Kd.R k110 110 w' w.heap.size (fun _ => True) v0_ r1 ∧ Kd.R k86 86 w' w.heap.size (fun _ => True) v1_ r2 ∧ Kd.R k185 185 w' w.heap.size (fun _ => True) v2_ r3 ∧ Kd.R k124 124 w' w.heap.size (fun _ => True) v3_ r4 ∧ Below w.heap.size w w' := by
  have hu54 := Try.underlying54
  go_enter Try.func37, Try.ntmps37
  go_wp2_with fail
  refine (garderoberef12_table.calls tabRows _ rfl).mono ?_
  rintro e w1 ⟨tv, rfl, ht, hb⟩
  have HO := Aside0.mk (wor_start hb ht)
  obtain ⟨g, cap, rfl, -⟩ := Kd.R_form ht (by decide)
  clear ht hb
  obtain ⟨b0, hb0⟩ : ∃ b, b = w.heap.size := ⟨_, rfl⟩
  simp only [← hb0] at HO ⊢
  rw [show tabRows.length = 17 from rfl] at HO ⊢
  clear hb0
  go_wp2_with fail
  go_loopw [4] (fun i wr => ∃ k : Nat, k ≤ 17 ∧ i = .int .i64 k ∧ Aside0 (Outer w b0 (b0+1) (b0+1+1+1) (b0+1+1) (.slice (some ⟨g,0,none⟩) 17 cap) k wr)) (fun i _ => 17 - (intOf i).toNat)
  case atStart => exact ⟨0, by omega, rfl, HO⟩
  case round =>
    clear HO
    obtain ⟨k, hk, rfl, hR⟩ := hrel
    obtain ⟨s, AC, AM, AE, cC, cM, cE, ic, im, ie, H⟩ := hR.out
    clear hR
    by_cases hlt : k < 17
    · have hsucc := wTo_succ k hlt
      obtain ⟨hcs, hes, hsup, hF, hV, hMs⟩ := wOk_at k hlt
      have hz := H.get 4 rfl
      obtain ⟨c, hcl, hM, hcc, -⟩ := Kd.R_elem hz.t z129 (k : Int) (by omega) (by omega)
      simp only [Int.toNat_natCast] at hM hcc
      generalize tabRows.getD k z129 = r at *
      generalize wTo k = q at *
      obtain ⟨v2, v3, v4, rfl, h2, h3, h4⟩ := k129_openM hM
      have h2 := Kd.R_mono h2 (fun k_ hk_ => hk_.1)
      have h3 := Kd.R_mono h3 (fun k_ hk_ => hk_.1)
      have h4 := Kd.R_mono h4 (fun k_ hk_ => hk_.1)
      obtain ⟨b4, b5, hb4, hb5, hbc⟩ := wor_base hz r (by omega)
      obtain ⟨A2, c2, rfl⟩ := Kd.R_slice h2
      obtain ⟨A3, c3, rfl⟩ := Kd.R_slice h3
      obtain ⟨A4, c4, rfl⟩ := Kd.R_slice h4
      have H1 := Aside0.mk (H.turn 4 rfl (chZr _ s _ q ic im ie r (wBase q r) _ _ _ b4 b5) (fun _ h => h) (foot_chZr hz ⟨h2, h3, h4, hb4, hb5⟩))
      have g0 := hcc 0 _ rfl
      have g1 := hcc 1 _ rfl
      have g2 := hcc 2 _ rfl
      have g3 := hcc 3 _ rfl
      have g4 := hcc 4 _ rfl
      simp only [show k129.sz = 5 from rfl, Nat.add_zero] at g0 g1 g2 g3 g4
      have HF := Aside0.mk hF
      have HV := Aside0.mk hV
      have HMs := Aside0.mk hMs
      have HBC := Aside0.mk hbc
      have HS := Aside0.mk hsucc
      clear hcc hM h2 h3 h4 hb4 hb5 hz H hF hV hMs hbc hcl hsucc
      go_upto_if 31 with fail
      have H2 := Aside0.mk ((((H1.out.appB 129 [.int .i64 r.f0, .int .u8 r.f1, .slice A2 r.f2.length c2, .slice A3 r.f3.length c3, .slice A4 r.f4.length c4]).appB 110 [.int .i64 0, .int .u8 r.f1, .int .i64 r.f0, .slice none 0 0, .slice none 0 0, .slice none 0 0, .slice none 0 0]).appNilR k30 rfl 30 w.heap.size).appNilR (Kd.int .i64) rfl 3 w.heap.size)
      obtain ⟨br, hbr⟩ : ∃ b, b = wr.heap.size := ⟨_, rfl⟩
      simp only [World.size_alloc, ← hbr] at H2 ⊢
      have H3 : Aside0 (Sep w.heap.size w _ (wL w b0 _ k r q s AC AE cC cE ic ie A2 A3 A4 c2 c3 c4 b4 b5 br q.ms AM cM im [] none 0 [] none 0)) := ⟨H2.out⟩
      clear H1 H2
      generalize (World.alloc _ _) = wa at H3 ⊢
      clear g0 g1 g2 g3 g4 h2 h3 h4 hbr
      go_cut [] from 14 to 139 (fun wc => ∃ (AF AV : Option Addr) (cF cV : Nat), Aside0 (Sep w.heap.size w wc (wL w b0 (.slice (some ⟨g, 0, none⟩) 17 cap) k r q s AC AE cC cE ic ie A2 A3 A4 c2 c3 c4 b4 b5 br q.ms AM cM im (wBase q r).1 AF cF (wBase q r).2 AV cV)))
      case first =>
        by_cases h0 : 0 ≤ r.f0
        · obtain ⟨f0, f1, f2, f3, f4, f5, f6⟩ := blk110 (H3.out.get 9 rfl)
          obtain ⟨k0, k1, k2, k3⟩ := blk54 (H3.out.get 1 rfl)
          obtain ⟨r0, -, -, -, -⟩ := blk129 (H3.out.get 8 rfl)
          have hic : ic.length = k := by rw [← hcs]; exact (H3.out.get 4 rfl).1.c.1.symm
          obtain ⟨gC, capC, hgc, -⟩ := Kd.R_form (H3.out.get 5 rfl) (by omega)
          injection hgc with hgc1 hgc2 hgc3
          subst hgc1 hgc3
          obtain ⟨c, -, hM, hcc, -⟩ := Kd.R_elem (H3.out.get 5 rfl) [] r.f0 (by omega) (by omega)
          obtain ⟨x0, x1, x2, x3, x6, hx⟩ := HBC.out h0
          have hM2 : c = _ := hM.1.trans hx
          subst hM2
          have e4 := hcc 4 _ rfl
          have e5 := hcc 5 _ rfl
          simp only [show (kRaw 7).sz = 7 from rfl] at e4 e5
          clear hM hcc hgc2
          simp only [List.length_nil] at f4
          go_wp2_with fail
          refine wp_region_steps (ts := [Told.val (.pointer (some ⟨br + 1, 4, none⟩)), Told.val (.slice none 0 0), Told.val (.pointer (some ⟨b0 + 1, 0, none⟩)), Told.val (.slice (some ⟨gC, 0, none⟩) k cC), Told.val (.pointer (some ⟨br, 0, none⟩)), Told.val (.int .i64 r.f0), Told.val (.pointer (some ⟨gC, r.f0.toNat * 7, none⟩)), Told.val (.pointer (some ⟨gC, r.f0.toNat * 7 + 4, none⟩)), Told.val (b4)]) (by kernel_rfl) (by kernel_rfl) ?_ ?_
          · refine ⟨?_, ?_, ?_, ?_, ?_, ?_, ?_, ?_, ?_, trivial⟩
            · intro a' w' hf hb hd
              have p0_ := frame_at hf 6 (.pointer (some ⟨br + 1, 0, none⟩)) (by kernel_rfl) rfl
              have p02_ : a'.tmps[6]?.getD undef = .pointer (some ⟨br + 1, 0, none⟩) := by simpa [Act.eval] using p0_
              exact told_run (v := .pointer (some ⟨br + 1, 4, none⟩)) rfl (by simp [execOp, p0_, p02_]; try go_simp) rfl (Below.refl _ _)
            · intro a' w' hf hb hd
              have d0_ : a'.eval (.tmp 32) = .pointer (some ⟨br + 1, 4, none⟩) := hd 0 (by decide)
              have d02_ : a'.tmps[32]?.getD undef = .pointer (some ⟨br + 1, 4, none⟩) := by simpa [Act.eval] using d0_
              have c0_ := pw_cell_below hb f4
              exact told_run (v := .slice none 0 0) rfl (by simp [execOp, d0_, d02_]; try go_simp) rfl (Below.refl _ _)
            · intro a' w' hf hb hd
              have p0_ := frame_at hf 1 (.pointer (some ⟨b0 + 1, 0, none⟩)) (by kernel_rfl) rfl
              have p02_ : a'.tmps[1]?.getD undef = .pointer (some ⟨b0 + 1, 0, none⟩) := by simpa [Act.eval] using p0_
              exact told_run (v := .pointer (some ⟨b0 + 1, 0, none⟩)) rfl (by simp [execOp, p0_, p02_]; try go_simp) rfl (Below.refl _ _)
            · intro a' w' hf hb hd
              have d0_ : a'.eval (.tmp 34) = .pointer (some ⟨b0 + 1, 0, none⟩) := hd 2 (by decide)
              have d02_ : a'.tmps[34]?.getD undef = .pointer (some ⟨b0 + 1, 0, none⟩) := by simpa [Act.eval] using d0_
              have c0_ := pw_cell_below hb k0
              exact told_run (v := .slice (some ⟨gC, 0, none⟩) k cC) rfl (by simp [execOp, d0_, d02_]; try go_simp) rfl (Below.refl _ _)
            · intro a' w' hf hb hd
              have p0_ := frame_at hf 5 (.pointer (some ⟨br, 0, none⟩)) (by kernel_rfl) rfl
              have p02_ : a'.tmps[5]?.getD undef = .pointer (some ⟨br, 0, none⟩) := by simpa [Act.eval] using p0_
              exact told_run (v := .pointer (some ⟨br, 0, none⟩)) rfl (by simp [execOp, p0_, p02_]; try go_simp) rfl (Below.refl _ _)
            · intro a' w' hf hb hd
              have d0_ : a'.eval (.tmp 36) = .pointer (some ⟨br, 0, none⟩) := hd 4 (by decide)
              have d02_ : a'.tmps[36]?.getD undef = .pointer (some ⟨br, 0, none⟩) := by simpa [Act.eval] using d0_
              have c0_ := pw_cell_below hb r0
              exact told_run (v := .int .i64 r.f0) rfl (by simp [execOp, d0_, d02_]; try go_simp) rfl (Below.refl _ _)
            · intro a' w' hf hb hd
              have d0_ : a'.eval (.tmp 35) = .slice (some ⟨gC, 0, none⟩) k cC := hd 3 (by decide)
              have d02_ : a'.tmps[35]?.getD undef = .slice (some ⟨gC, 0, none⟩) k cC := by simpa [Act.eval] using d0_
              have d1_ : a'.eval (.tmp 37) = .int .i64 r.f0 := hd 5 (by decide)
              have d12_ : a'.tmps[37]?.getD undef = .int .i64 r.f0 := by simpa [Act.eval] using d1_
              exact told_run (v := .pointer (some ⟨gC, r.f0.toNat * 7, none⟩)) rfl (by simp [execOp, d0_, d02_, d1_, d12_]; try go_simp) rfl (Below.refl _ _)
            · intro a' w' hf hb hd
              have d0_ : a'.eval (.tmp 38) = .pointer (some ⟨gC, r.f0.toNat * 7, none⟩) := hd 6 (by decide)
              have d02_ : a'.tmps[38]?.getD undef = .pointer (some ⟨gC, r.f0.toNat * 7, none⟩) := by simpa [Act.eval] using d0_
              exact told_run (v := .pointer (some ⟨gC, r.f0.toNat * 7 + 4, none⟩)) rfl (by simp [execOp, d0_, d02_]; try go_simp) rfl (Below.refl _ _)
            · intro a' w' hf hb hd
              have d0_ : a'.eval (.tmp 39) = .pointer (some ⟨gC, r.f0.toNat * 7 + 4, none⟩) := hd 7 (by decide)
              have d02_ : a'.tmps[39]?.getD undef = .pointer (some ⟨gC, r.f0.toNat * 7 + 4, none⟩) := by simpa [Act.eval] using d0_
              have c0_ := pw_cell_below hb e4
              exact told_run (v := b4) rfl (by simp [execOp, d0_, d02_]; try go_simp) rfl (Below.refl _ _)
          · intro a' w' hf hb hd
            have ha := act_of_frame hf [32, 33, 34, 35, 36, 37, 38, 39, 40] (by kernel_rfl) (by kernel_rfl)
            have e0_ : a'.eval (.tmp 32) = .pointer (some ⟨br + 1, 4, none⟩) := hd 0 (by simp)
            have e1_ : a'.eval (.tmp 33) = .slice none 0 0 := hd 1 (by simp)
            have e2_ : a'.eval (.tmp 34) = .pointer (some ⟨b0 + 1, 0, none⟩) := hd 2 (by simp)
            have e3_ : a'.eval (.tmp 35) = .slice (some ⟨gC, 0, none⟩) k cC := hd 3 (by simp)
            have e4_ : a'.eval (.tmp 36) = .pointer (some ⟨br, 0, none⟩) := hd 4 (by simp)
            have e5_ : a'.eval (.tmp 37) = .int .i64 r.f0 := hd 5 (by simp)
            have e6_ : a'.eval (.tmp 38) = .pointer (some ⟨gC, r.f0.toNat * 7, none⟩) := hd 6 (by simp)
            have e7_ : a'.eval (.tmp 39) = .pointer (some ⟨gC, r.f0.toNat * 7 + 4, none⟩) := hd 7 (by simp)
            have e8_ : a'.eval (.tmp 40) = b4 := hd 8 (by simp)
            simp only [List.foldl_cons, List.foldl_nil, List.setIfInBounds_toArray, List.set_cons_succ, List.set_cons_zero, e0_, e1_, e2_, e3_, e4_, e5_, e6_, e7_, e8_] at ha
            clear hf hd e0_ e1_ e2_ e3_ e4_ e5_ e6_ e7_ e8_
            subst ha
            simp only [List.length_cons, List.length_nil, Nat.reduceAdd, List.drop_succ_cons, List.drop_zero]
            have H4 := Aside0.mk (H3.out.same hb)
            obtain ⟨A4_, c4_, hb4_, -, hC4_⟩ := Kd.R_reads (H4.out.get 4 rfl).2.bf
            subst hb4_
            have HC4 := Aside0.mk hC4_
            clear H3 hb hC4_ f0 f1 f2 f3 f4 f5 f6 k0 k1 k2 k3 r0 e4 e5
            go_wp2_with (first | (at_builtin; refine sep_appendR k30 rfl H4.out 10 rfl rfl (.tmp 33) (.tmp 40) 80 (.agg #[.int .u8 0, .int .u16 0]) 4 rfl Try.underlying80 winfo30 rfl (by decide) (by decide) (wBase q r).1 A4_ _ c4_ rfl rfl HC4.out (fun _ _ h => h) (by have := HF.out; simp; omega) ?_; intro vF w2 H5; clear HC4; obtain ⟨AF, cF, hvF⟩ := Kd.R_slice (H5.get 10 rfl); subst hvF; have H6 := Aside0.mk H5; clear H5) | (refine sep_store H6.out 9 rfl rfl rfl 80 (.tmp 42) (.tmp 41) rfl 4 rfl _ [_] rfl rfl (show _ = some 1 by kernel_rfl) rfl (by simp) _ rfl ?_; intro w3 H7_; have H7 := Aside0.mk H7_; clear H7_ H6))
            have H8 : Aside0 (Sep w.heap.size w w3 (wL w b0 (.slice (some ⟨g, 0, none⟩) 17 cap) k r q s (some ⟨gC, 0, none⟩) AE cC cE ic ie A2 A3 A4 c2 c3 c4 (.slice A4_ (wBase q r).1.length c4_) b5 br q.ms AM cM im (wBase q r).1 AF cF [] none 0)) := ⟨H7.out⟩
            clear H7 H4
            obtain ⟨f0, f1, f2, f3, f4, f5, f6⟩ := blk110 (H8.out.get 9 rfl)
            obtain ⟨k0, k1, k2, k3⟩ := blk54 (H8.out.get 1 rfl)
            obtain ⟨r0, -, -, -, -⟩ := blk129 (H8.out.get 8 rfl)
            obtain ⟨c, -, hM, hcc, -⟩ := Kd.R_elem (H8.out.get 5 rfl) [] r.f0 (by omega) (by omega)
            have hM2 : c = _ := hM.1.trans hx
            subst hM2
            have e5 := hcc 5 _ rfl
            simp only [show (kRaw 7).sz = 7 from rfl] at e5
            clear hM hcc
            simp only [List.length_nil] at f5
            refine wp_region_steps (ts := [Told.val (.pointer (some ⟨br + 1, 5, none⟩)), Told.val (.slice none 0 0), Told.val (.pointer (some ⟨b0 + 1, 0, none⟩)), Told.val (.slice (some ⟨gC, 0, none⟩) k cC), Told.val (.pointer (some ⟨br, 0, none⟩)), Told.val (.int .i64 r.f0), Told.val (.pointer (some ⟨gC, r.f0.toNat * 7, none⟩)), Told.val (.pointer (some ⟨gC, r.f0.toNat * 7 + 5, none⟩)), Told.val (b5)]) (by kernel_rfl) (by kernel_rfl) ?_ ?_
            · refine ⟨?_, ?_, ?_, ?_, ?_, ?_, ?_, ?_, ?_, trivial⟩
              · intro a' w' hf hb hd
                have p0_ := frame_at hf 6 (.pointer (some ⟨br + 1, 0, none⟩)) (by kernel_rfl) rfl
                have p02_ : a'.tmps[6]?.getD undef = .pointer (some ⟨br + 1, 0, none⟩) := by simpa [Act.eval] using p0_
                exact told_run (v := .pointer (some ⟨br + 1, 5, none⟩)) rfl (by simp [execOp, p0_, p02_]; try go_simp) rfl (Below.refl _ _)
              · intro a' w' hf hb hd
                have d0_ : a'.eval (.tmp 43) = .pointer (some ⟨br + 1, 5, none⟩) := hd 0 (by decide)
                have d02_ : a'.tmps[43]?.getD undef = .pointer (some ⟨br + 1, 5, none⟩) := by simpa [Act.eval] using d0_
                have c0_ := pw_cell_below hb f5
                exact told_run (v := .slice none 0 0) rfl (by simp [execOp, d0_, d02_]; try go_simp) rfl (Below.refl _ _)
              · intro a' w' hf hb hd
                have p0_ := frame_at hf 1 (.pointer (some ⟨b0 + 1, 0, none⟩)) (by kernel_rfl) rfl
                have p02_ : a'.tmps[1]?.getD undef = .pointer (some ⟨b0 + 1, 0, none⟩) := by simpa [Act.eval] using p0_
                exact told_run (v := .pointer (some ⟨b0 + 1, 0, none⟩)) rfl (by simp [execOp, p0_, p02_]; try go_simp) rfl (Below.refl _ _)
              · intro a' w' hf hb hd
                have d0_ : a'.eval (.tmp 45) = .pointer (some ⟨b0 + 1, 0, none⟩) := hd 2 (by decide)
                have d02_ : a'.tmps[45]?.getD undef = .pointer (some ⟨b0 + 1, 0, none⟩) := by simpa [Act.eval] using d0_
                have c0_ := pw_cell_below hb k0
                exact told_run (v := .slice (some ⟨gC, 0, none⟩) k cC) rfl (by simp [execOp, d0_, d02_]; try go_simp) rfl (Below.refl _ _)
              · intro a' w' hf hb hd
                have p0_ := frame_at hf 5 (.pointer (some ⟨br, 0, none⟩)) (by kernel_rfl) rfl
                have p02_ : a'.tmps[5]?.getD undef = .pointer (some ⟨br, 0, none⟩) := by simpa [Act.eval] using p0_
                exact told_run (v := .pointer (some ⟨br, 0, none⟩)) rfl (by simp [execOp, p0_, p02_]; try go_simp) rfl (Below.refl _ _)
              · intro a' w' hf hb hd
                have d0_ : a'.eval (.tmp 47) = .pointer (some ⟨br, 0, none⟩) := hd 4 (by decide)
                have d02_ : a'.tmps[47]?.getD undef = .pointer (some ⟨br, 0, none⟩) := by simpa [Act.eval] using d0_
                have c0_ := pw_cell_below hb r0
                exact told_run (v := .int .i64 r.f0) rfl (by simp [execOp, d0_, d02_]; try go_simp) rfl (Below.refl _ _)
              · intro a' w' hf hb hd
                have d0_ : a'.eval (.tmp 46) = .slice (some ⟨gC, 0, none⟩) k cC := hd 3 (by decide)
                have d02_ : a'.tmps[46]?.getD undef = .slice (some ⟨gC, 0, none⟩) k cC := by simpa [Act.eval] using d0_
                have d1_ : a'.eval (.tmp 48) = .int .i64 r.f0 := hd 5 (by decide)
                have d12_ : a'.tmps[48]?.getD undef = .int .i64 r.f0 := by simpa [Act.eval] using d1_
                exact told_run (v := .pointer (some ⟨gC, r.f0.toNat * 7, none⟩)) rfl (by simp [execOp, d0_, d02_, d1_, d12_]; try go_simp) rfl (Below.refl _ _)
              · intro a' w' hf hb hd
                have d0_ : a'.eval (.tmp 49) = .pointer (some ⟨gC, r.f0.toNat * 7, none⟩) := hd 6 (by decide)
                have d02_ : a'.tmps[49]?.getD undef = .pointer (some ⟨gC, r.f0.toNat * 7, none⟩) := by simpa [Act.eval] using d0_
                exact told_run (v := .pointer (some ⟨gC, r.f0.toNat * 7 + 5, none⟩)) rfl (by simp [execOp, d0_, d02_]; try go_simp) rfl (Below.refl _ _)
              · intro a' w' hf hb hd
                have d0_ : a'.eval (.tmp 50) = .pointer (some ⟨gC, r.f0.toNat * 7 + 5, none⟩) := hd 7 (by decide)
                have d02_ : a'.tmps[50]?.getD undef = .pointer (some ⟨gC, r.f0.toNat * 7 + 5, none⟩) := by simpa [Act.eval] using d0_
                have c0_ := pw_cell_below hb e5
                exact told_run (v := b5) rfl (by simp [execOp, d0_, d02_]; try go_simp) rfl (Below.refl _ _)
            · intro a' w' hf hb hd
              have ha := act_of_frame hf [43, 44, 45, 46, 47, 48, 49, 50, 51] (by kernel_rfl) (by kernel_rfl)
              have e0_ : a'.eval (.tmp 43) = .pointer (some ⟨br + 1, 5, none⟩) := hd 0 (by simp)
              have e1_ : a'.eval (.tmp 44) = .slice none 0 0 := hd 1 (by simp)
              have e2_ : a'.eval (.tmp 45) = .pointer (some ⟨b0 + 1, 0, none⟩) := hd 2 (by simp)
              have e3_ : a'.eval (.tmp 46) = .slice (some ⟨gC, 0, none⟩) k cC := hd 3 (by simp)
              have e4_ : a'.eval (.tmp 47) = .pointer (some ⟨br, 0, none⟩) := hd 4 (by simp)
              have e5_ : a'.eval (.tmp 48) = .int .i64 r.f0 := hd 5 (by simp)
              have e6_ : a'.eval (.tmp 49) = .pointer (some ⟨gC, r.f0.toNat * 7, none⟩) := hd 6 (by simp)
              have e7_ : a'.eval (.tmp 50) = .pointer (some ⟨gC, r.f0.toNat * 7 + 5, none⟩) := hd 7 (by simp)
              have e8_ : a'.eval (.tmp 51) = b5 := hd 8 (by simp)
              simp only [List.foldl_cons, List.foldl_nil, List.setIfInBounds_toArray, List.set_cons_succ, List.set_cons_zero, e0_, e1_, e2_, e3_, e4_, e5_, e6_, e7_, e8_] at ha
              clear hf hd e0_ e1_ e2_ e3_ e4_ e5_ e6_ e7_ e8_
              subst ha
              simp only [List.length_cons, List.length_nil, Nat.reduceAdd, List.drop_succ_cons, List.drop_zero]

              have H9 := Aside0.mk (H8.out.same hb)
              obtain ⟨A5_, c5_, hb5_, -, hC5_⟩ := Kd.R_reads (H9.out.get 4 rfl).2.bv
              subst hb5_
              have HC5 := Aside0.mk hC5_
              clear H8 hb hC5_ f0 f1 f2 f3 f4 f5 f6 k0 k1 k2 k3 r0 e5
              go_wp2_with (first | (at_builtin; refine sep_appendR (Kd.int .i64) rfl H9.out 11 rfl rfl (.tmp 44) (.tmp 51) 23 (.int .i64 0) 8 rfl Try.underlying23 info3 rfl (by decide) (by decide) (wBase q r).2 A5_ _ c5_ rfl rfl HC5.out (fun _ _ h => h) (by have := HV.out; simp; omega) ?_; intro vV w4 H5; clear HC5; obtain ⟨AV, cV, hvV⟩ := Kd.R_slice (H5.get 11 rfl); subst hvV; have H6 := Aside0.mk H5; clear H5) | (refine sep_store H6.out 9 rfl rfl rfl 23 (.tmp 53) (.tmp 52) rfl 5 rfl _ [_] rfl rfl (show _ = some 1 by kernel_rfl) rfl (by simp) _ rfl ?_; intro w5 H7_; have H7 := Aside0.mk H7_; clear H7_ H6))
              go_meet
              case rel => exact ⟨AF, AV, cF, cV, ⟨H7.out⟩⟩
        · go_wp2_with fail
          go_meet
          case rel =>
            refine ⟨none, none, 0, 0, ?_⟩
            have hb0 : wBase q r = ([], []) := by unfold wBase; rw [if_neg (by omega)]
            rw [hb0]
            exact H3
      case rest =>
        obtain ⟨AF0, AV0, cF0, cV0, H4⟩ := hcut
        clear H3 HBC
        obtain ⟨Fk, hFk⟩ : ∃ F, F = (wBase q r).1 ++ r.f2 := ⟨_, rfl⟩
        have HFK := Aside0.mk hFk
        clear hFk
        obtain ⟨f0, f1, f2, f3, f4, f5, f6⟩ := blk110 (H4.out.get 9 rfl)
        obtain ⟨r0, r1, r2, r3, r4⟩ := blk129 (H4.out.get 8 rfl)
        obtain ⟨-, -, hC2_⟩ := Kd.R_reads' (H4.out.get 4 rfl).2.f
        have HC2 := Aside0.mk hC2_
        clear hC2_
        go_wp2_with (first | (at_builtin; refine sep_appendR k30 rfl H4.out 10 rfl rfl (.tmp 55) (.tmp 57) 80 (.agg #[.int .u8 0, .int .u16 0]) 4 rfl Try.underlying80 winfo30 rfl (by decide) (by decide) r.f2 A2 _ c2 rfl rfl HC2.out (fun _ _ h => h) (by have := HF.out; omega) ?_; intro vF w2 H5; rw [← HFK.out] at H5; clear HC2 f0 f1 f2 f3 f4 f5 f6 r0 r1 r2 r3 r4; obtain ⟨AF, cF, hvF⟩ := Kd.R_slice (H5.get 10 rfl); subst hvF; have H6 := Aside0.mk H5; clear H5) | (refine sep_store H6.out 9 rfl rfl rfl 80 (.tmp 59) (.tmp 58) rfl 4 rfl _ [_] rfl rfl (show _ = some 1 by kernel_rfl) rfl (by simp) _ rfl ?_; intro w3 H7_; have H7 := Aside0.mk H7_; clear H7_ H6))
        have H8 := Aside0.mk ((H7.out.appB 131 [.int .i64 k, .slice none 0 0, .slice none 0 0]).appNilR (Kd.int .i64) rfl 3 w.heap.size)
        obtain ⟨bx, hbx⟩ : ∃ b, b = w3.heap.size := ⟨_, rfl⟩
        simp only [← hbx] at H8 ⊢
        have H9 : Aside0 (Sep w.heap.size w _ (wX (wL w b0 (.slice (some ⟨g, 0, none⟩) 17 cap) k r q s AC AE cC cE ic ie A2 A3 A4 c2 c3 c4 b4 b5 br q.ms AM cM im Fk AF cF (wBase q r).2 AV0 cV0) w k bx [] none 0)) := ⟨H8.out⟩
        clear H4 H7 H8 hbx
        generalize (World.alloc _ _) = wa at H9 ⊢
        go_loopw [8] (fun i wr => ∃ j : Nat, j ≤ r.f3.length ∧ i = .int .i64 j ∧ ∃ (AM : Option Addr) (cM : Nat) (im : List (List Value)) (AV : Option Addr) (cV : Nat), Aside0 (Sep w.heap.size w wr (wX (wL w b0 (.slice (some ⟨g, 0, none⟩) 17 cap) k r q s AC AE cC cE ic ie A2 A3 A4 c2 c3 c4 b4 b5 br ((r.f3.take j).foldl (wVirt k) ((wBase q r).2, q.ms)).2 AM cM im Fk AF cF ((r.f3.take j).foldl (wVirt k) ((wBase q r).2, q.ms)).1 AV cV) w k bx [] none 0))) (fun i _ => r.f3.length - (intOf i).toNat)
        case atStart => exact ⟨0, Nat.zero_le _, rfl, AM, cM, im, AV0, cV0, H9⟩
        case round =>
          clear H9
          obtain ⟨j, hj, rfl, AM, cM, im, AV, cV, H⟩ := hrel
          replace H := H.out
          by_cases hjl : j < r.f3.length
          · have hjb : j < 1000 := by have := HV.out; omega
            have hst := foldl_take (wVirt k) ((wBase q r).2, q.ms) r.f3 z133 j hjl
            obtain ⟨hl1, hl2⟩ := virt_len k (r.f3.take j) ((wBase q r).2, q.ms)
            simp only [List.length_take, Nat.min_eq_left hj] at hl1 hl2
            obtain ⟨g3_, A5, c5, rfl, -, -, g1, -⟩ := wor_elem (H.get 4 rfl).2.v j hjl
            have HX := Aside0.mk (show r.f3.getD j z133 = r.f3.getD j z133 from rfl)
            generalize hxe : r.f3.getD j z133 = x at g1 hst
            replace HX := Aside0.mk hxe
            clear hxe
            generalize (r.f3.take j).foldl (wVirt k) ((wBase q r).2, q.ms) = p at *
            obtain ⟨V, ms⟩ := p
            simp only at hl1 hl2 hst H
            have hml : ms.length = im.length := (H.get 4 rfl).1.m.1
            have HL1 := Aside0.mk hl1
            have HL2 := Aside0.mk hl2
            have HML := Aside0.mk hml
            clear hl1 hl2 hml
            obtain ⟨f0, f1, f2, f3, f4, f5, f6⟩ := blk110 (H.get 9 rfl)
            obtain ⟨k0, k1, k2, k3⟩ := blk54 (H.get 1 rfl)
            obtain ⟨r0, r1, r2, r3, r4⟩ := blk129 (H.get 8 rfl)
            by_cases hn : x.f1 = 0
            · have t1 : (x.f1 == 0) = true := by simp [hn]
              have t2 : wVirt k (V, ms) x = (V ++ [-1], ms) := by unfold wVirt; rw [if_pos hn]
              rw [t2] at hst
              obtain ⟨V2, hV2⟩ : ∃ V2, V2 = V ++ [(-1 : Int)] := ⟨_, rfl⟩
              have HV2 := Aside0.mk hV2.symm
              have HST := Aside0.mk hst
              clear hn hV2 t2 hst
              have HA := Aside0.mk H
              clear H
              go_wp2_with (first | (at_builtin; refine sep_appendR1 (Kd.int .i64) rfl HA.out 11 rfl rfl (.tmp 77) (.tmp 78) 23 (.int .i64 0) 8 rfl Try.underlying23 info3 rfl (by decide) (by decide) (-1) _ rfl rfl rfl (by have := HV.out; have := HL1.out; omega) V2 _ HV2.out rfl ?_; intro gV cV2 w5 H5; clear f0 f1 f2 f3 f4 f5 f6 r0 r1 r2 r3 r4 g1 k0 k1 k2 k3; have H6 := Aside0.mk H5; clear H5) | (refine sep_store H6.out 9 rfl rfl rfl 23 (.tmp 80) (.tmp 79) rfl 5 rfl _ [_] rfl rfl (show _ = some 1 by kernel_rfl) rfl (by simp) _ rfl ?_; intro w6 H7_; have H7 := Aside0.mk H7_; clear H7_ H6))
              obtain rfl := HV2.out
              go_roundw
              case rel => exact ⟨j + 1, by omega, by go_num, AM, cM, im, some ⟨gV, 0, none⟩, cV2, ⟨by rw [HST.out]; exact H7.out⟩⟩
              case measure => simp [intOf]; omega
            · have t1 : (x.f1 == 0) = false := by simp [hn]
              have t2 : wVirt k (V, ms) x = (V ++ [(ms.length : Int)], ms ++ [wLinked k x]) := by unfold wVirt; rw [if_neg hn]
              rw [t2] at hst
              obtain ⟨V2, hV2⟩ : ∃ V2, V2 = V ++ [(ms.length : Int)] := ⟨_, rfl⟩
              have HV2 := Aside0.mk hV2.symm
              have HST := Aside0.mk hst
              clear hn hV2 t2 hst
              have HA := Aside0.mk H
              clear H
              go_wp2_with (first | (at_builtin; refine sep_appendR1 (Kd.int .i64) rfl HA.out 11 rfl rfl (.tmp 82) (.tmp 86) 23 (.int .i64 0) 8 rfl Try.underlying23 info3 rfl (by decide) (by decide) (ms.length : Int) _ rfl rfl rfl (by have := HV.out; have := HL1.out; omega) V2 _ HV2.out rfl ?_; intro gV cV2 w5 H5; clear f0 f1 f2 f3 f4 f5 f6 r0 r1 r2 r3 r4 g1 k0 k1 k2 k3; have H6 := Aside0.mk H5; clear H5) | (refine sep_store H6.out 9 rfl rfl rfl 23 (.tmp 88) (.tmp 87) rfl 5 rfl _ [_] rfl rfl (show _ = some 1 by kernel_rfl) rfl (by simp) _ rfl ?_; intro w6 H7_; have H7 := Aside0.mk H7_; clear H7_ H6))
              have H : Sep w.heap.size w w6 (wX (wL w b0 (.slice (some ⟨g, 0, none⟩) 17 cap) k r q s AC AE cC cE ic ie A2 (some ⟨g3_, 0, none⟩) A4 c2 c3 c4 b4 b5 br ms AM cM im Fk AF cF V2 (some ⟨gV, 0, none⟩) cV2) w k bx [] none 0) := H7.out
              clear HA H7
              obtain ⟨g_, A5, c5, hg_, hR5, g0, g1, g2, g3, g4, g5⟩ := wor_elem (H.get 4 rfl).2.v j hjl
              injection hg_ with hg_
              injection hg_ with hg_
              subst hg_
              rw [HX.out] at hR5 g0 g1 g2 g3 g4 g5
              replace H := H.turn 4 rfl (chZx _ s _ _ _ _ _ r _ _ _ _ _ _ _ x.f4) (fun _ h => h) (foot_chZx (H.get 4 rfl) hR5)
              clear hR5
              obtain ⟨k0, k1, k2, k3⟩ := blk54 (H.get 1 rfl)
              obtain ⟨r0, r1, r2, r3, r4⟩ := blk129 (H.get 8 rfl)
              refine wp_region_steps (ts := [Told.val (.pointer (some ⟨b0 + 1, 1, none⟩)), Told.val (.slice AM ms.length cM), Told.val (.int .i64 k), Told.val (.pointer (some ⟨br, 3, none⟩)), Told.val (.slice (some ⟨g3_, 0, none⟩) r.f3.length c3), Told.val (.int .i64 j), Told.val (.pointer (some ⟨g3_, j * 6, none⟩)), Told.val (.agg #[.string x.f0, .int .i64 x.f1, .int .u8 x.f2, .int .u8 x.f3.f0, .int .u16 x.f3.f1, .slice A5 x.f4.length c5]), Told.val (.agg #[.int .i64 0, .int .u8 x.f2, .int .i64 k, .slice A5 x.f4.length c5, .int .u8 x.f3.f0, .int .u16 x.f3.f1, .int .i64 0, .int .i64 0, .slice none 0 0, .slice none 0 0, .int .i64 x.f1]), Told.row (kRaw 11) 86 w.heap.size [[.int .i64 0, .int .u8 x.f2, .int .i64 k, .slice A5 x.f4.length c5, .int .u8 x.f3.f0, .int .u16 x.f3.f1, .int .i64 0, .int .i64 0, .slice none 0 0, .slice none 0 0, .int .i64 x.f1]]]) (by kernel_rfl) (by kernel_rfl) ?_ ?_
              · refine ⟨?_, ?_, ?_, ?_, ?_, ?_, ?_, ?_, ?_, ?_, trivial⟩
                · intro a' w' hf hb hd
                  have p0_ := frame_at hf 1 (.pointer (some ⟨b0 + 1, 0, none⟩)) (by kernel_rfl) rfl
                  have p02_ : a'.tmps[1]?.getD undef = .pointer (some ⟨b0 + 1, 0, none⟩) := by simpa [Act.eval] using p0_
                  exact told_run (v := .pointer (some ⟨b0 + 1, 1, none⟩)) rfl (by simp [execOp, p0_, p02_]; try go_simp) rfl (Below.refl _ _)
                · intro a' w' hf hb hd
                  have d0_ : a'.eval (.tmp 89) = .pointer (some ⟨b0 + 1, 1, none⟩) := hd 0 (by decide)
                  have d02_ : a'.tmps[89]?.getD undef = .pointer (some ⟨b0 + 1, 1, none⟩) := by simpa [Act.eval] using d0_
                  have c0_ := pw_cell_below hb k1
                  exact told_run (v := .slice AM ms.length cM) rfl (by simp [execOp, d0_, d02_]; try go_simp) rfl (Below.refl _ _)
                · intro a' w' hf hb hd
                  have p0_ := frame_at hf 4 (.int .i64 k) (by kernel_rfl) rfl
                  have p02_ : a'.tmps[4]?.getD undef = .int .i64 k := by simpa [Act.eval] using p0_
                  exact told_run (v := .int .i64 k) rfl (by simp [execOp, p0_, p02_]; try go_simp) rfl (Below.refl _ _)
                · intro a' w' hf hb hd
                  have p0_ := frame_at hf 5 (.pointer (some ⟨br, 0, none⟩)) (by kernel_rfl) rfl
                  have p02_ : a'.tmps[5]?.getD undef = .pointer (some ⟨br, 0, none⟩) := by simpa [Act.eval] using p0_
                  exact told_run (v := .pointer (some ⟨br, 3, none⟩)) rfl (by simp [execOp, p0_, p02_]; try go_simp) rfl (Below.refl _ _)
                · intro a' w' hf hb hd
                  have d0_ : a'.eval (.tmp 92) = .pointer (some ⟨br, 3, none⟩) := hd 3 (by decide)
                  have d02_ : a'.tmps[92]?.getD undef = .pointer (some ⟨br, 3, none⟩) := by simpa [Act.eval] using d0_
                  have c0_ := pw_cell_below hb r3
                  exact told_run (v := .slice (some ⟨g3_, 0, none⟩) r.f3.length c3) rfl (by simp [execOp, d0_, d02_]; try go_simp) rfl (Below.refl _ _)
                · intro a' w' hf hb hd
                  have p0_ := frame_at hf 8 (.int .i64 j) (by kernel_rfl) rfl
                  have p02_ : a'.tmps[8]?.getD undef = .int .i64 j := by simpa [Act.eval] using p0_
                  exact told_run (v := .int .i64 j) rfl (by simp [execOp, p0_, p02_]; try go_simp) rfl (Below.refl _ _)
                · intro a' w' hf hb hd
                  have d0_ : a'.eval (.tmp 93) = .slice (some ⟨g3_, 0, none⟩) r.f3.length c3 := hd 4 (by decide)
                  have d02_ : a'.tmps[93]?.getD undef = .slice (some ⟨g3_, 0, none⟩) r.f3.length c3 := by simpa [Act.eval] using d0_
                  have d1_ : a'.eval (.tmp 94) = .int .i64 j := hd 5 (by decide)
                  have d12_ : a'.tmps[94]?.getD undef = .int .i64 j := by simpa [Act.eval] using d1_
                  exact told_run (v := .pointer (some ⟨g3_, j * 6, none⟩)) rfl (by simp [execOp, d0_, d02_, d1_, d12_]; try go_simp) rfl (Below.refl _ _)
                · intro a' w' hf hb hd
                  have d0_ : a'.eval (.tmp 95) = .pointer (some ⟨g3_, j * 6, none⟩) := hd 6 (by decide)
                  have d02_ : a'.tmps[95]?.getD undef = .pointer (some ⟨g3_, j * 6, none⟩) := by simpa [Act.eval] using d0_
                  have c0_ := pw_cell_below hb g0
                  have c1_ := pw_cell_below hb g1
                  have c2_ := pw_cell_below hb g2
                  have c3_ := pw_cell_below hb g3
                  have c4_ := pw_cell_below hb g4
                  have c5_ := pw_cell_below hb g5
                  exact told_run (v := .agg #[.string x.f0, .int .i64 x.f1, .int .u8 x.f2, .int .u8 x.f3.f0, .int .u16 x.f3.f1, .slice A5 x.f4.length c5]) rfl (by simp [execOp, d0_, d02_]; try go_simp) rfl (Below.refl _ _)
                · intro a' w' hf hb hd
                  have d0_ : a'.eval (.tmp 91) = .int .i64 k := hd 2 (by decide)
                  have d02_ : a'.tmps[91]?.getD undef = .int .i64 k := by simpa [Act.eval] using d0_
                  have d1_ : a'.eval (.tmp 96) = .agg #[.string x.f0, .int .i64 x.f1, .int .u8 x.f2, .int .u8 x.f3.f0, .int .u16 x.f3.f1, .slice A5 x.f4.length c5] := hd 7 (by decide)
                  have d12_ : a'.tmps[96]?.getD undef = .agg #[.string x.f0, .int .i64 x.f1, .int .u8 x.f2, .int .u8 x.f3.f0, .int .u16 x.f3.f1, .slice A5 x.f4.length c5] := by simpa [Act.eval] using d1_
                  refine told_call rfl (by go_simp) ((wor_linked k x.f0 x.f1 x.f2 x.f3.f0 x.f3.f1 A5 x.f4.length c5 w').mono ?_)
                  rintro e w2_ ⟨rfl, hb2_⟩
                  exact ⟨_, rfl, rfl, hb2_⟩
                · intro a' w' hf hb hd
                  have d0_ : a'.eval (.tmp 97) = .agg #[.int .i64 0, .int .u8 x.f2, .int .i64 k, .slice A5 x.f4.length c5, .int .u8 x.f3.f0, .int .u16 x.f3.f1, .int .i64 0, .int .i64 0, .slice none 0 0, .slice none 0 0, .int .i64 x.f1] := hd 8 (by decide)
                  have d02_ : a'.tmps[97]?.getD undef = .agg #[.int .i64 0, .int .u8 x.f2, .int .i64 k, .slice A5 x.f4.length c5, .int .u8 x.f3.f0, .int .u16 x.f3.f1, .int .i64 0, .int .i64 0, .slice none 0 0, .slice none 0 0, .int .i64 x.f1] := by simpa [Act.eval] using d0_
                  have hu_ := Try.underlying50
                  refine told_lit (kRaw 11) 86 w.heap.size (xs := [[.int .i64 0, .int .u8 x.f2, .int .i64 k, .slice A5 x.f4.length c5, .int .u8 x.f3.f0, .int .u16 x.f3.f1, .int .i64 0, .int .i64 0, .slice none 0 0, .slice none 0 0, .int .i64 x.f1]]) (inner := [.int .i64 0, .int .u8 x.f2, .int .i64 k, .slice A5 x.f4.length c5, .int .u8 x.f3.f0, .int .u16 x.f3.f1, .int .i64 0, .int .i64 0, .slice none 0 0, .slice none 0 0, .int .i64 x.f1]) rfl (by simp [execOp, d0_, d02_]; go_simp) (reps_one rfl (kRaw_mk rfl (by rfl))) (Nat.le_trans H.base hb.size) (by simp)
              · intro a' w' hf hb hd
                have ha := act_of_frame hf [89, 90, 91, 92, 93, 94, 95, 96, 97, 98] (by kernel_rfl) (by kernel_rfl)
                have e0_ : a'.eval (.tmp 89) = .pointer (some ⟨b0 + 1, 1, none⟩) := hd 0 (by simp)
                have e1_ : a'.eval (.tmp 90) = .slice AM ms.length cM := hd 1 (by simp)
                have e2_ : a'.eval (.tmp 91) = .int .i64 k := hd 2 (by simp)
                have e3_ : a'.eval (.tmp 92) = .pointer (some ⟨br, 3, none⟩) := hd 3 (by simp)
                have e4_ : a'.eval (.tmp 93) = .slice (some ⟨g3_, 0, none⟩) r.f3.length c3 := hd 4 (by simp)
                have e5_ : a'.eval (.tmp 94) = .int .i64 j := hd 5 (by simp)
                have e6_ : a'.eval (.tmp 95) = .pointer (some ⟨g3_, j * 6, none⟩) := hd 6 (by simp)
                have e7_ : a'.eval (.tmp 96) = .agg #[.string x.f0, .int .i64 x.f1, .int .u8 x.f2, .int .u8 x.f3.f0, .int .u16 x.f3.f1, .slice A5 x.f4.length c5] := hd 7 (by simp)
                have e8_ : a'.eval (.tmp 97) = .agg #[.int .i64 0, .int .u8 x.f2, .int .i64 k, .slice A5 x.f4.length c5, .int .u8 x.f3.f0, .int .u16 x.f3.f1, .int .i64 0, .int .i64 0, .slice none 0 0, .slice none 0 0, .int .i64 x.f1] := hd 8 (by simp)
                have hrow_ : (kRaw 11).R 86 w' w.heap.size (fun _ => True) (a'.eval (.tmp 98)) [[.int .i64 0, .int .u8 x.f2, .int .i64 k, .slice A5 x.f4.length c5, .int .u8 x.f3.f0, .int .u16 x.f3.f1, .int .i64 0, .int .i64 0, .slice none 0 0, .slice none 0 0, .int .i64 x.f1]] := hd 9 (by simp)
                obtain ⟨uL, huL⟩ : ∃ u, a'.eval (.tmp 98) = u := ⟨_, rfl⟩
                rw [huL] at hrow_
                simp only [List.foldl_cons, List.foldl_nil, List.setIfInBounds_toArray, List.set_cons_succ, List.set_cons_zero, e0_, e1_, e2_, e3_, e4_, e5_, e6_, e7_, e8_, huL] at ha
                clear hf hd e0_ e1_ e2_ e3_ e4_ e5_ e6_ e7_ e8_ huL
                subst ha
                simp only [List.length_cons, List.length_nil, Nat.reduceAdd, List.drop_succ_cons, List.drop_zero]
                obtain ⟨AL, cL, hL_, -, hCL_⟩ := Kd.R_reads hrow_
                subst hL_
                have HCL := Aside0.mk hCL_
                have HA := Aside0.mk (H.same hb)
                clear hrow_ hCL_ hb

                obtain ⟨M2, hM2⟩ : ∃ m, m = ms ++ [wLinked k x] := ⟨_, rfl⟩
                have hlen : (im ++ [([.int .i64 0, .int .u8 x.f2, .int .i64 k, .slice A5 x.f4.length c5, .int .u8 x.f3.f0, .int .u16 x.f3.f1, .int .i64 0, .int .i64 0, .slice none 0 0, .slice none 0 0, .int .i64 x.f1] : List Value)]).length = M2.length := by rw [hM2]; have := HML.out; simp; omega
                have HLEN := Aside0.mk hlen
                have HM2 := Aside0.mk hM2
                clear hlen hM2 H k0 k1 k2 k3 r0 r1 r2 r3 r4 g0 g1 g2 g3 g4 g5
                go_wp2_with (first | (at_builtin; refine sep_appendR (kRaw 11) rfl HA.out 6 rfl rfl (.tmp 90) (.tmp 98) 50 _ 128 rfl Try.underlying50 info86 rfl (by decide) (by decide) [([.int .i64 0, .int .u8 x.f2, .int .i64 k, .slice A5 x.f4.length c5, .int .u8 x.f3.f0, .int .u16 x.f3.f1, .int .i64 0, .int .i64 0, .slice none 0 0, .slice none 0 0, .int .i64 x.f1] : List Value)] AL _ cL rfl rfl HCL.out (fun _ _ h => h) (by have := HML.out; have := HL2.out; have := HMs.out; (try simp only [List.length_cons, List.length_nil]); omega) ?_; intro vM w7 H5; clear HCL; obtain ⟨AM2, cM2, hvM⟩ := Kd.R_slice (H5.get 6 rfl); rw [HLEN.out] at hvM; subst hvM; have H6 := Aside0.mk H5; clear H5) | (refine sep_store H6.out 1 rfl rfl rfl 50 (.tmp 100) (.tmp 99) rfl 1 rfl _ [_] rfl rfl (show _ = some 1 by kernel_rfl) rfl (by simp) _ rfl ?_; intro w8 H7_; have H7 := Aside0.mk H7_; clear H7_ H6))
                obtain rfl := HM2.out
                obtain rfl := HV2.out
                go_roundw
                case rel => exact ⟨j + 1, by omega, by go_num, AM2, cM2, im ++ [([.int .i64 0, .int .u8 x.f2, .int .i64 k, .slice A5 x.f4.length c5, .int .u8 x.f3.f0, .int .u16 x.f3.f1, .int .i64 0, .int .i64 0, .slice none 0 0, .slice none 0 0, .int .i64 x.f1] : List Value)], some ⟨gV, 0, none⟩, cV2, ⟨by rw [HST.out]; exact wor_method (k := k) H7.out rfl⟩⟩
                case measure => simp [intOf]; omega
          · have : j = r.f3.length := by omega
            subst this
            rw [List.take_length] at H
            obtain ⟨k0, k1, k2, k3⟩ := blk54 (H.get 1 rfl)
            obtain ⟨r0, r1, r2, r3, r4⟩ := blk129 (H.get 8 rfl)
            have hl0 := (virt_len k r.f3 ((wBase q r).2, q.ms)).2
            generalize hvv : r.f3.foldl (wVirt k) ((wBase q r).2, q.ms) = p at H hl0 k1
            obtain ⟨V1, ms1⟩ := p
            simp only at H hl0 k1
            have HVV := Aside0.mk hvv
            have HL0 := Aside0.mk hl0
            have HA := Aside0.mk H
            clear hvv hl0 H hj hjl
            go_wp2_with fail
            clear k0 k1 k2 k3 r0 r1 r2 r3 r4
            go_loopw [9] (fun i wr => ∃ j : Nat, j ≤ r.f4.length ∧ i = .int .i64 j ∧ ∃ (AM : Option Addr) (cM : Nat) (im : List (List Value)) (AX : Option Addr) (cX : Nat), Aside0 (Sep w.heap.size w wr (wX (wL w b0 (.slice (some ⟨g, 0, none⟩) 17 cap) k r q s AC AE cC cE ic ie A2 A3 A4 c2 c3 c4 b4 b5 br ((r.f4.take j).foldl (wExp k) ([], ms1)).2 AM cM im Fk AF cF V1 AV cV) w k bx ((r.f4.take j).foldl (wExp k) ([], ms1)).1 AX cX))) (fun i _ => r.f4.length - (intOf i).toNat)
            case atStart => exact ⟨0, Nat.zero_le _, rfl, AM, cM, im, none, 0, HA⟩
            case round =>
              clear HA
              obtain ⟨j, hj, rfl, AM, cM, im, AX, cX, H⟩ := hrel
              replace H := H.out
              by_cases hjl : j < r.f4.length
              · have hjb : j < 1000 := by have := HMs.out; omega
                have hst := foldl_take (wExp k) ([], ms1) r.f4 z133 j hjl
                obtain ⟨hl1, hl2⟩ := exp_len k (r.f4.take j) ([], ms1)
                simp only [List.length_take, Nat.min_eq_left hj, List.length_nil] at hl1 hl2
                obtain ⟨g4_, A5_, c5_, rfl, -⟩ := wor_elem (H.get 4 rfl).2.x j hjl
                generalize hxe : r.f4.getD j z133 = x at hst
                have HX := Aside0.mk hxe
                clear hxe
                generalize (r.f4.take j).foldl (wExp k) ([], ms1) = p at *
                obtain ⟨X, ms⟩ := p
                simp only at hl1 hl2 hst H
                have hml : ms.length = im.length := (H.get 4 rfl).1.m.1
                have HL1 := Aside0.mk hl1
                have HL2 := Aside0.mk hl2
                have HML := Aside0.mk hml
                clear hl1 hl2 hml
                obtain ⟨k0, k1, k2, k3⟩ := blk54 (H.get 1 rfl)
                obtain ⟨r0, r1, r2, r3, r4⟩ := blk129 (H.get 8 rfl)
                obtain ⟨x0, x1, x2⟩ := blk131 (H.get 12 rfl)
                have t2 : wExp k (X, ms) x = (X ++ [(ms.length : Int)], ms ++ [wLinked k x]) := rfl
                rw [t2] at hst
                obtain ⟨V2, hV2⟩ : ∃ V2, V2 = X ++ [(ms.length : Int)] := ⟨_, rfl⟩
                have HV2 := Aside0.mk hV2.symm
                have HST := Aside0.mk hst
                clear hV2 t2 hst
                have HA := Aside0.mk H
                clear H
                go_wp2_with (first | (at_builtin; refine sep_appendR1 (Kd.int .i64) rfl HA.out 13 rfl rfl (.tmp 109) (.tmp 113) 23 (.int .i64 0) 8 rfl Try.underlying23 info3 rfl (by decide) (by decide) (ms.length : Int) _ rfl rfl rfl (by have := HMs.out; have := HL1.out; omega) V2 _ HV2.out rfl ?_; intro gV cV2 w5 H5; clear r0 r1 r2 r3 r4 k0 k1 k2 k3 x0 x1 x2; have H6 := Aside0.mk H5; clear H5) | (refine sep_store H6.out 12 rfl rfl rfl 23 (.tmp 115) (.tmp 114) rfl 2 rfl _ [_] rfl rfl (show _ = some 1 by kernel_rfl) rfl (by simp) _ rfl ?_; intro w6 H7_; have H7 := Aside0.mk H7_; clear H7_ H6))
                have H : Sep w.heap.size w w6 (wX (wL w b0 (.slice (some ⟨g, 0, none⟩) 17 cap) k r q s AC AE cC cE ic ie A2 A3 (some ⟨g4_, 0, none⟩) c2 c3 c4 b4 b5 br ms AM cM im Fk AF cF V1 AV cV) w k bx V2 (some ⟨gV, 0, none⟩) cV2) := H7.out
                clear HA H7
                obtain ⟨g_, A5, c5, hg_, hR5, g0, g1, g2, g3, g4, g5⟩ := wor_elem (H.get 4 rfl).2.x j hjl
                injection hg_ with hg_
                injection hg_ with hg_
                subst hg_
                rw [HX.out] at hR5 g0 g1 g2 g3 g4 g5
                replace H := H.turn 4 rfl (chZx _ s _ _ _ _ _ r _ _ _ _ _ _ _ x.f4) (fun _ h => h) (foot_chZx (H.get 4 rfl) hR5)
                clear hR5
                obtain ⟨k0, k1, k2, k3⟩ := blk54 (H.get 1 rfl)
                obtain ⟨r0, r1, r2, r3, r4⟩ := blk129 (H.get 8 rfl)
                refine wp_region_steps (ts := [Told.val (.pointer (some ⟨b0 + 1, 1, none⟩)), Told.val (.slice AM ms.length cM), Told.val (.int .i64 k), Told.val (.pointer (some ⟨br, 4, none⟩)), Told.val (.slice (some ⟨g4_, 0, none⟩) r.f4.length c4), Told.val (.int .i64 j), Told.val (.pointer (some ⟨g4_, j * 6, none⟩)), Told.val (.agg #[.string x.f0, .int .i64 x.f1, .int .u8 x.f2, .int .u8 x.f3.f0, .int .u16 x.f3.f1, .slice A5 x.f4.length c5]), Told.val (.agg #[.int .i64 0, .int .u8 x.f2, .int .i64 k, .slice A5 x.f4.length c5, .int .u8 x.f3.f0, .int .u16 x.f3.f1, .int .i64 0, .int .i64 0, .slice none 0 0, .slice none 0 0, .int .i64 x.f1]), Told.row (kRaw 11) 86 w.heap.size [[.int .i64 0, .int .u8 x.f2, .int .i64 k, .slice A5 x.f4.length c5, .int .u8 x.f3.f0, .int .u16 x.f3.f1, .int .i64 0, .int .i64 0, .slice none 0 0, .slice none 0 0, .int .i64 x.f1]]]) (by kernel_rfl) (by kernel_rfl) ?_ ?_
                · refine ⟨?_, ?_, ?_, ?_, ?_, ?_, ?_, ?_, ?_, ?_, trivial⟩
                  · intro a' w' hf hb hd
                    have p0_ := frame_at hf 1 (.pointer (some ⟨b0 + 1, 0, none⟩)) (by kernel_rfl) rfl
                    have p02_ : a'.tmps[1]?.getD undef = .pointer (some ⟨b0 + 1, 0, none⟩) := by simpa [Act.eval] using p0_
                    exact told_run (v := .pointer (some ⟨b0 + 1, 1, none⟩)) rfl (by simp [execOp, p0_, p02_]; try go_simp) rfl (Below.refl _ _)
                  · intro a' w' hf hb hd
                    have d0_ : a'.eval (.tmp 116) = .pointer (some ⟨b0 + 1, 1, none⟩) := hd 0 (by decide)
                    have d02_ : a'.tmps[116]?.getD undef = .pointer (some ⟨b0 + 1, 1, none⟩) := by simpa [Act.eval] using d0_
                    have c0_ := pw_cell_below hb k1
                    exact told_run (v := .slice AM ms.length cM) rfl (by simp [execOp, d0_, d02_]; try go_simp) rfl (Below.refl _ _)
                  · intro a' w' hf hb hd
                    have p0_ := frame_at hf 4 (.int .i64 k) (by kernel_rfl) rfl
                    have p02_ : a'.tmps[4]?.getD undef = .int .i64 k := by simpa [Act.eval] using p0_
                    exact told_run (v := .int .i64 k) rfl (by simp [execOp, p0_, p02_]; try go_simp) rfl (Below.refl _ _)
                  · intro a' w' hf hb hd
                    have p0_ := frame_at hf 5 (.pointer (some ⟨br, 0, none⟩)) (by kernel_rfl) rfl
                    have p02_ : a'.tmps[5]?.getD undef = .pointer (some ⟨br, 0, none⟩) := by simpa [Act.eval] using p0_
                    exact told_run (v := .pointer (some ⟨br, 4, none⟩)) rfl (by simp [execOp, p0_, p02_]; try go_simp) rfl (Below.refl _ _)
                  · intro a' w' hf hb hd
                    have d0_ : a'.eval (.tmp 119) = .pointer (some ⟨br, 4, none⟩) := hd 3 (by decide)
                    have d02_ : a'.tmps[119]?.getD undef = .pointer (some ⟨br, 4, none⟩) := by simpa [Act.eval] using d0_
                    have c0_ := pw_cell_below hb r4
                    exact told_run (v := .slice (some ⟨g4_, 0, none⟩) r.f4.length c4) rfl (by simp [execOp, d0_, d02_]; try go_simp) rfl (Below.refl _ _)
                  · intro a' w' hf hb hd
                    have p0_ := frame_at hf 9 (.int .i64 j) (by kernel_rfl) rfl
                    have p02_ : a'.tmps[9]?.getD undef = .int .i64 j := by simpa [Act.eval] using p0_
                    exact told_run (v := .int .i64 j) rfl (by simp [execOp, p0_, p02_]; try go_simp) rfl (Below.refl _ _)
                  · intro a' w' hf hb hd
                    have d0_ : a'.eval (.tmp 120) = .slice (some ⟨g4_, 0, none⟩) r.f4.length c4 := hd 4 (by decide)
                    have d02_ : a'.tmps[120]?.getD undef = .slice (some ⟨g4_, 0, none⟩) r.f4.length c4 := by simpa [Act.eval] using d0_
                    have d1_ : a'.eval (.tmp 121) = .int .i64 j := hd 5 (by decide)
                    have d12_ : a'.tmps[121]?.getD undef = .int .i64 j := by simpa [Act.eval] using d1_
                    exact told_run (v := .pointer (some ⟨g4_, j * 6, none⟩)) rfl (by simp [execOp, d0_, d02_, d1_, d12_]; try go_simp) rfl (Below.refl _ _)
                  · intro a' w' hf hb hd
                    have d0_ : a'.eval (.tmp 122) = .pointer (some ⟨g4_, j * 6, none⟩) := hd 6 (by decide)
                    have d02_ : a'.tmps[122]?.getD undef = .pointer (some ⟨g4_, j * 6, none⟩) := by simpa [Act.eval] using d0_
                    have c0_ := pw_cell_below hb g0
                    have c1_ := pw_cell_below hb g1
                    have c2_ := pw_cell_below hb g2
                    have c3_ := pw_cell_below hb g3
                    have c4_ := pw_cell_below hb g4
                    have c5_ := pw_cell_below hb g5
                    exact told_run (v := .agg #[.string x.f0, .int .i64 x.f1, .int .u8 x.f2, .int .u8 x.f3.f0, .int .u16 x.f3.f1, .slice A5 x.f4.length c5]) rfl (by simp [execOp, d0_, d02_]; try go_simp) rfl (Below.refl _ _)
                  · intro a' w' hf hb hd
                    have d0_ : a'.eval (.tmp 118) = .int .i64 k := hd 2 (by decide)
                    have d02_ : a'.tmps[118]?.getD undef = .int .i64 k := by simpa [Act.eval] using d0_
                    have d1_ : a'.eval (.tmp 123) = .agg #[.string x.f0, .int .i64 x.f1, .int .u8 x.f2, .int .u8 x.f3.f0, .int .u16 x.f3.f1, .slice A5 x.f4.length c5] := hd 7 (by decide)
                    have d12_ : a'.tmps[123]?.getD undef = .agg #[.string x.f0, .int .i64 x.f1, .int .u8 x.f2, .int .u8 x.f3.f0, .int .u16 x.f3.f1, .slice A5 x.f4.length c5] := by simpa [Act.eval] using d1_
                    refine told_call rfl (by go_simp) ((wor_linked k x.f0 x.f1 x.f2 x.f3.f0 x.f3.f1 A5 x.f4.length c5 w').mono ?_)
                    rintro e w2_ ⟨rfl, hb2_⟩
                    exact ⟨_, rfl, rfl, hb2_⟩
                  · intro a' w' hf hb hd
                    have d0_ : a'.eval (.tmp 124) = .agg #[.int .i64 0, .int .u8 x.f2, .int .i64 k, .slice A5 x.f4.length c5, .int .u8 x.f3.f0, .int .u16 x.f3.f1, .int .i64 0, .int .i64 0, .slice none 0 0, .slice none 0 0, .int .i64 x.f1] := hd 8 (by decide)
                    have d02_ : a'.tmps[124]?.getD undef = .agg #[.int .i64 0, .int .u8 x.f2, .int .i64 k, .slice A5 x.f4.length c5, .int .u8 x.f3.f0, .int .u16 x.f3.f1, .int .i64 0, .int .i64 0, .slice none 0 0, .slice none 0 0, .int .i64 x.f1] := by simpa [Act.eval] using d0_
                    have hu_ := Try.underlying50
                    refine told_lit (kRaw 11) 86 w.heap.size (xs := [[.int .i64 0, .int .u8 x.f2, .int .i64 k, .slice A5 x.f4.length c5, .int .u8 x.f3.f0, .int .u16 x.f3.f1, .int .i64 0, .int .i64 0, .slice none 0 0, .slice none 0 0, .int .i64 x.f1]]) (inner := [.int .i64 0, .int .u8 x.f2, .int .i64 k, .slice A5 x.f4.length c5, .int .u8 x.f3.f0, .int .u16 x.f3.f1, .int .i64 0, .int .i64 0, .slice none 0 0, .slice none 0 0, .int .i64 x.f1]) rfl (by simp [execOp, d0_, d02_]; go_simp) (reps_one rfl (kRaw_mk rfl (by rfl))) (Nat.le_trans H.base hb.size) (by simp)
                · intro a' w' hf hb hd
                  have ha := act_of_frame hf [116, 117, 118, 119, 120, 121, 122, 123, 124, 125] (by kernel_rfl) (by kernel_rfl)
                  have e0_ : a'.eval (.tmp 116) = .pointer (some ⟨b0 + 1, 1, none⟩) := hd 0 (by simp)
                  have e1_ : a'.eval (.tmp 117) = .slice AM ms.length cM := hd 1 (by simp)
                  have e2_ : a'.eval (.tmp 118) = .int .i64 k := hd 2 (by simp)
                  have e3_ : a'.eval (.tmp 119) = .pointer (some ⟨br, 4, none⟩) := hd 3 (by simp)
                  have e4_ : a'.eval (.tmp 120) = .slice (some ⟨g4_, 0, none⟩) r.f4.length c4 := hd 4 (by simp)
                  have e5_ : a'.eval (.tmp 121) = .int .i64 j := hd 5 (by simp)
                  have e6_ : a'.eval (.tmp 122) = .pointer (some ⟨g4_, j * 6, none⟩) := hd 6 (by simp)
                  have e7_ : a'.eval (.tmp 123) = .agg #[.string x.f0, .int .i64 x.f1, .int .u8 x.f2, .int .u8 x.f3.f0, .int .u16 x.f3.f1, .slice A5 x.f4.length c5] := hd 7 (by simp)
                  have e8_ : a'.eval (.tmp 124) = .agg #[.int .i64 0, .int .u8 x.f2, .int .i64 k, .slice A5 x.f4.length c5, .int .u8 x.f3.f0, .int .u16 x.f3.f1, .int .i64 0, .int .i64 0, .slice none 0 0, .slice none 0 0, .int .i64 x.f1] := hd 8 (by simp)
                  have hrow_ : (kRaw 11).R 86 w' w.heap.size (fun _ => True) (a'.eval (.tmp 125)) [[.int .i64 0, .int .u8 x.f2, .int .i64 k, .slice A5 x.f4.length c5, .int .u8 x.f3.f0, .int .u16 x.f3.f1, .int .i64 0, .int .i64 0, .slice none 0 0, .slice none 0 0, .int .i64 x.f1]] := hd 9 (by simp)
                  obtain ⟨uL, huL⟩ : ∃ u, a'.eval (.tmp 125) = u := ⟨_, rfl⟩
                  rw [huL] at hrow_
                  simp only [List.foldl_cons, List.foldl_nil, List.setIfInBounds_toArray, List.set_cons_succ, List.set_cons_zero, e0_, e1_, e2_, e3_, e4_, e5_, e6_, e7_, e8_, huL] at ha
                  clear hf hd e0_ e1_ e2_ e3_ e4_ e5_ e6_ e7_ e8_ huL
                  subst ha
                  simp only [List.length_cons, List.length_nil, Nat.reduceAdd, List.drop_succ_cons, List.drop_zero]
                  obtain ⟨AL, cL, hL_, -, hCL_⟩ := Kd.R_reads hrow_
                  subst hL_
                  have HCL := Aside0.mk hCL_
                  have HA := Aside0.mk (H.same hb)
                  clear hrow_ hCL_ hb

                  obtain ⟨M2, hM2⟩ : ∃ m, m = ms ++ [wLinked k x] := ⟨_, rfl⟩
                  have hlen : (im ++ [([.int .i64 0, .int .u8 x.f2, .int .i64 k, .slice A5 x.f4.length c5, .int .u8 x.f3.f0, .int .u16 x.f3.f1, .int .i64 0, .int .i64 0, .slice none 0 0, .slice none 0 0, .int .i64 x.f1] : List Value)]).length = M2.length := by rw [hM2]; have := HML.out; simp; omega
                  have HLEN := Aside0.mk hlen
                  have HM2 := Aside0.mk hM2
                  clear hlen hM2 H k0 k1 k2 k3 r0 r1 r2 r3 r4 g0 g1 g2 g3 g4 g5
                  go_wp2_with (first | (at_builtin; refine sep_appendR (kRaw 11) rfl HA.out 6 rfl rfl (.tmp 117) (.tmp 125) 50 _ 128 rfl Try.underlying50 info86 rfl (by decide) (by decide) [([.int .i64 0, .int .u8 x.f2, .int .i64 k, .slice A5 x.f4.length c5, .int .u8 x.f3.f0, .int .u16 x.f3.f1, .int .i64 0, .int .i64 0, .slice none 0 0, .slice none 0 0, .int .i64 x.f1] : List Value)] AL _ cL rfl rfl HCL.out (fun _ _ h => h) (by have := HML.out; have := HL2.out; have := HL0.out; have := HMs.out; (try simp only [List.length_cons, List.length_nil]); omega) ?_; intro vM w7 H5; clear HCL; obtain ⟨AM2, cM2, hvM⟩ := Kd.R_slice (H5.get 6 rfl); rw [HLEN.out] at hvM; subst hvM; have H6 := Aside0.mk H5; clear H5) | (refine sep_store H6.out 1 rfl rfl rfl 50 (.tmp 127) (.tmp 126) rfl 1 rfl _ [_] rfl rfl (show _ = some 1 by kernel_rfl) rfl (by simp) _ rfl ?_; intro w8 H7_; have H7 := Aside0.mk H7_; clear H7_ H6))
                  obtain rfl := HM2.out
                  obtain rfl := HV2.out
                  go_roundw
                  case rel => exact ⟨j + 1, by omega, by go_num, AM2, cM2, im ++ [([.int .i64 0, .int .u8 x.f2, .int .i64 k, .slice A5 x.f4.length c5, .int .u8 x.f3.f0, .int .u16 x.f3.f1, .int .i64 0, .int .i64 0, .slice none 0 0, .slice none 0 0, .int .i64 x.f1] : List Value)], some ⟨gV, 0, none⟩, cV2, ⟨by rw [HST.out]; exact wor_method (k := k) H7.out rfl⟩⟩
                  case measure => simp [intOf]; omega
              · have : j = r.f4.length := by omega
                subst this
                rw [List.take_length] at H
                generalize hxx : r.f4.foldl (wExp k) ([], ms1) = p at H
                obtain ⟨X, ms⟩ := p
                simp only at H
                have HXX := Aside0.mk hxx
                have hicl : ic.length = k := by rw [← hcs]; exact (H.get 4 rfl).1.c.1.symm
                have hiel : ie.length = k := by rw [← hes]; exact (H.get 4 rfl).1.e.1.symm
                obtain ⟨ic2, hic2⟩ : ∃ l, l = ic ++ [([.int .i64 0, .int .u8 r.f1, .int .i64 r.f0, .slice none 0 0, .slice AF Fk.length cF, .slice AV V1.length cV, .slice none 0 0] : List Value)] := ⟨_, rfl⟩
                obtain ⟨ie2, hie2⟩ : ∃ l, l = ie ++ [([.int .i64 k, .slice none 0 0, .slice AX X.length cX] : List Value)] := ⟨_, rfl⟩
                have HIC := Aside0.mk hic2.symm
                have HIE := Aside0.mk hie2.symm
                have HICL := Aside0.mk hicl
                have HIEL := Aside0.mk hiel
                have hicn : ic2.length = k + 1 := by rw [hic2, List.length_append, hicl]; rfl
                have hien : ie2.length = k + 1 := by rw [hie2, List.length_append, hiel]; rfl
                have HICN := Aside0.mk hicn
                have HIEN := Aside0.mk hien
                obtain ⟨r0, r1, r2, r3, r4⟩ := blk129 (H.get 8 rfl)
                obtain ⟨k0, k1, k2, k3⟩ := blk54 (H.get 1 rfl)
                obtain ⟨f0, f1, f2, f3, f4, f5, f6⟩ := blk110 (H.get 9 rfl)
                have HA := Aside0.mk H
                clear hxx H hicl hiel hic2 hie2 hicn hien hjl hj
                go_wp2_with (first | (at_builtin; refine sep_appendR1 (kRaw 7) rfl HA.out 5 rfl rfl (.tmp 129) (.tmp 131) 49 _ 120 rfl Try.underlying49 info110 rfl (by decide) (by decide) ([.int .i64 0, .int .u8 r.f1, .int .i64 r.f0, .slice none 0 0, .slice AF Fk.length cF, .slice AV V1.length cV, .slice none 0 0] : List Value) _ rfl rfl (kRaw_mk rfl rfl) (by have := HICL.out; omega) ic2 (k + 1) HIC.out HICN.out ?_; intro gC cC2 w5 H5; clear r0 r1 r2 r3 r4 k0 k1 k2 k3 f0 f1 f2 f3 f4 f5 f6; have H6 := Aside0.mk H5; clear H5) | (refine sep_store H6.out 1 rfl rfl rfl 49 (.tmp 133) (.tmp 132) rfl 0 rfl _ [_] rfl rfl (show _ = some 1 by kernel_rfl) rfl (by simp) _ rfl ?_; intro w6 H7_; have H7 := Aside0.mk H7_; clear H7_ H6; obtain ⟨p0, p1, p2, p3, p4, p5⟩ := blk124 (H7.out.get 3 rfl); obtain ⟨x0, x1, x2⟩ := blk131 (H7.out.get 12 rfl)) | (at_builtin; refine sep_appendR1 (kRaw 3) rfl H7.out 7 rfl rfl (.tmp 135) (.tmp 137) 121 _ 56 rfl Try.underlying121 winfo131 rfl (by decide) (by decide) ([.int .i64 k, .slice none 0 0, .slice AX X.length cX] : List Value) _ rfl rfl (kRaw_mk rfl rfl) (by have := HIEL.out; omega) ie2 (k + 1) HIE.out HIEN.out ?_; intro gE cE2 w7 H8; clear p0 p1 p2 p3 p4 p5 x0 x1 x2; have H9 := Aside0.mk H8; clear H8) | (refine sep_store H9.out 3 rfl rfl rfl 121 (.tmp 139) (.tmp 138) rfl 4 rfl _ [_] rfl rfl (show _ = some 1 by kernel_rfl) rfl (by simp) _ rfl ?_; intro w8 H10_; have H10 := Aside0.mk H10_; clear H10_ H9))
                obtain rfl := HIC.out
                obtain rfl := HIE.out
                go_roundw
                case rel => exact ⟨k + 1, by omega, by go_num, ⟨wor_round H10.out HS.out hcs HFK.out HVV.out HXX.out⟩⟩
                case measure => simp [intOf]; omega
    · have : k = 17 := by omega
      subst this
      have HA := Aside0.mk (H.appNilR (kRaw 6) rfl 124 w.heap.size)
      obtain ⟨k0, k1, k2, k3⟩ := blk54 (H.get 1 rfl)
      obtain ⟨p0, p1, p2, p3, p4, p5⟩ := blk124 (H.get 3 rfl)
      clear H hlt hk
      go_wp2_with (first | (at_builtin; refine sep_appendR1 (kRaw 6) rfl HA.out 8 rfl rfl (.tmp 141) (.tmp 143) 52 _ 80 rfl Try.underlying52 info124 rfl (by decide) (by decide) ([.slice (some ⟨b0 + 1 + 1, 0, none⟩) 7 7, .int .u8 1, .int .u8 0, .bool false, .slice AE 17 cE, .slice none 0 0] : List Value) _ rfl rfl (kRaw_mk rfl rfl) (by simp) _ 1 rfl rfl ?_; intro gP cP w5 H5; clear k0 k1 k2 k3 p0 p1 p2 p3 p4 p5; have H6 := Aside0.mk H5; clear H5) | (refine sep_store H6.out 1 rfl rfl rfl 52 (.tmp 145) (.tmp 144) rfl 3 rfl (.slice (some ⟨gP, 0, none⟩) 1 cP) [.slice (some ⟨gP, 0, none⟩) 1 cP] rfl rfl (show _ = some 1 by kernel_rfl) rfl (by simp) _ rfl ?_; intro w6 H7_; have H7 := Aside0.mk H7_; clear H7_ H6; obtain ⟨k0, k1, k2, k3⟩ := blk54 (H7.out.get 1 rfl)) | (refine sep_store H7.out 0 rfl rfl rfl 54 (.tmp 0) (.tmp 146) rfl 0 rfl (.agg #[.slice AC 17 cC, .slice AM (wTo 17).ms.length cM, .slice none 0 0, .slice (some ⟨gP, 0, none⟩) 1 cP]) [.slice AC 17 cC, .slice AM (wTo 17).ms.length cM, .slice none 0 0, .slice (some ⟨gP, 0, none⟩) 1 cP] rfl rfl (show _ = some 4 by kernel_rfl) rfl (by simp) _ rfl ?_; intro w7 H8_; have H8 := Aside0.mk H8_; clear H8_ H7; obtain ⟨z0, z1, z2, z3⟩ := blk54 (H8.out.get 0 rfl)))
      have hd := wor_done (w := w) (wr := w7) (b0 := b0) (bw := b0 + 1) (bp := b0 + 1 + 1 + 1) (vu := .slice (some ⟨b0 + 1 + 1, 0, none⟩) 7 7) (vC := .slice AC 17 cC) (vM := .slice AM (wTo 17).ms.length cM) (vE := .slice AE 17 cE) (vP := .slice (some ⟨gP, 0, none⟩) 1 cP) H8.out
      obtain ⟨d1, d2, d3, d4⟩ := hd
      have he := Option.some.inj h
      injection he with e1 he
      injection he with e2 he
      injection he with e3 e4
      subst e1 e2 e3 e4
      refine bodyPost_ret (v := .agg #[.slice AC 17 cC, .slice AM (wTo 17).ms.length cM, .slice none 0 0, .slice (some ⟨gP, 0, none⟩) 1 cP]) (by simp [results, Try.results37, go_sem, z0, z1, z2, z3]) rfl ⟨_, _, _, _, rfl, d1, d2, Kd.R_nil _ _ _ _ _, d3, d4⟩
end Go.Proofs.Ytocdpledkmmomaa.P
