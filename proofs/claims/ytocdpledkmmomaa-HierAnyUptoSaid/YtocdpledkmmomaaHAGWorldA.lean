import Derived.Test.YtocdpledkmmomaaHAGTable
import Derived.Test.YtocdpledkmmomaaHASep
namespace Go.Proofs.Ytocdpledkmmomaa.P
open Go.RowKit Go.Proofs.YtocdpledkmmomaaW.PrintWords Go.Proofs.YtocdpledkmmomaaW.PrintLast Go.Proofs.YtocdpledkmmomaaW.PrintMore
set_option linter.unusedVariables false
set_option linter.unusedSimpArgs false
theorem winfo30 : (Try.prog.info? 30).map (fun i => (i.zero, i.size, i.bytes)) = some (some (.agg #[(.int .u8 0), (.int .u16 0)]), 2, 4) := by kernel_rfl
set_option maxHeartbeats 1000000 in
set_option maxRecDepth 100000 in
theorem wor_linked (k : Int) (s : ByteArray) (n fl a b : Int) (A : Option Addr) (m c : Nat) (w : World) : Calls Try.prog 70 #[.int .i64 k, .agg #[.string s, .int .i64 n, .int .u8 fl, .int .u8 a, .int .u16 b, .slice A m c]] w fun e w' => e = .returned (.agg #[.int .i64 0, .int .u8 fl, .int .i64 k, .slice A m c, .int .u8 a, .int .u16 b, .int .i64 0, .int .i64 0, .slice none 0 0, .slice none 0 0, .int .i64 n]) ∧ Below w.heap.size w w' := by
  have hu30 := Try.underlying30
  have hu133 := Try.underlying133
  have hu82 := Try.underlying82
  have hu86 := Try.underlying86
  go_enter Try.func70, Try.ntmps70
  go_wp2
  refine bodyPost_ret (v := .agg #[.int .i64 0, .int .u8 fl, .int .i64 k, .slice A m c, .int .u8 a, .int .u16 b, .int .i64 0, .int .i64 0, .slice none 0 0, .slice none 0 0, .int .i64 n]) (by simp [results, Try.results70, go_sem]) rfl ⟨rfl, ?_⟩
  repeat (first | exact Below.refl _ _ | refine Below.alloc ?_ (by simp) _ | refine Below.setCell ?_ (by simp) _)

structure WAcc where
  cs : List S110
  ms : List S86
  es : List S131
def wLinked (k : Int) (n : S133) : S86 := ⟨0, n.f2, k, ⟨n.f4, n.f3⟩, 0, 0, [], [], n.f1⟩
def wVirt (k : Int) (q : List Int × List S86) (n : S133) : List Int × List S86 := if n.f1 = 0 then (q.1 ++ [-1], q.2) else (q.1 ++ [(q.2.length : Int)], q.2 ++ [wLinked k n])
def wExp (k : Int) (q : List Int × List S86) (n : S133) : List Int × List S86 := (q.1 ++ [(q.2.length : Int)], q.2 ++ [wLinked k n])
def wBase (q : WAcc) (r : S129) : List S30 × List Int := if 0 ≤ r.f0 then ((q.cs.getD r.f0.toNat z110).f4, (q.cs.getD r.f0.toNat z110).f5) else ([], [])
def wStep (q : WAcc) (r : S129) : WAcc :=
  let k : Int := q.cs.length
  let b := wBase q r
  let v := r.f3.foldl (wVirt k) (b.2, q.ms)
  let x := r.f4.foldl (wExp k) ([], v.2)
  ⟨q.cs ++ [⟨0, r.f1, r.f0, [], b.1 ++ r.f2, v.1, []⟩], x.2, q.es ++ [⟨k, [], x.1⟩]⟩
def wTo (i : Nat) : WAcc := (tabRows.take i).foldl wStep ⟨[], [], []⟩
def garderoberef12_World.f : Option ((List (S110)) × (List (S86)) × (List (S185)) × (List (S124))) := some ((wTo 17).cs, (wTo 17).ms, [], [⟨[160, 0, 0, 0, 98, 1, 1], ⟨1, 0⟩, false, (wTo 17).es, []⟩])

def kRaw (n : Nat) : Kd (List Value) where
  sz := n
  E := []
  K := fun _ x cs => cs = x ∧ x.length = n ∧ ∀ u ∈ x, u.oneCell' = true
  M := fun _ _ _ x cs => cs = x ∧ x.length = n ∧ ∀ u ∈ x, u.oneCell' = true
  K_len := by rintro _ _ _ ⟨rfl, h, _⟩; exact h
  K_one := by rintro _ _ _ ⟨rfl, _, h⟩; exact h
  K_below := fun _ h => h
  K_of_M := fun h => h
  M_mono := fun _ h => h
  M_bound := fun h => h
  M_move := fun _ h => h
  M_lower := fun _ h => h
theorem kRaw_mk {n : Nat} {w : World} {N : Nat} {ok : Nat → Prop} {x : List Value} (h : x.length = n) (h1 : (x.all fun u => u.oneCell') = true) : (kRaw n).M w N ok x x := ⟨rfl, h, fun u hu => List.all_eq_true.1 h1 u hu⟩
def RowsIn {α : Type} (R : α → List Value → Prop) (xs : List α) (ics : List (List Value)) : Prop := xs.length = ics.length ∧ ∀ (j : Nat) x c, xs[j]? = some x → ics[j]? = some c → R x c
section
variable {α : Type} {R R' : α → List Value → Prop} {xs : List α} {ics : List (List Value)}
theorem RowsIn.nil : RowsIn R [] [] := ⟨rfl, fun j x c h => by simp at h⟩
theorem RowsIn.imp_ (h : RowsIn R xs ics) (hR : ∀ x c, R x c → R' x c) : RowsIn R' xs ics := ⟨h.1, fun j x c hx hc => hR x c (h.2 j x c hx hc)⟩
theorem RowsIn.snoc (h : RowsIn R xs ics) {x : α} {c : List Value} (hx : R x c) : RowsIn R (xs ++ [x]) (ics ++ [c]) := by
  refine ⟨by simp [h.1], fun j x' c' hx' hc' => ?_⟩
  rcases Nat.lt_or_ge j xs.length with hj | hj
  · rw [List.getElem?_append_left hj] at hx'
    rw [List.getElem?_append_left (by rw [← h.1]; exact hj)] at hc'
    exact h.2 j x' c' hx' hc'
  · rw [List.getElem?_append_right hj] at hx'
    rw [List.getElem?_append_right (by rw [← h.1]; exact hj), ← h.1] at hc'
    have : j - xs.length = 0 := by
      rcases Nat.eq_zero_or_pos (j - xs.length) with h0 | h0
      · exact h0
      · rw [List.getElem?_eq_none (by simp; omega)] at hx'; cases hx'
    rw [this] at hx' hc'
    obtain rfl := Option.some.inj hx'
    obtain rfl := Option.some.inj hc'
    exact hx
theorem RowsIn.getD (h : RowsIn R xs ics) (j : Nat) (hj : j < xs.length) (z : α) (zc : List Value) : R (xs.getD j z) (ics.getD j zc) := by
  have hj2 : j < ics.length := by rw [← h.1]; exact hj
  refine h.2 j _ _ ?_ ?_
  · rw [List.getD_eq_getElem?_getD, List.getElem?_eq_getElem hj]; rfl
  · rw [List.getD_eq_getElem?_getD, List.getElem?_eq_getElem hj2]; rfl
theorem row_of_raw {d : Kd α} {e N : Nat} {W : World} {v : Value} {ok ok1 ok2 : Nat → Prop} (h : (kRaw d.sz).R e W N ok1 v ics) (hr : RowsIn (d.M W N ok2) xs ics) (hok2 : ∀ k, ok2 k → ok k ∧ some k ≠ v.ownBlock) (hok : ∀ k, v.ownBlock = some k → ok k) : d.R e W N ok v xs := by
  obtain ⟨h0, inner, ho, hrep⟩ := h
  refine ⟨hok, inner, by rw [hr.1]; exact ho, by rw [hr.1]; exact hrep.1, fun j p hj => ?_⟩
  have hj2 : j < ics.length := by rw [← hr.1]; exact (List.getElem?_eq_some_iff.1 hj).1
  have h2 := hrep.2 j _ (List.getElem?_eq_getElem hj2)
  have h3 := hr.2 j p _ hj (List.getElem?_eq_getElem hj2)
  have h4 : (inner.drop (j * d.sz)).take d.sz = ics[j] := h2.1
  rw [h4]
  exact d.M_mono hok2 h3
end
structure Zone (N : Nat) (s : Nat → Prop) (tv : Value) (q : WAcc) (ic im ie : List (List Value)) (W : World) : Prop where
  t : Kd.R k129 129 W N s tv tabRows
  c : RowsIn (k110.M W N s) q.cs ic
  m : RowsIn (k86.M W N s) q.ms im
  e : RowsIn (k131.M W N s) q.es ie
structure RowAt (N : Nat) (s : Nat → Prop) (r : S129) (b : List S30 × List Int) (v2 v3 v4 b4 b5 : Value) (W : World) : Prop where
  f : k30.R 30 W N s v2 r.f2
  v : k133.R 133 W N s v3 r.f3
  x : k133.R 133 W N s v4 r.f4
  bf : k30.R 30 W N s b4 b.1
  bv : (Kd.int .i64).R 3 W N s b5 b.2
section
variable {N : Nat} {s s' : Nat → Prop} {tv : Value} {q : WAcc} {ic im ie : List (List Value)} {W W' : World} {r : S129} {b : List S30 × List Int} {v2 v3 v4 b4 b5 : Value}
theorem Zone.foot (h : Zone N s tv q ic im ie W) : Foot (Zone N s tv q ic im ie) W s := fun W' hW => ⟨Kd.R_step h.t hW, h.c.imp_ fun _ _ hp => Kd.M_step hp hW, h.m.imp_ fun _ _ hp => Kd.M_step hp hW, h.e.imp_ fun _ _ hp => Kd.M_step hp hW⟩
theorem Zone.wide (h : Zone N s tv q ic im ie W) (hs : ∀ k, s k → s' k) : Zone N s' tv q ic im ie W := ⟨Kd.R_mono h.t hs, h.c.imp_ fun _ _ hp => k110.M_mono hs hp, h.m.imp_ fun _ _ hp => k86.M_mono hs hp, h.e.imp_ fun _ _ hp => k131.M_mono hs hp⟩
theorem RowAt.foot (h : RowAt N s r b v2 v3 v4 b4 b5 W) : Foot (RowAt N s r b v2 v3 v4 b4 b5) W s := fun W' hW => ⟨Kd.R_step h.f hW, Kd.R_step h.v hW, Kd.R_step h.x hW, Kd.R_step h.bf hW, Kd.R_step h.bv hW⟩
end
def chZ (N : Nat) (s : Nat → Prop) (tv : Value) (q : WAcc) (ic im ie : List (List Value)) : Chunk := ⟨s, Zone N s tv q ic im ie⟩
def chZr (N : Nat) (s : Nat → Prop) (tv : Value) (q : WAcc) (ic im ie : List (List Value)) (r : S129) (b : List S30 × List Int) (v2 v3 v4 b4 b5 : Value) : Chunk := ⟨s, fun W => Zone N s tv q ic im ie W ∧ RowAt N s r b v2 v3 v4 b4 b5 W⟩
theorem foot_chZ {N : Nat} {s : Nat → Prop} {tv : Value} {q : WAcc} {ic im ie : List (List Value)} {W : World} (h : Zone N s tv q ic im ie W) : Foot (chZ N s tv q ic im ie).p W (chZ N s tv q ic im ie).s := h.foot
theorem foot_chZr {N : Nat} {s : Nat → Prop} {tv : Value} {q : WAcc} {ic im ie : List (List Value)} {W : World} {r : S129} {b : List S30 × List Int} {v2 v3 v4 b4 b5 : Value} (h : Zone N s tv q ic im ie W) (h2 : RowAt N s r b v2 v3 v4 b4 b5 W) : Foot (chZr N s tv q ic im ie r b v2 v3 v4 b4 b5).p W (chZr N s tv q ic im ie r b v2 v3 v4 b4 b5).s := fun W' hW => ⟨h.foot W' hW, h2.foot W' hW⟩
section
variable {N : Nat} {w0 W : World} {L : List Chunk}
theorem Sep.take (h : Sep N w0 W L) (n : Nat) : Sep N w0 W (L.take n) := by
  have key : ∀ (i : Nat) (c : Chunk), (L.take n)[i]? = some c → L[i]? = some c := by
    intro i c hi
    rw [List.getElem?_take] at hi
    split at hi
    · exact hi
    · cases hi
  exact ⟨h.below, h.base, fun i c hi => h.foot i c (key i c hi), fun i c hi => h.lt i c (key i c hi), fun i c hi => h.ge i c (key i c hi), fun i j a b hne ha hb => h.apart i j a b hne (key i a ha) (key j b hb)⟩
theorem Sep.appLit {α : Type} (h : Sep N w0 W L) (d : Kd α) (hE : d.E = []) (e n : Nat) (xs : List α) (inner : List Value) (hn : n = xs.length) (hr : Reps (d.M W N fun _ => True) d.sz xs inner) (hm : xs.length ≤ 9223372036854775807) : Sep N w0 (W.alloc (.cells inner.toArray e)) (L ++ [chR d e N (.slice (some ⟨W.heap.size, 0, none⟩) n n) xs]) :=
  h.app _ (below_alloc (Below.refl _ _) _) (fun k hk => by have : W.heap.size = k := by simpa [chR, Value.ownBlock] using hk
                                                           simp; omega) (foot_chR hE (row_lit d e N n hn hr h.base hm))
theorem blk54 {b : Nat} {T : Nat} {v0 v1 v2 v3 : Value} (h : W.heap[b]? = some (.cells [v0, v1, v2, v3].toArray T (0, 0))) : W.cell? ⟨b, 0, none⟩ = some v0 ∧ W.cell? ⟨b, 1, none⟩ = some v1 ∧ W.cell? ⟨b, 2, none⟩ = some v2 ∧ W.cell? ⟨b, 3, none⟩ = some v3 := ⟨blk_cell h 0, blk_cell h 1, blk_cell h 2, blk_cell h 3⟩
theorem blk124 {b : Nat} {T : Nat} {v0 v1 v2 v3 v4 v5 : Value} (h : W.heap[b]? = some (.cells [v0, v1, v2, v3, v4, v5].toArray T (0, 0))) : W.cell? ⟨b, 0, none⟩ = some v0 ∧ W.cell? ⟨b, 1, none⟩ = some v1 ∧ W.cell? ⟨b, 2, none⟩ = some v2 ∧ W.cell? ⟨b, 3, none⟩ = some v3 ∧ W.cell? ⟨b, 4, none⟩ = some v4 ∧ W.cell? ⟨b, 5, none⟩ = some v5 := ⟨blk_cell h 0, blk_cell h 1, blk_cell h 2, blk_cell h 3, blk_cell h 4, blk_cell h 5⟩
theorem blk129 {b : Nat} {T : Nat} {v0 v1 v2 v3 v4 : Value} (h : W.heap[b]? = some (.cells [v0, v1, v2, v3, v4].toArray T (0, 0))) : W.cell? ⟨b, 0, none⟩ = some v0 ∧ W.cell? ⟨b, 1, none⟩ = some v1 ∧ W.cell? ⟨b, 2, none⟩ = some v2 ∧ W.cell? ⟨b, 3, none⟩ = some v3 ∧ W.cell? ⟨b, 4, none⟩ = some v4 := ⟨blk_cell h 0, blk_cell h 1, blk_cell h 2, blk_cell h 3, blk_cell h 4⟩
theorem blk110 {b : Nat} {T : Nat} {v0 v1 v2 v3 v4 v5 v6 : Value} (h : W.heap[b]? = some (.cells [v0, v1, v2, v3, v4, v5, v6].toArray T (0, 0))) : W.cell? ⟨b, 0, none⟩ = some v0 ∧ W.cell? ⟨b, 1, none⟩ = some v1 ∧ W.cell? ⟨b, 2, none⟩ = some v2 ∧ W.cell? ⟨b, 3, none⟩ = some v3 ∧ W.cell? ⟨b, 4, none⟩ = some v4 ∧ W.cell? ⟨b, 5, none⟩ = some v5 ∧ W.cell? ⟨b, 6, none⟩ = some v6 := ⟨blk_cell h 0, blk_cell h 1, blk_cell h 2, blk_cell h 3, blk_cell h 4, blk_cell h 5, blk_cell h 6⟩
theorem blk131 {b : Nat} {T : Nat} {v0 v1 v2 : Value} (h : W.heap[b]? = some (.cells [v0, v1, v2].toArray T (0, 0))) : W.cell? ⟨b, 0, none⟩ = some v0 ∧ W.cell? ⟨b, 1, none⟩ = some v1 ∧ W.cell? ⟨b, 2, none⟩ = some v2 := ⟨blk_cell h 0, blk_cell h 1, blk_cell h 2⟩
end
def wOk (k : Nat) : Bool :=
  let q := wTo k
  let r := tabRows.getD k z129
  q.cs.length == k && q.es.length == k && decide (r.f0 < k) && decide ((wBase q r).1.length + r.f2.length < 1000) && decide ((wBase q r).2.length + r.f3.length < 1000) && decide (q.ms.length + r.f3.length + r.f4.length < 1000)
theorem wOk_all : ((List.range 17).all wOk) = true := by kernel_rfl
theorem wOk_at (k : Nat) (h : k < 17) : (wTo k).cs.length = k ∧ (wTo k).es.length = k ∧ (tabRows.getD k z129).f0 < k ∧ (wBase (wTo k) (tabRows.getD k z129)).1.length + (tabRows.getD k z129).f2.length < 1000 ∧ (wBase (wTo k) (tabRows.getD k z129)).2.length + (tabRows.getD k z129).f3.length < 1000 ∧ (wTo k).ms.length + (tabRows.getD k z129).f3.length + (tabRows.getD k z129).f4.length < 1000 := by
  have := List.all_eq_true.1 wOk_all k (List.mem_range.2 h)
  simpa [wOk, and_assoc] using this
theorem wTo_succ (k : Nat) (h : k < 17) : wTo (k + 1) = wStep (wTo k) (tabRows.getD k z129) := by
  have hk : k < tabRows.length := h
  unfold wTo
  rw [List.take_add_one, List.getElem?_eq_getElem hk, Option.toList_some, List.foldl_append, List.getD_eq_getElem?_getD, List.getElem?_eq_getElem hk]
  rfl

theorem foldl_take {α β : Type} (f : β → α → β) (b : β) (l : List α) (z : α) (j : Nat) (h : j < l.length) : (l.take (j + 1)).foldl f b = f ((l.take j).foldl f b) (l.getD j z) := by
  rw [List.take_add_one, List.getElem?_eq_getElem h, Option.toList_some, List.foldl_append, List.getD_eq_getElem?_getD, List.getElem?_eq_getElem h]
  rfl
theorem virt_len (k : Int) (l : List S133) : ∀ (q : List Int × List S86), (l.foldl (wVirt k) q).1.length = q.1.length + l.length ∧ (l.foldl (wVirt k) q).2.length ≤ q.2.length + l.length := by
  induction l with
  | nil => intro q; simp
  | cons n l ih =>
    intro q
    rw [List.foldl_cons]
    obtain ⟨h1, h2⟩ := ih (wVirt k q n)
    have h3 : (wVirt k q n).1.length = q.1.length + 1 ∧ (wVirt k q n).2.length ≤ q.2.length + 1 := by
      unfold wVirt
      split <;> simp
    simp only [List.length_cons]
    omega
theorem exp_len (k : Int) (l : List S133) : ∀ (q : List Int × List S86), (l.foldl (wExp k) q).1.length = q.1.length + l.length ∧ (l.foldl (wExp k) q).2.length = q.2.length + l.length := by
  induction l with
  | nil => intro q; simp
  | cons n l ih =>
    intro q
    rw [List.foldl_cons]
    obtain ⟨h1, h2⟩ := ih (wExp k q n)
    have h3 : (wExp k q n).1.length = q.1.length + 1 ∧ (wExp k q n).2.length = q.2.length + 1 := by simp [wExp]
    simp only [List.length_cons]
    omega
end Go.Proofs.Ytocdpledkmmomaa.P
