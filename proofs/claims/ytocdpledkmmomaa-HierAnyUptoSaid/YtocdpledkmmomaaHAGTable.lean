import Derived.Test.YtocdpledkmmomaaHAGNat
import Derived.Test.YtocdpledkmmomaaHATold
namespace Go.Proofs.Ytocdpledkmmomaa.P
open Go.RowKit Go.Proofs.YtocdpledkmmomaaW.PrintWords Go.Proofs.YtocdpledkmmomaaW.PrintLast Go.Proofs.YtocdpledkmmomaaW.PrintMore
set_option linter.unusedVariables false
set_option linter.unusedSimpArgs false
def tab0 : S129 := ⟨(-1), 0, [], [], [⟨natName, 1, 4, ⟨0, 0⟩, []⟩]⟩
def tab1 : S129 := ⟨0, 0, [⟨3, 0⟩], [⟨⟨#[103, 101, 116, 82, 101, 97, 115, 111, 110]⟩, 2, 0, ⟨3, 0⟩, []⟩, ⟨⟨#[115, 101, 116, 82, 101, 97, 115, 111, 110]⟩, 3, 0, ⟨0, 0⟩, [⟨3, 0⟩]⟩], [⟨natName, 4, 4, ⟨0, 0⟩, [⟨3, 0⟩]⟩]⟩
def tab2 : S129 := ⟨1, 0, [], [], [⟨natName, 4, 4, ⟨0, 0⟩, [⟨3, 0⟩]⟩]⟩
def tab3 : S129 := ⟨1, 0, [], [], [⟨natName, 4, 4, ⟨0, 0⟩, [⟨3, 0⟩]⟩]⟩
def tab4 : S129 := ⟨1, 0, [], [], [⟨natName, 4, 4, ⟨0, 0⟩, [⟨3, 0⟩]⟩]⟩
def tab5 : S129 := ⟨1, 0, [], [], [⟨natName, 4, 4, ⟨0, 0⟩, [⟨3, 0⟩]⟩]⟩
def tab6 : S129 := ⟨1, 0, [], [], [⟨natName, 4, 4, ⟨0, 0⟩, [⟨3, 0⟩]⟩]⟩
def tab7 : S129 := ⟨1, 0, [], [], [⟨natName, 4, 4, ⟨0, 0⟩, [⟨3, 0⟩]⟩]⟩
def tab8 : S129 := ⟨1, 0, [], [], [⟨natName, 4, 4, ⟨0, 0⟩, [⟨3, 0⟩]⟩]⟩
def tab9 : S129 := ⟨1, 0, [], [], [⟨natName, 4, 4, ⟨0, 0⟩, [⟨3, 0⟩]⟩]⟩
def tab10 : S129 := ⟨1, 0, [], [], [⟨natName, 4, 4, ⟨0, 0⟩, [⟨3, 0⟩]⟩]⟩
def tab11 : S129 := ⟨1, 0, [], [], [⟨natName, 4, 4, ⟨0, 0⟩, [⟨3, 0⟩]⟩, ⟨⟨#[116, 104, 114, 111, 119, 73, 116]⟩, 5, 1, ⟨0, 0⟩, [⟨3, 0⟩]⟩]⟩
def tab12 : S129 := ⟨0, 4, [], [⟨⟨#[112, 114, 111, 99, 101, 115, 115]⟩, 0, 0, ⟨0, 0⟩, [⟨4, 14⟩]⟩, ⟨⟨#[115, 101, 108, 101, 99, 116]⟩, 6, 0, ⟨1, 0⟩, []⟩, ⟨⟨#[100, 101, 115, 101, 108, 101, 99, 116]⟩, 7, 0, ⟨0, 0⟩, []⟩, ⟨⟨#[115, 104, 97, 114, 101]⟩, 8, 0, ⟨4, 13⟩, [⟨3, 0⟩, ⟨2, 0⟩]⟩], [⟨natName, 1, 4, ⟨0, 0⟩, []⟩, ⟨⟨#[114, 101, 103, 105, 115, 116, 101, 114]⟩, 9, 1, ⟨0, 0⟩, [⟨4, 12⟩]⟩]⟩
def tab13 : S129 := ⟨(-1), 3, [], [], []⟩
def tab14 : S129 := ⟨0, 8, [], [⟨⟨#[98, 117, 102, 102, 101, 114]⟩, 10, 0, ⟨6, 0⟩, []⟩, ⟨⟨#[114, 101, 99, 101, 105, 118, 101]⟩, 11, 0, ⟨3, 0⟩, []⟩, ⟨⟨#[115, 101, 110, 100]⟩, 12, 0, ⟨0, 0⟩, [⟨3, 0⟩, ⟨3, 0⟩]⟩], []⟩
def tab15 : S129 := ⟨0, 8, [], [], [⟨⟨#[98, 101, 103, 105, 110]⟩, 13, 1, ⟨0, 0⟩, []⟩, ⟨⟨#[99, 111, 109, 109, 105, 116]⟩, 14, 1, ⟨0, 0⟩, []⟩, ⟨⟨#[97, 98, 111, 114, 116]⟩, 15, 1, ⟨0, 0⟩, []⟩, ⟨⟨#[100, 101, 112, 116, 104]⟩, 16, 1, ⟨2, 0⟩, []⟩, ⟨⟨#[109, 97, 107, 101, 66, 121, 116, 101, 115]⟩, 17, 1, ⟨6, 0⟩, [⟨3, 0⟩, ⟨2, 0⟩]⟩, ⟨⟨#[109, 97, 107, 101, 83, 104, 111, 114, 116, 115]⟩, 18, 1, ⟨7, 0⟩, [⟨3, 0⟩, ⟨2, 0⟩]⟩, ⟨⟨#[115, 104, 97, 114, 101]⟩, 19, 1, ⟨4, 13⟩, [⟨6, 0⟩, ⟨3, 0⟩, ⟨2, 0⟩, ⟨2, 0⟩]⟩, ⟨⟨#[112, 114, 101, 118, 105, 111, 117, 115]⟩, 20, 1, ⟨3, 0⟩, []⟩]⟩
def tab16 : S129 := ⟨0, 8, [], [], [⟨⟨#[99, 111, 112, 121]⟩, 21, 1, ⟨3, 0⟩, [⟨6, 0⟩, ⟨3, 0⟩, ⟨6, 0⟩, ⟨3, 0⟩, ⟨3, 0⟩]⟩, ⟨⟨#[99, 111, 112, 121, 78, 111, 110, 65, 116, 111, 109, 105, 99]⟩, 22, 1, ⟨3, 0⟩, [⟨6, 0⟩, ⟨3, 0⟩, ⟨6, 0⟩, ⟨3, 0⟩, ⟨3, 0⟩]⟩, ⟨⟨#[102, 105, 108, 108]⟩, 23, 1, ⟨3, 0⟩, [⟨6, 0⟩, ⟨3, 0⟩, ⟨3, 0⟩, ⟨2, 0⟩]⟩, ⟨⟨#[99, 111, 109, 112, 97, 114, 101]⟩, 24, 1, ⟨2, 0⟩, [⟨6, 0⟩, ⟨3, 0⟩, ⟨6, 0⟩, ⟨3, 0⟩, ⟨3, 0⟩]⟩, ⟨⟨#[103, 101, 116, 83, 104, 111, 114, 116]⟩, 25, 1, ⟨3, 0⟩, [⟨6, 0⟩, ⟨3, 0⟩]⟩, ⟨⟨#[115, 101, 116, 83, 104, 111, 114, 116]⟩, 26, 1, ⟨3, 0⟩, [⟨6, 0⟩, ⟨3, 0⟩, ⟨3, 0⟩]⟩]⟩
def tabRows : List S129 := [tab0, tab1, tab2, tab3, tab4, tab5, tab6, tab7, tab8, tab9, tab10, tab11, tab12, tab13, tab14, tab15, tab16]
def garderoberef12_table.f : Option (List (S129)) := some tabRows
structure Cst (b1 b2 b3 b4 b5 b6 b7 : Nat) (W : World) : Prop where
  c1 : W.cell? ⟨b1, 0, none⟩ = some (.int .u8 0) ∧ W.cell? ⟨b1, 1, none⟩ = some (.int .u16 0)
  c2 : W.cell? ⟨b2, 0, none⟩ = some (.int .u8 3) ∧ W.cell? ⟨b2, 1, none⟩ = some (.int .u16 0)
  c3 : W.cell? ⟨b3, 0, none⟩ = some (.int .u8 2) ∧ W.cell? ⟨b3, 1, none⟩ = some (.int .u16 0)
  c4 : W.cell? ⟨b4, 0, none⟩ = some (.int .u8 1) ∧ W.cell? ⟨b4, 1, none⟩ = some (.int .u16 0)
  c5 : W.cell? ⟨b5, 0, none⟩ = some (.int .u8 6) ∧ W.cell? ⟨b5, 1, none⟩ = some (.int .u16 0)
  c6 : W.cell? ⟨b6, 0, none⟩ = some (.int .u8 7) ∧ W.cell? ⟨b6, 1, none⟩ = some (.int .u16 0)
  c7 : W.cell? ⟨b7, 0, none⟩ = some (.int .u8 4) ∧ W.cell? ⟨b7, 1, none⟩ = some (.int .u16 13)
theorem Cst.below {b1 b2 b3 b4 b5 b6 b7 : Nat} {W W' : World} (h : Cst b1 b2 b3 b4 b5 b6 b7 W) (hb : Below W.heap.size W W') : Cst b1 b2 b3 b4 b5 b6 b7 W' :=
  ⟨⟨pw_cell_below hb h.c1.1, pw_cell_below hb h.c1.2⟩, ⟨pw_cell_below hb h.c2.1, pw_cell_below hb h.c2.2⟩, ⟨pw_cell_below hb h.c3.1, pw_cell_below hb h.c3.2⟩, ⟨pw_cell_below hb h.c4.1, pw_cell_below hb h.c4.2⟩, ⟨pw_cell_below hb h.c5.1, pw_cell_below hb h.c5.2⟩, ⟨pw_cell_below hb h.c6.1, pw_cell_below hb h.c6.2⟩, ⟨pw_cell_below hb h.c7.1, pw_cell_below hb h.c7.2⟩⟩
def tabE : S129 := ⟨1, 0, [], [], [⟨natName, 4, 4, ⟨0, 0⟩, [⟨3, 0⟩]⟩]⟩
theorem tab_take (k : Nat) (h1 : 2 ≤ k) (h2 : k < 11) : tabRows.take (k + 1) = tabRows.take k ++ [tabE] := by
  have : k = 2 ∨ k = 3 ∨ k = 4 ∨ k = 5 ∨ k = 6 ∨ k = 7 ∨ k = 8 ∨ k = 9 ∨ k = 10 := by omega
  rcases this with rfl | rfl | rfl | rfl | rfl | rfl | rfl | rfl | rfl <;> rfl
theorem tab_len (k : Nat) (h : k ≤ 11) : (tabRows.take k).length = k := by rw [List.length_take, show tabRows.length = 17 from rfl]; omega
theorem tab_below {w w4 w7 : World} {o1 o2 o3 o4 o5 o6 o7 : Obj} (h4 : Below w.heap.size w w4) (h7 : Below ((((w4.alloc o1).alloc o2).alloc o3).alloc o4).heap.size ((((w4.alloc o1).alloc o2).alloc o3).alloc o4) w7) : Below w.heap.size w (((w7.alloc o5).alloc o6).alloc o7) := by
  have h5 : Below w.heap.size w ((((w4.alloc o1).alloc o2).alloc o3).alloc o4) := (((h4.alloc h4.size _).alloc (by have := h4.size; simp; omega) _).alloc (by have := h4.size; simp; omega) _).alloc (by have := h4.size; simp; omega) _
  have h6 := h5.trans (h7.mono h5.size)
  have := h6.size
  exact ((h6.alloc h6.size _).alloc (by simp; omega) _).alloc (by simp; omega) _
theorem tab_cell4 {W4 w7 : World} {o5 o6 o7 : Obj} {b : Nat} {u v : Value} (_k : Nat) (hb : Below W4.heap.size W4 w7) (h1 : W4.cell? ⟨b, 0, none⟩ = some u) (h2 : W4.cell? ⟨b, 1, none⟩ = some v) :
    (((w7.alloc o5).alloc o6).alloc o7).cell? ⟨b, 0, none⟩ = some u ∧ (((w7.alloc o5).alloc o6).alloc o7).cell? ⟨b, 1, none⟩ = some v := by
  have h3 := below_alloc (below_alloc (below_alloc (Below.refl w7.heap.size w7) o5) o6) o7
  exact ⟨pw_cell_below h3 (pw_cell_below hb h1), pw_cell_below h3 (pw_cell_below hb h2)⟩
set_option maxHeartbeats 8000000 in
set_option maxRecDepth 100000 in
theorem garderoberef12_table.calls (r : List (S129)) (w : World) (h : garderoberef12_table.f = some r) :
    Calls Try.prog 69 #[] w fun e w' => ∃ v0_ : Value, e = .returned (v0_) ∧ Kd.R k129 129 w' w.heap.size (fun _ => True) v0_ r ∧ Below w.heap.size w w' := by
  obtain rfl := Option.some.inj h
  clear h
  have hu30 := Try.underlying30
  go_enter Try.func69, Try.ntmps69
  go_wp2_with fail
  refine (nat_of _ _ _).mono ?_
  rintro e w1 ⟨rfl, hb1⟩
  go_wp2_with fail
  refine (nat_of _ _ _).mono ?_
  rintro e w2 ⟨rfl, hb2⟩
  go_wp2_with fail
  refine (nat_of _ _ _).mono ?_
  rintro e w3 ⟨rfl, hb3⟩
  go_wp2_with fail
  refine (nat_of _ _ _).mono ?_
  rintro e w4 ⟨rfl, hb4⟩
  have HB4 := Aside0.mk (((hb1.trans (hb2.mono hb1.size)).trans (hb3.mono (by have := hb1.size; have := hb2.size; omega))).trans (hb4.mono (by have := hb1.size; have := hb2.size; have := hb3.size; omega)))
  clear hb1 hb2 hb3 hb4
  go_wp2_with fail
  refine (nat_of _ _ _).mono ?_
  rintro e w5 ⟨rfl, hb5⟩
  go_wp2_with fail
  refine (nat_of _ _ _).mono ?_
  rintro e w6 ⟨rfl, hb6⟩
  go_wp2_with fail
  refine (nat_of _ _ _).mono ?_
  rintro e w7 ⟨rfl, hb7⟩
  go_wp2_with fail
  have hb57 : Below ((((w4.alloc (Obj.cells #[Value.int IntKind.u8 0, Value.int IntKind.u16 0] 30)).alloc (Obj.cells #[Value.int IntKind.u8 3, Value.int IntKind.u16 0] 30)).alloc (Obj.cells #[Value.int IntKind.u8 2, Value.int IntKind.u16 0] 30)).alloc (Obj.cells #[Value.int IntKind.u8 1, Value.int IntKind.u16 0] 30)).heap.size ((((w4.alloc (Obj.cells #[Value.int IntKind.u8 0, Value.int IntKind.u16 0] 30)).alloc (Obj.cells #[Value.int IntKind.u8 3, Value.int IntKind.u16 0] 30)).alloc (Obj.cells #[Value.int IntKind.u8 2, Value.int IntKind.u16 0] 30)).alloc (Obj.cells #[Value.int IntKind.u8 1, Value.int IntKind.u16 0] 30)) w7 := (hb5.trans (hb6.mono hb5.size)).trans (hb7.mono (by have := hb5.size; have := hb6.size; omega))
  have hz7 := hb57.size
  simp only [World.size_alloc] at hz7
  have hK : Aside0 (Cst (w4.heap.size) (w4.heap.size + 1) (w4.heap.size + 1 + 1) (w4.heap.size + 1 + 1 + 1) (w7.heap.size) (w7.heap.size + 1) (w7.heap.size + 1 + 1) (((w7.alloc (Obj.cells #[Value.int IntKind.u8 6, Value.int IntKind.u16 0] 30)).alloc (Obj.cells #[Value.int IntKind.u8 7, Value.int IntKind.u16 0] 30)).alloc (Obj.cells #[Value.int IntKind.u8 4, Value.int IntKind.u16 13] 30))) := ⟨⟨tab_cell4 1 hb57 (by go_simp) (by go_simp), tab_cell4 2 hb57 (by go_simp) (by go_simp), tab_cell4 3 hb57 (by go_simp) (by go_simp), tab_cell4 4 hb57 (by go_simp) (by go_simp), ⟨by go_simp, by go_simp⟩, ⟨by go_simp, by go_simp⟩, ⟨by go_simp, by go_simp⟩⟩⟩
  have hBW : Aside0 (Below w.heap.size w (((w7.alloc (Obj.cells #[Value.int IntKind.u8 6, Value.int IntKind.u16 0] 30)).alloc (Obj.cells #[Value.int IntKind.u8 7, Value.int IntKind.u16 0] 30)).alloc (Obj.cells #[Value.int IntKind.u8 4, Value.int IntKind.u16 13] 30))) := ⟨tab_below HB4.out hb57⟩
  clear hb5 hb6 hb7 hb57 HB4 hu30
  obtain ⟨W, hW⟩ : ∃ W, (((w7.alloc (Obj.cells #[Value.int IntKind.u8 6, Value.int IntKind.u16 0] 30)).alloc (Obj.cells #[Value.int IntKind.u8 7, Value.int IntKind.u16 0] 30)).alloc (Obj.cells #[Value.int IntKind.u8 4, Value.int IntKind.u16 13] 30)) = W := ⟨_, rfl⟩
  rw [hW] at hK hBW ⊢
  have hsz : w7.heap.size + 3 ≤ W.heap.size := by rw [← hW]; simp
  clear hW
  have HBR := Aside0.mk (Below.refl W.heap.size W)
  refine wp_region_steps (ts := [Told.agg k133 W.heap.size ⟨natName, 1, 4, ⟨0, 0⟩, []⟩, Told.row k133 133 W.heap.size [⟨natName, 1, 4, ⟨0, 0⟩, []⟩], Told.agg k129 W.heap.size ⟨(-1), 0, [], [], [⟨natName, 1, 4, ⟨0, 0⟩, []⟩]⟩, Told.val (.agg #[.int .u8 3, .int .u16 0]), Told.row k30 30 W.heap.size [⟨3, 0⟩], Told.val (.agg #[.int .u8 3, .int .u16 0]), Told.agg k133 W.heap.size ⟨⟨#[103, 101, 116, 82, 101, 97, 115, 111, 110]⟩, 2, 0, ⟨3, 0⟩, []⟩, Told.val (.agg #[.int .u8 0, .int .u16 0]), Told.val (.agg #[.int .u8 3, .int .u16 0]), Told.row k30 30 W.heap.size [⟨3, 0⟩], Told.agg k133 W.heap.size ⟨⟨#[115, 101, 116, 82, 101, 97, 115, 111, 110]⟩, 3, 0, ⟨0, 0⟩, [⟨3, 0⟩]⟩, Told.row k133 133 W.heap.size [⟨⟨#[103, 101, 116, 82, 101, 97, 115, 111, 110]⟩, 2, 0, ⟨3, 0⟩, []⟩, ⟨⟨#[115, 101, 116, 82, 101, 97, 115, 111, 110]⟩, 3, 0, ⟨0, 0⟩, [⟨3, 0⟩]⟩], Told.val (.agg #[.int .u8 3, .int .u16 0]), Told.row k30 30 W.heap.size [⟨3, 0⟩], Told.agg k133 W.heap.size ⟨natName, 4, 4, ⟨0, 0⟩, [⟨3, 0⟩]⟩, Told.row k133 133 W.heap.size [⟨natName, 4, 4, ⟨0, 0⟩, [⟨3, 0⟩]⟩], Told.agg k129 W.heap.size ⟨0, 0, [⟨3, 0⟩], [⟨⟨#[103, 101, 116, 82, 101, 97, 115, 111, 110]⟩, 2, 0, ⟨3, 0⟩, []⟩, ⟨⟨#[115, 101, 116, 82, 101, 97, 115, 111, 110]⟩, 3, 0, ⟨0, 0⟩, [⟨3, 0⟩]⟩], [⟨natName, 4, 4, ⟨0, 0⟩, [⟨3, 0⟩]⟩]⟩, Told.row k129 129 W.heap.size [⟨(-1), 0, [], [], [⟨natName, 1, 4, ⟨0, 0⟩, []⟩]⟩, ⟨0, 0, [⟨3, 0⟩], [⟨⟨#[103, 101, 116, 82, 101, 97, 115, 111, 110]⟩, 2, 0, ⟨3, 0⟩, []⟩, ⟨⟨#[115, 101, 116, 82, 101, 97, 115, 111, 110]⟩, 3, 0, ⟨0, 0⟩, [⟨3, 0⟩]⟩], [⟨natName, 4, 4, ⟨0, 0⟩, [⟨3, 0⟩]⟩]⟩]]) (by kernel_rfl) (by kernel_rfl) ?_ ?_
  · refine ⟨?_, ?_, ?_, ?_, ?_, ?_, ?_, ?_, ?_, ?_, ?_, ?_, ?_, ?_, ?_, ?_, ?_, ?_, trivial⟩
    · intro a' w' hf hb hd
      refine told_call rfl (by go_simp) ((nat_constructor 1 none 0 0 w').mono ?_)
      rintro e w2_ ⟨rfl, hb2_⟩
      exact ⟨_, rfl, ⟨[.string natName, .int .i64 1, .int .u8 4, .int .u8 0, .int .u16 0, .slice none 0 0], rfl, k133_mkM _ _ _ ⟨natName, 1, 4, ⟨0, 0⟩, []⟩ (Kd.R_nil _ _ _ _ _)⟩, hb2_⟩
    · intro a' w' hf hb hd
      obtain ⟨cs0_, h0_, m0_⟩ : (Told.agg k133 W.heap.size ⟨natName, 1, 4, ⟨0, 0⟩, []⟩).p (a'.eval (.tmp 17)) w' := hd 0 (by decide)
      obtain ⟨v0_, rfl, g0_⟩ := k133_openM m0_
      obtain ⟨A0_, c0_, e0_⟩ := Kd.R_slice g0_
      subst e0_
      have hu_ := Try.underlying127
      have hreps_ : Reps (k133.M w' W.heap.size (fun _ => True)) k133.sz _ _ := (reps_one (by rfl) m0_)
      exact told_lit k133 133 W.heap.size (xs := [⟨natName, 1, 4, ⟨0, 0⟩, []⟩]) (inner := [.string natName, .int .i64 1, .int .u8 4, .int .u8 0, .int .u16 0, .slice A0_ 0 c0_]) rfl (by simp [execOp, h0_]; first | (go_simp; done) | (go_simp; rfl)) hreps_ (by have := (HBR.out.trans (hb.mono HBR.out.size)).size; omega) (by decide)
    · intro a' w' hf hb hd
      have o_ : k133.R 133 w' W.heap.size (fun _ => True) (a'.eval (.tmp 18)) [⟨natName, 1, 4, ⟨0, 0⟩, []⟩] := hd 1 (by decide)
      obtain ⟨Ao_, co_, eo_⟩ := Kd.R_slice o_
      rw [eo_] at o_
      have hu_ := Try.underlying129
      exact told_run (v := .agg #[.int .i64 (-1), .int .u8 0, .slice none 0 0, .slice none 0 0, .slice Ao_ _ co_]) rfl (by simp [execOp, eo_]; go_simp) ⟨[.int .i64 (-1), .int .u8 0, .slice none 0 0, .slice none 0 0, .slice Ao_ _ co_], rfl, k129_mkM _ _ _ ⟨(-1), 0, [], [], [⟨natName, 1, 4, ⟨0, 0⟩, []⟩]⟩ (Kd.R_nil _ _ _ _ _) (Kd.R_nil _ _ _ _ _) o_⟩ (Below.refl _ _)
    · intro a' w' hf hb hd
      have p_ := frame_at hf 2 (.pointer (some ⟨w4.heap.size + 1, 0, none⟩)) (by kernel_rfl) rfl
      obtain ⟨c0_, c1_⟩ := (hK.out.below (HBR.out.trans (hb.mono HBR.out.size))).c2
      exact told_run (v := .agg #[.int .u8 3, .int .u16 0]) rfl (by simp [execOp, p_]; go_simp) rfl (Below.refl _ _)
    · intro a' w' hf hb hd
      have h0_ : a'.eval (.tmp 20) = .agg #[.int .u8 3, .int .u16 0] := hd 3 (by decide)
      have hu_ := Try.underlying80
      have hreps_ : Reps (k30.M w' W.heap.size (fun _ => True)) k30.sz _ _ := (reps_one (by rfl) (k30_mkM w' W.heap.size (fun _ => True) ⟨3, 0⟩))
      exact told_lit k30 30 W.heap.size (xs := [⟨3, 0⟩]) (inner := [.int .u8 3, .int .u16 0]) rfl (by simp [execOp, h0_]; first | (go_simp; done) | (go_simp; rfl)) hreps_ (by have := (HBR.out.trans (hb.mono HBR.out.size)).size; omega) (by decide)
    · intro a' w' hf hb hd
      have p_ := frame_at hf 2 (.pointer (some ⟨w4.heap.size + 1, 0, none⟩)) (by kernel_rfl) rfl
      obtain ⟨c0_, c1_⟩ := (hK.out.below (HBR.out.trans (hb.mono HBR.out.size))).c2
      exact told_run (v := .agg #[.int .u8 3, .int .u16 0]) rfl (by simp [execOp, p_]; go_simp) rfl (Below.refl _ _)
    · intro a' w' hf hb hd
      have hr_ : a'.eval (.tmp 22) = .agg #[.int .u8 3, .int .u16 0] := hd 5 (by decide)
      have hr2_ : a'.tmps[22]?.getD undef = .agg #[.int .u8 3, .int .u16 0] := by simpa [Act.eval] using hr_
      refine told_call rfl (by go_simp) ((nat_virtual ⟨#[103, 101, 116, 82, 101, 97, 115, 111, 110]⟩ 2 3 0 none 0 0 w').mono ?_)
      rintro e w2_ ⟨rfl, hb2_⟩
      exact ⟨_, rfl, ⟨[.string ⟨#[103, 101, 116, 82, 101, 97, 115, 111, 110]⟩, .int .i64 2, .int .u8 0, .int .u8 3, .int .u16 0, .slice none 0 0], rfl, k133_mkM _ _ _ ⟨⟨#[103, 101, 116, 82, 101, 97, 115, 111, 110]⟩, 2, 0, ⟨3, 0⟩, []⟩ (Kd.R_nil _ _ _ _ _)⟩, hb2_⟩
    · intro a' w' hf hb hd
      have p_ := frame_at hf 1 (.pointer (some ⟨w4.heap.size, 0, none⟩)) (by kernel_rfl) rfl
      obtain ⟨c0_, c1_⟩ := (hK.out.below (HBR.out.trans (hb.mono HBR.out.size))).c1
      exact told_run (v := .agg #[.int .u8 0, .int .u16 0]) rfl (by simp [execOp, p_]; go_simp) rfl (Below.refl _ _)
    · intro a' w' hf hb hd
      have p_ := frame_at hf 2 (.pointer (some ⟨w4.heap.size + 1, 0, none⟩)) (by kernel_rfl) rfl
      obtain ⟨c0_, c1_⟩ := (hK.out.below (HBR.out.trans (hb.mono HBR.out.size))).c2
      exact told_run (v := .agg #[.int .u8 3, .int .u16 0]) rfl (by simp [execOp, p_]; go_simp) rfl (Below.refl _ _)
    · intro a' w' hf hb hd
      have h0_ : a'.eval (.tmp 25) = .agg #[.int .u8 3, .int .u16 0] := hd 8 (by decide)
      have hu_ := Try.underlying80
      have hreps_ : Reps (k30.M w' W.heap.size (fun _ => True)) k30.sz _ _ := (reps_one (by rfl) (k30_mkM w' W.heap.size (fun _ => True) ⟨3, 0⟩))
      exact told_lit k30 30 W.heap.size (xs := [⟨3, 0⟩]) (inner := [.int .u8 3, .int .u16 0]) rfl (by simp [execOp, h0_]; first | (go_simp; done) | (go_simp; rfl)) hreps_ (by have := (HBR.out.trans (hb.mono HBR.out.size)).size; omega) (by decide)
    · intro a' w' hf hb hd
      have hr_ : a'.eval (.tmp 24) = .agg #[.int .u8 0, .int .u16 0] := hd 7 (by decide)
      have hr2_ : a'.tmps[24]?.getD undef = .agg #[.int .u8 0, .int .u16 0] := by simpa [Act.eval] using hr_
      have r_ : k30.R 30 w' W.heap.size (fun _ => True) (a'.eval (.tmp 26)) [⟨3, 0⟩] := hd 9 (by decide)
      obtain ⟨A_, c_, hv_⟩ := Kd.R_slice r_
      rw [hv_] at r_
      have hv2_ : a'.tmps[26]?.getD undef = .slice A_ 1 c_ := by simpa [Act.eval] using hv_
      refine told_call rfl (by go_simp) ((nat_virtual ⟨#[115, 101, 116, 82, 101, 97, 115, 111, 110]⟩ 3 0 0 A_ 1 c_ w').mono ?_)
      rintro e w2_ ⟨rfl, hb2_⟩
      exact ⟨_, rfl, ⟨[.string ⟨#[115, 101, 116, 82, 101, 97, 115, 111, 110]⟩, .int .i64 3, .int .u8 0, .int .u8 0, .int .u16 0, .slice A_ 1 c_], rfl, k133_mkM _ _ _ ⟨⟨#[115, 101, 116, 82, 101, 97, 115, 111, 110]⟩, 3, 0, ⟨0, 0⟩, [⟨3, 0⟩]⟩ (Kd.R_below r_ hb2_)⟩, hb2_⟩
    · intro a' w' hf hb hd
      obtain ⟨cs0_, h0_, m0_⟩ : (Told.agg k133 W.heap.size ⟨⟨#[103, 101, 116, 82, 101, 97, 115, 111, 110]⟩, 2, 0, ⟨3, 0⟩, []⟩).p (a'.eval (.tmp 23)) w' := hd 6 (by decide)
      obtain ⟨v0_, rfl, g0_⟩ := k133_openM m0_
      obtain ⟨A0_, c0_, e0_⟩ := Kd.R_slice g0_
      subst e0_
      obtain ⟨cs1_, h1_, m1_⟩ : (Told.agg k133 W.heap.size ⟨⟨#[115, 101, 116, 82, 101, 97, 115, 111, 110]⟩, 3, 0, ⟨0, 0⟩, [⟨3, 0⟩]⟩).p (a'.eval (.tmp 27)) w' := hd 10 (by decide)
      obtain ⟨v1_, rfl, g1_⟩ := k133_openM m1_
      obtain ⟨A1_, c1_, e1_⟩ := Kd.R_slice g1_
      subst e1_
      have hu_ := Try.underlying127
      have hreps_ : Reps (k133.M w' W.heap.size (fun _ => True)) k133.sz _ _ := (reps_snoc (reps_one (by rfl) m0_) (by rfl) m1_)
      simp only [List.cons_append, List.nil_append] at hreps_
      exact told_lit k133 133 W.heap.size (xs := [⟨⟨#[103, 101, 116, 82, 101, 97, 115, 111, 110]⟩, 2, 0, ⟨3, 0⟩, []⟩, ⟨⟨#[115, 101, 116, 82, 101, 97, 115, 111, 110]⟩, 3, 0, ⟨0, 0⟩, [⟨3, 0⟩]⟩]) (inner := [.string ⟨#[103, 101, 116, 82, 101, 97, 115, 111, 110]⟩, .int .i64 2, .int .u8 0, .int .u8 3, .int .u16 0, .slice A0_ 0 c0_, .string ⟨#[115, 101, 116, 82, 101, 97, 115, 111, 110]⟩, .int .i64 3, .int .u8 0, .int .u8 0, .int .u16 0, .slice A1_ 1 c1_]) rfl (by simp [execOp, h0_, h1_]; first | (go_simp; done) | (go_simp; rfl)) hreps_ (by have := (HBR.out.trans (hb.mono HBR.out.size)).size; omega) (by decide)
    · intro a' w' hf hb hd
      have p_ := frame_at hf 2 (.pointer (some ⟨w4.heap.size + 1, 0, none⟩)) (by kernel_rfl) rfl
      obtain ⟨c0_, c1_⟩ := (hK.out.below (HBR.out.trans (hb.mono HBR.out.size))).c2
      exact told_run (v := .agg #[.int .u8 3, .int .u16 0]) rfl (by simp [execOp, p_]; go_simp) rfl (Below.refl _ _)
    · intro a' w' hf hb hd
      have h0_ : a'.eval (.tmp 29) = .agg #[.int .u8 3, .int .u16 0] := hd 12 (by decide)
      have hu_ := Try.underlying80
      have hreps_ : Reps (k30.M w' W.heap.size (fun _ => True)) k30.sz _ _ := (reps_one (by rfl) (k30_mkM w' W.heap.size (fun _ => True) ⟨3, 0⟩))
      exact told_lit k30 30 W.heap.size (xs := [⟨3, 0⟩]) (inner := [.int .u8 3, .int .u16 0]) rfl (by simp [execOp, h0_]; first | (go_simp; done) | (go_simp; rfl)) hreps_ (by have := (HBR.out.trans (hb.mono HBR.out.size)).size; omega) (by decide)
    · intro a' w' hf hb hd
      have r_ : k30.R 30 w' W.heap.size (fun _ => True) (a'.eval (.tmp 30)) [⟨3, 0⟩] := hd 13 (by decide)
      obtain ⟨A_, c_, hv_⟩ := Kd.R_slice r_
      rw [hv_] at r_
      have hv2_ : a'.tmps[30]?.getD undef = .slice A_ 1 c_ := by simpa [Act.eval] using hv_
      refine told_call rfl (by go_simp) ((nat_constructor 4 A_ 1 c_ w').mono ?_)
      rintro e w2_ ⟨rfl, hb2_⟩
      exact ⟨_, rfl, ⟨[.string natName, .int .i64 4, .int .u8 4, .int .u8 0, .int .u16 0, .slice A_ 1 c_], rfl, k133_mkM _ _ _ ⟨natName, 4, 4, ⟨0, 0⟩, [⟨3, 0⟩]⟩ (Kd.R_below r_ hb2_)⟩, hb2_⟩
    · intro a' w' hf hb hd
      obtain ⟨cs0_, h0_, m0_⟩ : (Told.agg k133 W.heap.size ⟨natName, 4, 4, ⟨0, 0⟩, [⟨3, 0⟩]⟩).p (a'.eval (.tmp 31)) w' := hd 14 (by decide)
      obtain ⟨v0_, rfl, g0_⟩ := k133_openM m0_
      obtain ⟨A0_, c0_, e0_⟩ := Kd.R_slice g0_
      subst e0_
      have hu_ := Try.underlying127
      have hreps_ : Reps (k133.M w' W.heap.size (fun _ => True)) k133.sz _ _ := (reps_one (by rfl) m0_)
      exact told_lit k133 133 W.heap.size (xs := [⟨natName, 4, 4, ⟨0, 0⟩, [⟨3, 0⟩]⟩]) (inner := [.string natName, .int .i64 4, .int .u8 4, .int .u8 0, .int .u16 0, .slice A0_ 1 c0_]) rfl (by simp [execOp, h0_]; first | (go_simp; done) | (go_simp; rfl)) hreps_ (by have := (HBR.out.trans (hb.mono HBR.out.size)).size; omega) (by decide)
    · intro a' w' hf hb hd
      have f_ : k30.R 30 w' W.heap.size (fun _ => True) (a'.eval (.tmp 21)) [⟨3, 0⟩] := hd 4 (by decide)
      obtain ⟨Af_, cf_, ef_⟩ := Kd.R_slice f_
      rw [ef_] at f_
      have v_ : k133.R 133 w' W.heap.size (fun _ => True) (a'.eval (.tmp 28)) [⟨⟨#[103, 101, 116, 82, 101, 97, 115, 111, 110]⟩, 2, 0, ⟨3, 0⟩, []⟩, ⟨⟨#[115, 101, 116, 82, 101, 97, 115, 111, 110]⟩, 3, 0, ⟨0, 0⟩, [⟨3, 0⟩]⟩] := hd 11 (by decide)
      obtain ⟨Av_, cv_, ev_⟩ := Kd.R_slice v_
      rw [ev_] at v_
      have o_ : k133.R 133 w' W.heap.size (fun _ => True) (a'.eval (.tmp 32)) [⟨natName, 4, 4, ⟨0, 0⟩, [⟨3, 0⟩]⟩] := hd 15 (by decide)
      obtain ⟨Ao_, co_, eo_⟩ := Kd.R_slice o_
      rw [eo_] at o_
      have hu_ := Try.underlying129
      exact told_run (v := .agg #[.int .i64 0, .int .u8 0, .slice Af_ _ cf_, .slice Av_ _ cv_, .slice Ao_ _ co_]) rfl (by simp [execOp, ef_, ev_, eo_]; go_simp) ⟨[.int .i64 0, .int .u8 0, .slice Af_ _ cf_, .slice Av_ _ cv_, .slice Ao_ _ co_], rfl, k129_mkM _ _ _ ⟨0, 0, [⟨3, 0⟩], [⟨⟨#[103, 101, 116, 82, 101, 97, 115, 111, 110]⟩, 2, 0, ⟨3, 0⟩, []⟩, ⟨⟨#[115, 101, 116, 82, 101, 97, 115, 111, 110]⟩, 3, 0, ⟨0, 0⟩, [⟨3, 0⟩]⟩], [⟨natName, 4, 4, ⟨0, 0⟩, [⟨3, 0⟩]⟩]⟩ f_ v_ o_⟩ (Below.refl _ _)
    · intro a' w' hf hb hd
      obtain ⟨cs0_, h0_, m0_⟩ : (Told.agg k129 W.heap.size ⟨(-1), 0, [], [], [⟨natName, 1, 4, ⟨0, 0⟩, []⟩]⟩).p (a'.eval (.tmp 19)) w' := hd 2 (by decide)
      obtain ⟨v0_, x0_, y0_, rfl, g0_, i0_, j0_⟩ := k129_openM m0_
      obtain ⟨Ag0_, cg0_, eg0_⟩ := Kd.R_slice g0_
      subst eg0_
      obtain ⟨Ai0_, ci0_, ei0_⟩ := Kd.R_slice i0_
      subst ei0_
      obtain ⟨Aj0_, cj0_, ej0_⟩ := Kd.R_slice j0_
      subst ej0_
      obtain ⟨cs1_, h1_, m1_⟩ : (Told.agg k129 W.heap.size ⟨0, 0, [⟨3, 0⟩], [⟨⟨#[103, 101, 116, 82, 101, 97, 115, 111, 110]⟩, 2, 0, ⟨3, 0⟩, []⟩, ⟨⟨#[115, 101, 116, 82, 101, 97, 115, 111, 110]⟩, 3, 0, ⟨0, 0⟩, [⟨3, 0⟩]⟩], [⟨natName, 4, 4, ⟨0, 0⟩, [⟨3, 0⟩]⟩]⟩).p (a'.eval (.tmp 33)) w' := hd 16 (by decide)
      obtain ⟨v1_, x1_, y1_, rfl, g1_, i1_, j1_⟩ := k129_openM m1_
      obtain ⟨Ag1_, cg1_, eg1_⟩ := Kd.R_slice g1_
      subst eg1_
      obtain ⟨Ai1_, ci1_, ei1_⟩ := Kd.R_slice i1_
      subst ei1_
      obtain ⟨Aj1_, cj1_, ej1_⟩ := Kd.R_slice j1_
      subst ej1_
      have hu_ := Try.underlying125
      have hreps_ : Reps (k129.M w' W.heap.size (fun _ => True)) k129.sz _ _ := (reps_snoc (reps_one (by rfl) m0_) (by rfl) m1_)
      simp only [List.cons_append, List.nil_append] at hreps_
      exact told_lit k129 129 W.heap.size (xs := [⟨(-1), 0, [], [], [⟨natName, 1, 4, ⟨0, 0⟩, []⟩]⟩, ⟨0, 0, [⟨3, 0⟩], [⟨⟨#[103, 101, 116, 82, 101, 97, 115, 111, 110]⟩, 2, 0, ⟨3, 0⟩, []⟩, ⟨⟨#[115, 101, 116, 82, 101, 97, 115, 111, 110]⟩, 3, 0, ⟨0, 0⟩, [⟨3, 0⟩]⟩], [⟨natName, 4, 4, ⟨0, 0⟩, [⟨3, 0⟩]⟩]⟩]) (inner := [.int .i64 (-1), .int .u8 0, .slice Ag0_ 0 cg0_, .slice Ai0_ 0 ci0_, .slice Aj0_ 1 cj0_, .int .i64 0, .int .u8 0, .slice Ag1_ 1 cg1_, .slice Ai1_ 2 ci1_, .slice Aj1_ 1 cj1_]) rfl (by simp [execOp, h0_, h1_]; first | (go_simp; done) | (go_simp; rfl)) hreps_ (by have := (HBR.out.trans (hb.mono HBR.out.size)).size; omega) (by decide)
  · intro a' w' hf hb hd
    have hrow_ : (Told.row k129 129 W.heap.size [⟨(-1), 0, [], [], [⟨natName, 1, 4, ⟨0, 0⟩, []⟩]⟩, ⟨0, 0, [⟨3, 0⟩], [⟨⟨#[103, 101, 116, 82, 101, 97, 115, 111, 110]⟩, 2, 0, ⟨3, 0⟩, []⟩, ⟨⟨#[115, 101, 116, 82, 101, 97, 115, 111, 110]⟩, 3, 0, ⟨0, 0⟩, [⟨3, 0⟩]⟩], [⟨natName, 4, 4, ⟨0, 0⟩, [⟨3, 0⟩]⟩]⟩]).p (a'.eval (.tmp 34)) w' := hd 17 (by simp)
    have ha := act_of_frame hf [17, 18, 19, 20, 21, 22, 23, 24, 25, 26, 27, 28, 29, 30, 31, 32, 33, 34] (by kernel_rfl) (by kernel_rfl)
    obtain ⟨u17, hu17⟩ : ∃ u, a'.eval (.tmp 17) = u := ⟨_, rfl⟩
    obtain ⟨u18, hu18⟩ : ∃ u, a'.eval (.tmp 18) = u := ⟨_, rfl⟩
    obtain ⟨u19, hu19⟩ : ∃ u, a'.eval (.tmp 19) = u := ⟨_, rfl⟩
    obtain ⟨u20, hu20⟩ : ∃ u, a'.eval (.tmp 20) = u := ⟨_, rfl⟩
    obtain ⟨u21, hu21⟩ : ∃ u, a'.eval (.tmp 21) = u := ⟨_, rfl⟩
    obtain ⟨u22, hu22⟩ : ∃ u, a'.eval (.tmp 22) = u := ⟨_, rfl⟩
    obtain ⟨u23, hu23⟩ : ∃ u, a'.eval (.tmp 23) = u := ⟨_, rfl⟩
    obtain ⟨u24, hu24⟩ : ∃ u, a'.eval (.tmp 24) = u := ⟨_, rfl⟩
    obtain ⟨u25, hu25⟩ : ∃ u, a'.eval (.tmp 25) = u := ⟨_, rfl⟩
    obtain ⟨u26, hu26⟩ : ∃ u, a'.eval (.tmp 26) = u := ⟨_, rfl⟩
    obtain ⟨u27, hu27⟩ : ∃ u, a'.eval (.tmp 27) = u := ⟨_, rfl⟩
    obtain ⟨u28, hu28⟩ : ∃ u, a'.eval (.tmp 28) = u := ⟨_, rfl⟩
    obtain ⟨u29, hu29⟩ : ∃ u, a'.eval (.tmp 29) = u := ⟨_, rfl⟩
    obtain ⟨u30, hu30⟩ : ∃ u, a'.eval (.tmp 30) = u := ⟨_, rfl⟩
    obtain ⟨u31, hu31⟩ : ∃ u, a'.eval (.tmp 31) = u := ⟨_, rfl⟩
    obtain ⟨u32, hu32⟩ : ∃ u, a'.eval (.tmp 32) = u := ⟨_, rfl⟩
    obtain ⟨u33, hu33⟩ : ∃ u, a'.eval (.tmp 33) = u := ⟨_, rfl⟩
    obtain ⟨u34, hu34⟩ : ∃ u, a'.eval (.tmp 34) = u := ⟨_, rfl⟩
    rw [hu34] at hrow_
    simp only [List.foldl_cons, List.foldl_nil, List.setIfInBounds_toArray, List.set_cons_succ, List.set_cons_zero, hu17, hu18, hu19, hu20, hu21, hu22, hu23, hu24, hu25, hu26, hu27, hu28, hu29, hu30, hu31, hu32, hu33, hu34] at ha
    clear hf hd hu17 hu18 hu19 hu20 hu21 hu22 hu23 hu24 hu25 hu26 hu27 hu28 hu29 hu30 hu31 hu32 hu33 hu34
    subst ha
    obtain ⟨g_, cap_, rfl, hg_, _⟩ := Kd.R_form hrow_ (by decide)
    have hrow0 := Aside0.mk hrow_
    have hb0 := Aside0.mk hb
    clear hrow_ hb HBR hg_
    go_wp2_with fail
    go_loopw [8, 9] (fun o i wr => ∃ k : Nat, 2 ≤ k ∧ k ≤ 11 ∧ i = .int .i64 k ∧ ∃ g cap : Nat, o = .slice (some ⟨g, 0, none⟩) k cap ∧ Aside0 (k129.R 129 wr W.heap.size (fun _ => True) (.slice (some ⟨g, 0, none⟩) k cap) (tabRows.take k)) ∧ Aside0 (Below W.heap.size W wr)) (fun _ i _ => 11 - (intOf i).toNat)
    case atStart => exact ⟨2, by omega, by omega, rfl, g_, cap_, rfl, hrow0, hb0⟩
    case round =>
      obtain ⟨k, hk1, hk2, rfl, g, cap, rfl, hR, hBw⟩ := hrel
      by_cases hlt : k < 11
      · obtain ⟨c0_, c1_⟩ := (hK.out.below hBw.out).c2
        have hN : W.heap.size ≤ wr.heap.size := hBw.out.size
        have HT := Aside0.mk (tab_take k hk1 hlt)
        have HL := Aside0.mk (tab_len k hk2)
        go_wp2_with fail
        refine (nat_constructor 4 (some ⟨wr.heap.size, 0, none⟩) 1 1 _).mono ?_
        rintro e w1_ ⟨rfl, hb1_⟩
        have h30 := Kd.R_below (row_lit k30 30 W.heap.size (w := wr) (xs := [⟨3, 0⟩]) (inner := [.int .u8 3, .int .u16 0]) 1 rfl (reps_one rfl (k30_mkM _ _ _ ⟨3, 0⟩)) hN (by decide)) hb1_
        have hB1 : Below W.heap.size W w1_ := (below_step (hBw.out) (Below.refl _ _)).trans ((Below.trans (below_alloc (Below.refl _ _) _) (hb1_.mono (by simp))).mono hN)
        have hN1 : W.heap.size ≤ w1_.heap.size := hB1.size
        have h133 := row_lit k133 133 W.heap.size (w := w1_) (xs := [⟨natName, 4, 4, ⟨0, 0⟩, [⟨3, 0⟩]⟩]) (inner := [.string natName, .int .i64 4, .int .u8 4, .int .u8 0, .int .u16 0, .slice (some ⟨wr.heap.size, 0, none⟩) 1 1]) 1 rfl (reps_one rfl (k133_mkM _ _ _ ⟨natName, 4, 4, ⟨0, 0⟩, [⟨3, 0⟩]⟩ h30)) hN1 (by decide)
        have HO := Aside0.mk (Kd.R_alloc (Kd.R_below (Kd.R_alloc hR.out _) hb1_) (.cells #[.string natName, .int .i64 4, .int .u8 4, .int .u8 0, .int .u16 0, .slice (some ⟨wr.heap.size, 0, none⟩) 1 1] 133))
        have HM := Aside0.mk (k129_mkM _ _ _ tabE (Kd.R_nil _ _ _ _ _) (Kd.R_nil _ _ _ _ _) h133)
        have HB := Aside0.mk (hB1.alloc hN1 (.cells #[.string natName, .int .i64 4, .int .u8 4, .int .u8 0, .int .u16 0, .slice (some ⟨wr.heap.size, 0, none⟩) 1 1] 133))
        clear h30 hB1 h133 hb1_ hN
        go_wp2_with (at_builtin; refine told_append1 k129 (w0 := W) W.heap.size rfl (.tmp 39) (.tmp 45) 125 129 _ 88 rfl Try.underlying125 info129 rfl (by decide) (by decide) (by decide) g k cap (tabRows.take k) tabE [.int .i64 1, .int .u8 0, .slice none 0 0, .slice none 0 0, .slice (some ⟨w1_.heap.size, 0, none⟩) 1 1] rfl (by simp [Act.eval, go_sem]) HO.out HM.out HB.out (by simp; omega) (by rw [HL.out]; omega) (tabRows.take (k + 1)) (k + 1) HT.out.symm (tab_len (k + 1) (by omega)) ?_; intro g1 cap1 w2_ ho2 hb2; have HO2 := Aside0.mk ho2; have HB2 := Aside0.mk hb2; clear ho2 hb2)
        go_roundw
        case rel => exact ⟨k + 1, by omega, by omega, by go_num, g1, cap1, rfl, HO2, HB2⟩
        case measure => simp [intOf]; omega
      · obtain rfl : k = 11 := by omega
        have HBR := hBw
        go_wp2_with fail
        refine wp_region_steps (ts := [Told.val (.slice (some ⟨g, 0, none⟩) 11 cap), Told.val (.agg #[.int .u8 3, .int .u16 0]), Told.row k30 30 W.heap.size [⟨3, 0⟩], Told.agg k133 W.heap.size ⟨natName, 4, 4, ⟨0, 0⟩, [⟨3, 0⟩]⟩, Told.val (.agg #[.int .u8 0, .int .u16 0]), Told.val (.agg #[.int .u8 3, .int .u16 0]), Told.row k30 30 W.heap.size [⟨3, 0⟩], Told.agg k133 W.heap.size ⟨⟨#[116, 104, 114, 111, 119, 73, 116]⟩, 5, 1, ⟨0, 0⟩, [⟨3, 0⟩]⟩, Told.row k133 133 W.heap.size [⟨natName, 4, 4, ⟨0, 0⟩, [⟨3, 0⟩]⟩, ⟨⟨#[116, 104, 114, 111, 119, 73, 116]⟩, 5, 1, ⟨0, 0⟩, [⟨3, 0⟩]⟩], Told.agg k129 W.heap.size ⟨1, 0, [], [], [⟨natName, 4, 4, ⟨0, 0⟩, [⟨3, 0⟩]⟩, ⟨⟨#[116, 104, 114, 111, 119, 73, 116]⟩, 5, 1, ⟨0, 0⟩, [⟨3, 0⟩]⟩]⟩, Told.row k129 129 W.heap.size [⟨1, 0, [], [], [⟨natName, 4, 4, ⟨0, 0⟩, [⟨3, 0⟩]⟩, ⟨⟨#[116, 104, 114, 111, 119, 73, 116]⟩, 5, 1, ⟨0, 0⟩, [⟨3, 0⟩]⟩]⟩]]) (by kernel_rfl) (by kernel_rfl) ?_ ?_
        · refine ⟨?_, ?_, ?_, ?_, ?_, ?_, ?_, ?_, ?_, ?_, ?_, trivial⟩
          · intro a' w' hf hb hd
            have p_ := frame_at hf 8 (.slice (some ⟨g, 0, none⟩) 11 cap) (by kernel_rfl) rfl
            have p2_ : a'.tmps[8]?.getD undef = .slice (some ⟨g, 0, none⟩) 11 cap := by simpa [Act.eval] using p_
            exact told_run (v := .slice (some ⟨g, 0, none⟩) 11 cap) rfl (by go_simp) rfl (Below.refl _ _)
          · intro a' w' hf hb hd
            have p_ := frame_at hf 2 (.pointer (some ⟨w4.heap.size + 1, 0, none⟩)) (by kernel_rfl) rfl
            obtain ⟨c0_, c1_⟩ := (hK.out.below (HBR.out.trans (hb.mono HBR.out.size))).c2
            exact told_run (v := .agg #[.int .u8 3, .int .u16 0]) rfl (by simp [execOp, p_]; go_simp) rfl (Below.refl _ _)
          · intro a' w' hf hb hd
            have h0_ : a'.eval (.tmp 48) = .agg #[.int .u8 3, .int .u16 0] := hd 1 (by decide)
            have hu_ := Try.underlying80
            have hreps_ : Reps (k30.M w' W.heap.size (fun _ => True)) k30.sz _ _ := (reps_one (by rfl) (k30_mkM w' W.heap.size (fun _ => True) ⟨3, 0⟩))
            exact told_lit k30 30 W.heap.size (xs := [⟨3, 0⟩]) (inner := [.int .u8 3, .int .u16 0]) rfl (by simp [execOp, h0_]; first | (go_simp; done) | (go_simp; rfl)) hreps_ (by have := (HBR.out.trans (hb.mono HBR.out.size)).size; omega) (by decide)
          · intro a' w' hf hb hd
            have r_ : k30.R 30 w' W.heap.size (fun _ => True) (a'.eval (.tmp 49)) [⟨3, 0⟩] := hd 2 (by decide)
            obtain ⟨A_, c_, hv_⟩ := Kd.R_slice r_
            rw [hv_] at r_
            have hv2_ : a'.tmps[49]?.getD undef = .slice A_ 1 c_ := by simpa [Act.eval] using hv_
            refine told_call rfl (by go_simp) ((nat_constructor 4 A_ 1 c_ w').mono ?_)
            rintro e w2_ ⟨rfl, hb2_⟩
            exact ⟨_, rfl, ⟨[.string natName, .int .i64 4, .int .u8 4, .int .u8 0, .int .u16 0, .slice A_ 1 c_], rfl, k133_mkM _ _ _ ⟨natName, 4, 4, ⟨0, 0⟩, [⟨3, 0⟩]⟩ (Kd.R_below r_ hb2_)⟩, hb2_⟩
          · intro a' w' hf hb hd
            have p_ := frame_at hf 1 (.pointer (some ⟨w4.heap.size, 0, none⟩)) (by kernel_rfl) rfl
            obtain ⟨c0_, c1_⟩ := (hK.out.below (HBR.out.trans (hb.mono HBR.out.size))).c1
            exact told_run (v := .agg #[.int .u8 0, .int .u16 0]) rfl (by simp [execOp, p_]; go_simp) rfl (Below.refl _ _)
          · intro a' w' hf hb hd
            have p_ := frame_at hf 2 (.pointer (some ⟨w4.heap.size + 1, 0, none⟩)) (by kernel_rfl) rfl
            obtain ⟨c0_, c1_⟩ := (hK.out.below (HBR.out.trans (hb.mono HBR.out.size))).c2
            exact told_run (v := .agg #[.int .u8 3, .int .u16 0]) rfl (by simp [execOp, p_]; go_simp) rfl (Below.refl _ _)
          · intro a' w' hf hb hd
            have h0_ : a'.eval (.tmp 52) = .agg #[.int .u8 3, .int .u16 0] := hd 5 (by decide)
            have hu_ := Try.underlying80
            have hreps_ : Reps (k30.M w' W.heap.size (fun _ => True)) k30.sz _ _ := (reps_one (by rfl) (k30_mkM w' W.heap.size (fun _ => True) ⟨3, 0⟩))
            exact told_lit k30 30 W.heap.size (xs := [⟨3, 0⟩]) (inner := [.int .u8 3, .int .u16 0]) rfl (by simp [execOp, h0_]; first | (go_simp; done) | (go_simp; rfl)) hreps_ (by have := (HBR.out.trans (hb.mono HBR.out.size)).size; omega) (by decide)
          · intro a' w' hf hb hd
            have hr_ : a'.eval (.tmp 51) = .agg #[.int .u8 0, .int .u16 0] := hd 4 (by decide)
            have hr2_ : a'.tmps[51]?.getD undef = .agg #[.int .u8 0, .int .u16 0] := by simpa [Act.eval] using hr_
            have r_ : k30.R 30 w' W.heap.size (fun _ => True) (a'.eval (.tmp 53)) [⟨3, 0⟩] := hd 6 (by decide)
            obtain ⟨A_, c_, hv_⟩ := Kd.R_slice r_
            rw [hv_] at r_
            have hv2_ : a'.tmps[53]?.getD undef = .slice A_ 1 c_ := by simpa [Act.eval] using hv_
            refine told_call rfl (by go_simp) ((nat_static ⟨#[116, 104, 114, 111, 119, 73, 116]⟩ 5 0 0 A_ 1 c_ w').mono ?_)
            rintro e w2_ ⟨rfl, hb2_⟩
            exact ⟨_, rfl, ⟨[.string ⟨#[116, 104, 114, 111, 119, 73, 116]⟩, .int .i64 5, .int .u8 1, .int .u8 0, .int .u16 0, .slice A_ 1 c_], rfl, k133_mkM _ _ _ ⟨⟨#[116, 104, 114, 111, 119, 73, 116]⟩, 5, 1, ⟨0, 0⟩, [⟨3, 0⟩]⟩ (Kd.R_below r_ hb2_)⟩, hb2_⟩
          · intro a' w' hf hb hd
            obtain ⟨cs0_, h0_, m0_⟩ : (Told.agg k133 W.heap.size ⟨natName, 4, 4, ⟨0, 0⟩, [⟨3, 0⟩]⟩).p (a'.eval (.tmp 50)) w' := hd 3 (by decide)
            obtain ⟨v0_, rfl, g0_⟩ := k133_openM m0_
            obtain ⟨A0_, c0_, e0_⟩ := Kd.R_slice g0_
            subst e0_
            obtain ⟨cs1_, h1_, m1_⟩ : (Told.agg k133 W.heap.size ⟨⟨#[116, 104, 114, 111, 119, 73, 116]⟩, 5, 1, ⟨0, 0⟩, [⟨3, 0⟩]⟩).p (a'.eval (.tmp 54)) w' := hd 7 (by decide)
            obtain ⟨v1_, rfl, g1_⟩ := k133_openM m1_
            obtain ⟨A1_, c1_, e1_⟩ := Kd.R_slice g1_
            subst e1_
            have hu_ := Try.underlying127
            have hreps_ : Reps (k133.M w' W.heap.size (fun _ => True)) k133.sz _ _ := (reps_snoc (reps_one (by rfl) m0_) (by rfl) m1_)
            simp only [List.cons_append, List.nil_append] at hreps_
            exact told_lit k133 133 W.heap.size (xs := [⟨natName, 4, 4, ⟨0, 0⟩, [⟨3, 0⟩]⟩, ⟨⟨#[116, 104, 114, 111, 119, 73, 116]⟩, 5, 1, ⟨0, 0⟩, [⟨3, 0⟩]⟩]) (inner := [.string natName, .int .i64 4, .int .u8 4, .int .u8 0, .int .u16 0, .slice A0_ 1 c0_, .string ⟨#[116, 104, 114, 111, 119, 73, 116]⟩, .int .i64 5, .int .u8 1, .int .u8 0, .int .u16 0, .slice A1_ 1 c1_]) rfl (by simp [execOp, h0_, h1_]; first | (go_simp; done) | (go_simp; rfl)) hreps_ (by have := (HBR.out.trans (hb.mono HBR.out.size)).size; omega) (by decide)
          · intro a' w' hf hb hd
            have o_ : k133.R 133 w' W.heap.size (fun _ => True) (a'.eval (.tmp 55)) [⟨natName, 4, 4, ⟨0, 0⟩, [⟨3, 0⟩]⟩, ⟨⟨#[116, 104, 114, 111, 119, 73, 116]⟩, 5, 1, ⟨0, 0⟩, [⟨3, 0⟩]⟩] := hd 8 (by decide)
            obtain ⟨Ao_, co_, eo_⟩ := Kd.R_slice o_
            rw [eo_] at o_
            have hu_ := Try.underlying129
            exact told_run (v := .agg #[.int .i64 1, .int .u8 0, .slice none 0 0, .slice none 0 0, .slice Ao_ _ co_]) rfl (by simp [execOp, eo_]; go_simp) ⟨[.int .i64 1, .int .u8 0, .slice none 0 0, .slice none 0 0, .slice Ao_ _ co_], rfl, k129_mkM _ _ _ ⟨1, 0, [], [], [⟨natName, 4, 4, ⟨0, 0⟩, [⟨3, 0⟩]⟩, ⟨⟨#[116, 104, 114, 111, 119, 73, 116]⟩, 5, 1, ⟨0, 0⟩, [⟨3, 0⟩]⟩]⟩ (Kd.R_nil _ _ _ _ _) (Kd.R_nil _ _ _ _ _) o_⟩ (Below.refl _ _)
          · intro a' w' hf hb hd
            obtain ⟨cs0_, h0_, m0_⟩ : (Told.agg k129 W.heap.size ⟨1, 0, [], [], [⟨natName, 4, 4, ⟨0, 0⟩, [⟨3, 0⟩]⟩, ⟨⟨#[116, 104, 114, 111, 119, 73, 116]⟩, 5, 1, ⟨0, 0⟩, [⟨3, 0⟩]⟩]⟩).p (a'.eval (.tmp 56)) w' := hd 9 (by decide)
            obtain ⟨v0_, x0_, y0_, rfl, g0_, i0_, j0_⟩ := k129_openM m0_
            obtain ⟨Ag0_, cg0_, eg0_⟩ := Kd.R_slice g0_
            subst eg0_
            obtain ⟨Ai0_, ci0_, ei0_⟩ := Kd.R_slice i0_
            subst ei0_
            obtain ⟨Aj0_, cj0_, ej0_⟩ := Kd.R_slice j0_
            subst ej0_
            have hu_ := Try.underlying125
            have hreps_ : Reps (k129.M w' W.heap.size (fun _ => True)) k129.sz _ _ := (reps_one (by rfl) m0_)
            exact told_lit k129 129 W.heap.size (xs := [⟨1, 0, [], [], [⟨natName, 4, 4, ⟨0, 0⟩, [⟨3, 0⟩]⟩, ⟨⟨#[116, 104, 114, 111, 119, 73, 116]⟩, 5, 1, ⟨0, 0⟩, [⟨3, 0⟩]⟩]⟩]) (inner := [.int .i64 1, .int .u8 0, .slice Ag0_ 0 cg0_, .slice Ai0_ 0 ci0_, .slice Aj0_ 2 cj0_]) rfl (by simp [execOp, h0_]; first | (go_simp; done) | (go_simp; rfl)) hreps_ (by have := (HBR.out.trans (hb.mono HBR.out.size)).size; omega) (by decide)
        · intro a' w' hf hb hd
          have hmov_ : (Told.val (.slice (some ⟨g, 0, none⟩) 11 cap)).p (a'.eval (.tmp 47)) w' := hd 0 (by simp)
          have hrow_ : (Told.row k129 129 W.heap.size [⟨1, 0, [], [], [⟨natName, 4, 4, ⟨0, 0⟩, [⟨3, 0⟩]⟩, ⟨⟨#[116, 104, 114, 111, 119, 73, 116]⟩, 5, 1, ⟨0, 0⟩, [⟨3, 0⟩]⟩]⟩]).p (a'.eval (.tmp 57)) w' := hd 10 (by simp)
          have ha := act_of_frame hf [47, 48, 49, 50, 51, 52, 53, 54, 55, 56, 57] (by kernel_rfl) (by kernel_rfl)
          obtain ⟨u47, hu47⟩ : ∃ u, a'.eval (.tmp 47) = u := ⟨_, rfl⟩
          obtain ⟨u48, hu48⟩ : ∃ u, a'.eval (.tmp 48) = u := ⟨_, rfl⟩
          obtain ⟨u49, hu49⟩ : ∃ u, a'.eval (.tmp 49) = u := ⟨_, rfl⟩
          obtain ⟨u50, hu50⟩ : ∃ u, a'.eval (.tmp 50) = u := ⟨_, rfl⟩
          obtain ⟨u51, hu51⟩ : ∃ u, a'.eval (.tmp 51) = u := ⟨_, rfl⟩
          obtain ⟨u52, hu52⟩ : ∃ u, a'.eval (.tmp 52) = u := ⟨_, rfl⟩
          obtain ⟨u53, hu53⟩ : ∃ u, a'.eval (.tmp 53) = u := ⟨_, rfl⟩
          obtain ⟨u54, hu54⟩ : ∃ u, a'.eval (.tmp 54) = u := ⟨_, rfl⟩
          obtain ⟨u55, hu55⟩ : ∃ u, a'.eval (.tmp 55) = u := ⟨_, rfl⟩
          obtain ⟨u56, hu56⟩ : ∃ u, a'.eval (.tmp 56) = u := ⟨_, rfl⟩
          obtain ⟨u57, hu57⟩ : ∃ u, a'.eval (.tmp 57) = u := ⟨_, rfl⟩
          rw [hu47] at hmov_
          rw [hu57] at hrow_
          simp only [List.foldl_cons, List.foldl_nil, List.setIfInBounds_toArray, List.set_cons_succ, List.set_cons_zero, hu47, hu48, hu49, hu50, hu51, hu52, hu53, hu54, hu55, hu56, hu57] at ha
          clear hf hd hu47 hu48 hu49 hu50 hu51 hu52 hu53 hu54 hu55 hu56 hu57
          subst ha
          obtain rfl : _ = u47 := hmov_.symm
          have HX := Aside0.mk hrow_
          have HO := Aside0.mk (Kd.R_below hR.out hb)
          have HB := Aside0.mk (HBR.out.trans (hb.mono HBR.out.size))
          have hN : W.heap.size ≤ w'.heap.size := HB.out.size
          clear hR HBR hb hrow_ hmov_
          simp only [List.length_cons, List.length_nil, Nat.reduceAdd, List.drop_succ_cons, List.drop_zero]
          go_wp2_with (at_builtin; refine told_append k129 (w0 := W) W.heap.size rfl (.tmp 47) (.tmp 57) 125 129 _ 88 rfl Try.underlying125 info129 rfl (by decide) (by decide) (by decide) g 11 cap u57 (tabRows.take 11) [tab11] rfl rfl HO.out HX.out (by decide) HB.out hN (by decide) (tabRows.take 12) 12 rfl rfl ?_; intro g8_ cap8_ w8_ ho2 hb2; have HO2 := Aside0.mk ho2; have HB2 := Aside0.mk hb2; clear ho2 hb2)
          clear HX HO HB hN
          have hR := HO2
          have HBR := HB2
          clear HO2 HB2
          refine wp_region_steps (ts := [Told.val (.slice (some ⟨g8_, 0, none⟩) 12 cap8_), Told.val (.agg #[.int .u8 0, .int .u16 0]), Told.val (.agg #[.int .u8 4, .int .u16 14]), Told.row k30 30 W.heap.size [⟨4, 14⟩], Told.agg k133 W.heap.size ⟨⟨#[112, 114, 111, 99, 101, 115, 115]⟩, 0, 0, ⟨0, 0⟩, [⟨4, 14⟩]⟩, Told.val (.agg #[.int .u8 1, .int .u16 0]), Told.agg k133 W.heap.size ⟨⟨#[115, 101, 108, 101, 99, 116]⟩, 6, 0, ⟨1, 0⟩, []⟩, Told.val (.agg #[.int .u8 0, .int .u16 0]), Told.agg k133 W.heap.size ⟨⟨#[100, 101, 115, 101, 108, 101, 99, 116]⟩, 7, 0, ⟨0, 0⟩, []⟩, Told.val (.agg #[.int .u8 4, .int .u16 13]), Told.val (.agg #[.int .u8 3, .int .u16 0]), Told.val (.agg #[.int .u8 2, .int .u16 0]), Told.row k30 30 W.heap.size [⟨3, 0⟩, ⟨2, 0⟩], Told.agg k133 W.heap.size ⟨⟨#[115, 104, 97, 114, 101]⟩, 8, 0, ⟨4, 13⟩, [⟨3, 0⟩, ⟨2, 0⟩]⟩, Told.row k133 133 W.heap.size [⟨⟨#[112, 114, 111, 99, 101, 115, 115]⟩, 0, 0, ⟨0, 0⟩, [⟨4, 14⟩]⟩, ⟨⟨#[115, 101, 108, 101, 99, 116]⟩, 6, 0, ⟨1, 0⟩, []⟩, ⟨⟨#[100, 101, 115, 101, 108, 101, 99, 116]⟩, 7, 0, ⟨0, 0⟩, []⟩, ⟨⟨#[115, 104, 97, 114, 101]⟩, 8, 0, ⟨4, 13⟩, [⟨3, 0⟩, ⟨2, 0⟩]⟩], Told.agg k133 W.heap.size ⟨natName, 1, 4, ⟨0, 0⟩, []⟩, Told.val (.agg #[.int .u8 0, .int .u16 0]), Told.val (.agg #[.int .u8 4, .int .u16 12]), Told.row k30 30 W.heap.size [⟨4, 12⟩], Told.agg k133 W.heap.size ⟨⟨#[114, 101, 103, 105, 115, 116, 101, 114]⟩, 9, 1, ⟨0, 0⟩, [⟨4, 12⟩]⟩, Told.row k133 133 W.heap.size [⟨natName, 1, 4, ⟨0, 0⟩, []⟩, ⟨⟨#[114, 101, 103, 105, 115, 116, 101, 114]⟩, 9, 1, ⟨0, 0⟩, [⟨4, 12⟩]⟩], Told.agg k129 W.heap.size ⟨0, 4, [], [⟨⟨#[112, 114, 111, 99, 101, 115, 115]⟩, 0, 0, ⟨0, 0⟩, [⟨4, 14⟩]⟩, ⟨⟨#[115, 101, 108, 101, 99, 116]⟩, 6, 0, ⟨1, 0⟩, []⟩, ⟨⟨#[100, 101, 115, 101, 108, 101, 99, 116]⟩, 7, 0, ⟨0, 0⟩, []⟩, ⟨⟨#[115, 104, 97, 114, 101]⟩, 8, 0, ⟨4, 13⟩, [⟨3, 0⟩, ⟨2, 0⟩]⟩], [⟨natName, 1, 4, ⟨0, 0⟩, []⟩, ⟨⟨#[114, 101, 103, 105, 115, 116, 101, 114]⟩, 9, 1, ⟨0, 0⟩, [⟨4, 12⟩]⟩]⟩, Told.row k129 129 W.heap.size [⟨0, 4, [], [⟨⟨#[112, 114, 111, 99, 101, 115, 115]⟩, 0, 0, ⟨0, 0⟩, [⟨4, 14⟩]⟩, ⟨⟨#[115, 101, 108, 101, 99, 116]⟩, 6, 0, ⟨1, 0⟩, []⟩, ⟨⟨#[100, 101, 115, 101, 108, 101, 99, 116]⟩, 7, 0, ⟨0, 0⟩, []⟩, ⟨⟨#[115, 104, 97, 114, 101]⟩, 8, 0, ⟨4, 13⟩, [⟨3, 0⟩, ⟨2, 0⟩]⟩], [⟨natName, 1, 4, ⟨0, 0⟩, []⟩, ⟨⟨#[114, 101, 103, 105, 115, 116, 101, 114]⟩, 9, 1, ⟨0, 0⟩, [⟨4, 12⟩]⟩]⟩]]) (by kernel_rfl) (by kernel_rfl) ?_ ?_
          · refine ⟨?_, ?_, ?_, ?_, ?_, ?_, ?_, ?_, ?_, ?_, ?_, ?_, ?_, ?_, ?_, ?_, ?_, ?_, ?_, ?_, ?_, ?_, ?_, trivial⟩
            · intro a' w' hf hb hd
              have p_ := frame_at hf 8 (.slice (some ⟨g8_, 0, none⟩) 12 cap8_) (by kernel_rfl) rfl
              have p2_ : a'.tmps[8]?.getD undef = .slice (some ⟨g8_, 0, none⟩) 12 cap8_ := by simpa [Act.eval] using p_
              exact told_run (v := .slice (some ⟨g8_, 0, none⟩) 12 cap8_) rfl (by go_simp) rfl (Below.refl _ _)
            · intro a' w' hf hb hd
              have p_ := frame_at hf 1 (.pointer (some ⟨w4.heap.size, 0, none⟩)) (by kernel_rfl) rfl
              obtain ⟨c0_, c1_⟩ := (hK.out.below (HBR.out.trans (hb.mono HBR.out.size))).c1
              exact told_run (v := .agg #[.int .u8 0, .int .u16 0]) rfl (by simp [execOp, p_]; go_simp) rfl (Below.refl _ _)
            · intro a' w' hf hb hd
              refine told_call rfl (by go_simp) ((nat_of 4 14 w').mono ?_)
              rintro e w2_ ⟨rfl, hb2_⟩
              exact ⟨_, rfl, rfl, hb2_⟩
            · intro a' w' hf hb hd
              have h0_ : a'.eval (.tmp 61) = .agg #[.int .u8 4, .int .u16 14] := hd 2 (by decide)
              have hu_ := Try.underlying80
              have hreps_ : Reps (k30.M w' W.heap.size (fun _ => True)) k30.sz _ _ := (reps_one (by rfl) (k30_mkM w' W.heap.size (fun _ => True) ⟨4, 14⟩))
              exact told_lit k30 30 W.heap.size (xs := [⟨4, 14⟩]) (inner := [.int .u8 4, .int .u16 14]) rfl (by simp [execOp, h0_]; first | (go_simp; done) | (go_simp; rfl)) hreps_ (by have := (HBR.out.trans (hb.mono HBR.out.size)).size; omega) (by decide)
            · intro a' w' hf hb hd
              have hr_ : a'.eval (.tmp 60) = .agg #[.int .u8 0, .int .u16 0] := hd 1 (by decide)
              have hr2_ : a'.tmps[60]?.getD undef = .agg #[.int .u8 0, .int .u16 0] := by simpa [Act.eval] using hr_
              have r_ : k30.R 30 w' W.heap.size (fun _ => True) (a'.eval (.tmp 62)) [⟨4, 14⟩] := hd 3 (by decide)
              obtain ⟨A_, c_, hv_⟩ := Kd.R_slice r_
              rw [hv_] at r_
              have hv2_ : a'.tmps[62]?.getD undef = .slice A_ 1 c_ := by simpa [Act.eval] using hv_
              refine told_call rfl (by go_simp) ((nat_virtual ⟨#[112, 114, 111, 99, 101, 115, 115]⟩ 0 0 0 A_ 1 c_ w').mono ?_)
              rintro e w2_ ⟨rfl, hb2_⟩
              exact ⟨_, rfl, ⟨[.string ⟨#[112, 114, 111, 99, 101, 115, 115]⟩, .int .i64 0, .int .u8 0, .int .u8 0, .int .u16 0, .slice A_ 1 c_], rfl, k133_mkM _ _ _ ⟨⟨#[112, 114, 111, 99, 101, 115, 115]⟩, 0, 0, ⟨0, 0⟩, [⟨4, 14⟩]⟩ (Kd.R_below r_ hb2_)⟩, hb2_⟩
            · intro a' w' hf hb hd
              have p_ := frame_at hf 4 (.pointer (some ⟨w4.heap.size + 1 + 1 + 1, 0, none⟩)) (by kernel_rfl) rfl
              obtain ⟨c0_, c1_⟩ := (hK.out.below (HBR.out.trans (hb.mono HBR.out.size))).c4
              exact told_run (v := .agg #[.int .u8 1, .int .u16 0]) rfl (by simp [execOp, p_]; go_simp) rfl (Below.refl _ _)
            · intro a' w' hf hb hd
              have hr_ : a'.eval (.tmp 64) = .agg #[.int .u8 1, .int .u16 0] := hd 5 (by decide)
              have hr2_ : a'.tmps[64]?.getD undef = .agg #[.int .u8 1, .int .u16 0] := by simpa [Act.eval] using hr_
              refine told_call rfl (by go_simp) ((nat_virtual ⟨#[115, 101, 108, 101, 99, 116]⟩ 6 1 0 none 0 0 w').mono ?_)
              rintro e w2_ ⟨rfl, hb2_⟩
              exact ⟨_, rfl, ⟨[.string ⟨#[115, 101, 108, 101, 99, 116]⟩, .int .i64 6, .int .u8 0, .int .u8 1, .int .u16 0, .slice none 0 0], rfl, k133_mkM _ _ _ ⟨⟨#[115, 101, 108, 101, 99, 116]⟩, 6, 0, ⟨1, 0⟩, []⟩ (Kd.R_nil _ _ _ _ _)⟩, hb2_⟩
            · intro a' w' hf hb hd
              have p_ := frame_at hf 1 (.pointer (some ⟨w4.heap.size, 0, none⟩)) (by kernel_rfl) rfl
              obtain ⟨c0_, c1_⟩ := (hK.out.below (HBR.out.trans (hb.mono HBR.out.size))).c1
              exact told_run (v := .agg #[.int .u8 0, .int .u16 0]) rfl (by simp [execOp, p_]; go_simp) rfl (Below.refl _ _)
            · intro a' w' hf hb hd
              have hr_ : a'.eval (.tmp 66) = .agg #[.int .u8 0, .int .u16 0] := hd 7 (by decide)
              have hr2_ : a'.tmps[66]?.getD undef = .agg #[.int .u8 0, .int .u16 0] := by simpa [Act.eval] using hr_
              refine told_call rfl (by go_simp) ((nat_virtual ⟨#[100, 101, 115, 101, 108, 101, 99, 116]⟩ 7 0 0 none 0 0 w').mono ?_)
              rintro e w2_ ⟨rfl, hb2_⟩
              exact ⟨_, rfl, ⟨[.string ⟨#[100, 101, 115, 101, 108, 101, 99, 116]⟩, .int .i64 7, .int .u8 0, .int .u8 0, .int .u16 0, .slice none 0 0], rfl, k133_mkM _ _ _ ⟨⟨#[100, 101, 115, 101, 108, 101, 99, 116]⟩, 7, 0, ⟨0, 0⟩, []⟩ (Kd.R_nil _ _ _ _ _)⟩, hb2_⟩
            · intro a' w' hf hb hd
              have p_ := frame_at hf 7 (.pointer (some ⟨w7.heap.size + 1 + 1, 0, none⟩)) (by kernel_rfl) rfl
              obtain ⟨c0_, c1_⟩ := (hK.out.below (HBR.out.trans (hb.mono HBR.out.size))).c7
              exact told_run (v := .agg #[.int .u8 4, .int .u16 13]) rfl (by simp [execOp, p_]; go_simp) rfl (Below.refl _ _)
            · intro a' w' hf hb hd
              have p_ := frame_at hf 2 (.pointer (some ⟨w4.heap.size + 1, 0, none⟩)) (by kernel_rfl) rfl
              obtain ⟨c0_, c1_⟩ := (hK.out.below (HBR.out.trans (hb.mono HBR.out.size))).c2
              exact told_run (v := .agg #[.int .u8 3, .int .u16 0]) rfl (by simp [execOp, p_]; go_simp) rfl (Below.refl _ _)
            · intro a' w' hf hb hd
              have p_ := frame_at hf 3 (.pointer (some ⟨w4.heap.size + 1 + 1, 0, none⟩)) (by kernel_rfl) rfl
              obtain ⟨c0_, c1_⟩ := (hK.out.below (HBR.out.trans (hb.mono HBR.out.size))).c3
              exact told_run (v := .agg #[.int .u8 2, .int .u16 0]) rfl (by simp [execOp, p_]; go_simp) rfl (Below.refl _ _)
            · intro a' w' hf hb hd
              have h0_ : a'.eval (.tmp 69) = .agg #[.int .u8 3, .int .u16 0] := hd 10 (by decide)
              have h1_ : a'.eval (.tmp 70) = .agg #[.int .u8 2, .int .u16 0] := hd 11 (by decide)
              have hu_ := Try.underlying80
              have hreps_ : Reps (k30.M w' W.heap.size (fun _ => True)) k30.sz _ _ := (reps_snoc (reps_one (by rfl) (k30_mkM w' W.heap.size (fun _ => True) ⟨3, 0⟩)) (by rfl) (k30_mkM w' W.heap.size (fun _ => True) ⟨2, 0⟩))
              simp only [List.cons_append, List.nil_append] at hreps_
              exact told_lit k30 30 W.heap.size (xs := [⟨3, 0⟩, ⟨2, 0⟩]) (inner := [.int .u8 3, .int .u16 0, .int .u8 2, .int .u16 0]) rfl (by simp [execOp, h0_, h1_]; first | (go_simp; done) | (go_simp; rfl)) hreps_ (by have := (HBR.out.trans (hb.mono HBR.out.size)).size; omega) (by decide)
            · intro a' w' hf hb hd
              have hr_ : a'.eval (.tmp 68) = .agg #[.int .u8 4, .int .u16 13] := hd 9 (by decide)
              have hr2_ : a'.tmps[68]?.getD undef = .agg #[.int .u8 4, .int .u16 13] := by simpa [Act.eval] using hr_
              have r_ : k30.R 30 w' W.heap.size (fun _ => True) (a'.eval (.tmp 71)) [⟨3, 0⟩, ⟨2, 0⟩] := hd 12 (by decide)
              obtain ⟨A_, c_, hv_⟩ := Kd.R_slice r_
              rw [hv_] at r_
              have hv2_ : a'.tmps[71]?.getD undef = .slice A_ 2 c_ := by simpa [Act.eval] using hv_
              refine told_call rfl (by go_simp) ((nat_virtual ⟨#[115, 104, 97, 114, 101]⟩ 8 4 13 A_ 2 c_ w').mono ?_)
              rintro e w2_ ⟨rfl, hb2_⟩
              exact ⟨_, rfl, ⟨[.string ⟨#[115, 104, 97, 114, 101]⟩, .int .i64 8, .int .u8 0, .int .u8 4, .int .u16 13, .slice A_ 2 c_], rfl, k133_mkM _ _ _ ⟨⟨#[115, 104, 97, 114, 101]⟩, 8, 0, ⟨4, 13⟩, [⟨3, 0⟩, ⟨2, 0⟩]⟩ (Kd.R_below r_ hb2_)⟩, hb2_⟩
            · intro a' w' hf hb hd
              obtain ⟨cs0_, h0_, m0_⟩ : (Told.agg k133 W.heap.size ⟨⟨#[112, 114, 111, 99, 101, 115, 115]⟩, 0, 0, ⟨0, 0⟩, [⟨4, 14⟩]⟩).p (a'.eval (.tmp 63)) w' := hd 4 (by decide)
              obtain ⟨v0_, rfl, g0_⟩ := k133_openM m0_
              obtain ⟨A0_, c0_, e0_⟩ := Kd.R_slice g0_
              subst e0_
              obtain ⟨cs1_, h1_, m1_⟩ : (Told.agg k133 W.heap.size ⟨⟨#[115, 101, 108, 101, 99, 116]⟩, 6, 0, ⟨1, 0⟩, []⟩).p (a'.eval (.tmp 65)) w' := hd 6 (by decide)
              obtain ⟨v1_, rfl, g1_⟩ := k133_openM m1_
              obtain ⟨A1_, c1_, e1_⟩ := Kd.R_slice g1_
              subst e1_
              obtain ⟨cs2_, h2_, m2_⟩ : (Told.agg k133 W.heap.size ⟨⟨#[100, 101, 115, 101, 108, 101, 99, 116]⟩, 7, 0, ⟨0, 0⟩, []⟩).p (a'.eval (.tmp 67)) w' := hd 8 (by decide)
              obtain ⟨v2_, rfl, g2_⟩ := k133_openM m2_
              obtain ⟨A2_, c2_, e2_⟩ := Kd.R_slice g2_
              subst e2_
              obtain ⟨cs3_, h3_, m3_⟩ : (Told.agg k133 W.heap.size ⟨⟨#[115, 104, 97, 114, 101]⟩, 8, 0, ⟨4, 13⟩, [⟨3, 0⟩, ⟨2, 0⟩]⟩).p (a'.eval (.tmp 72)) w' := hd 13 (by decide)
              obtain ⟨v3_, rfl, g3_⟩ := k133_openM m3_
              obtain ⟨A3_, c3_, e3_⟩ := Kd.R_slice g3_
              subst e3_
              have hu_ := Try.underlying127
              have hreps_ : Reps (k133.M w' W.heap.size (fun _ => True)) k133.sz _ _ := (reps_snoc (reps_snoc (reps_snoc (reps_one (by rfl) m0_) (by rfl) m1_) (by rfl) m2_) (by rfl) m3_)
              simp only [List.cons_append, List.nil_append] at hreps_
              exact told_lit k133 133 W.heap.size (xs := [⟨⟨#[112, 114, 111, 99, 101, 115, 115]⟩, 0, 0, ⟨0, 0⟩, [⟨4, 14⟩]⟩, ⟨⟨#[115, 101, 108, 101, 99, 116]⟩, 6, 0, ⟨1, 0⟩, []⟩, ⟨⟨#[100, 101, 115, 101, 108, 101, 99, 116]⟩, 7, 0, ⟨0, 0⟩, []⟩, ⟨⟨#[115, 104, 97, 114, 101]⟩, 8, 0, ⟨4, 13⟩, [⟨3, 0⟩, ⟨2, 0⟩]⟩]) (inner := [.string ⟨#[112, 114, 111, 99, 101, 115, 115]⟩, .int .i64 0, .int .u8 0, .int .u8 0, .int .u16 0, .slice A0_ 1 c0_, .string ⟨#[115, 101, 108, 101, 99, 116]⟩, .int .i64 6, .int .u8 0, .int .u8 1, .int .u16 0, .slice A1_ 0 c1_, .string ⟨#[100, 101, 115, 101, 108, 101, 99, 116]⟩, .int .i64 7, .int .u8 0, .int .u8 0, .int .u16 0, .slice A2_ 0 c2_, .string ⟨#[115, 104, 97, 114, 101]⟩, .int .i64 8, .int .u8 0, .int .u8 4, .int .u16 13, .slice A3_ 2 c3_]) rfl (by simp [execOp, h0_, h1_, h2_, h3_]; first | (go_simp; done) | (go_simp; rfl)) hreps_ (by have := (HBR.out.trans (hb.mono HBR.out.size)).size; omega) (by decide)
            · intro a' w' hf hb hd
              refine told_call rfl (by go_simp) ((nat_constructor 1 none 0 0 w').mono ?_)
              rintro e w2_ ⟨rfl, hb2_⟩
              exact ⟨_, rfl, ⟨[.string natName, .int .i64 1, .int .u8 4, .int .u8 0, .int .u16 0, .slice none 0 0], rfl, k133_mkM _ _ _ ⟨natName, 1, 4, ⟨0, 0⟩, []⟩ (Kd.R_nil _ _ _ _ _)⟩, hb2_⟩
            · intro a' w' hf hb hd
              have p_ := frame_at hf 1 (.pointer (some ⟨w4.heap.size, 0, none⟩)) (by kernel_rfl) rfl
              obtain ⟨c0_, c1_⟩ := (hK.out.below (HBR.out.trans (hb.mono HBR.out.size))).c1
              exact told_run (v := .agg #[.int .u8 0, .int .u16 0]) rfl (by simp [execOp, p_]; go_simp) rfl (Below.refl _ _)
            · intro a' w' hf hb hd
              refine told_call rfl (by go_simp) ((nat_of 4 12 w').mono ?_)
              rintro e w2_ ⟨rfl, hb2_⟩
              exact ⟨_, rfl, rfl, hb2_⟩
            · intro a' w' hf hb hd
              have h0_ : a'.eval (.tmp 76) = .agg #[.int .u8 4, .int .u16 12] := hd 17 (by decide)
              have hu_ := Try.underlying80
              have hreps_ : Reps (k30.M w' W.heap.size (fun _ => True)) k30.sz _ _ := (reps_one (by rfl) (k30_mkM w' W.heap.size (fun _ => True) ⟨4, 12⟩))
              exact told_lit k30 30 W.heap.size (xs := [⟨4, 12⟩]) (inner := [.int .u8 4, .int .u16 12]) rfl (by simp [execOp, h0_]; first | (go_simp; done) | (go_simp; rfl)) hreps_ (by have := (HBR.out.trans (hb.mono HBR.out.size)).size; omega) (by decide)
            · intro a' w' hf hb hd
              have hr_ : a'.eval (.tmp 75) = .agg #[.int .u8 0, .int .u16 0] := hd 16 (by decide)
              have hr2_ : a'.tmps[75]?.getD undef = .agg #[.int .u8 0, .int .u16 0] := by simpa [Act.eval] using hr_
              have r_ : k30.R 30 w' W.heap.size (fun _ => True) (a'.eval (.tmp 77)) [⟨4, 12⟩] := hd 18 (by decide)
              obtain ⟨A_, c_, hv_⟩ := Kd.R_slice r_
              rw [hv_] at r_
              have hv2_ : a'.tmps[77]?.getD undef = .slice A_ 1 c_ := by simpa [Act.eval] using hv_
              refine told_call rfl (by go_simp) ((nat_static ⟨#[114, 101, 103, 105, 115, 116, 101, 114]⟩ 9 0 0 A_ 1 c_ w').mono ?_)
              rintro e w2_ ⟨rfl, hb2_⟩
              exact ⟨_, rfl, ⟨[.string ⟨#[114, 101, 103, 105, 115, 116, 101, 114]⟩, .int .i64 9, .int .u8 1, .int .u8 0, .int .u16 0, .slice A_ 1 c_], rfl, k133_mkM _ _ _ ⟨⟨#[114, 101, 103, 105, 115, 116, 101, 114]⟩, 9, 1, ⟨0, 0⟩, [⟨4, 12⟩]⟩ (Kd.R_below r_ hb2_)⟩, hb2_⟩
            · intro a' w' hf hb hd
              obtain ⟨cs0_, h0_, m0_⟩ : (Told.agg k133 W.heap.size ⟨natName, 1, 4, ⟨0, 0⟩, []⟩).p (a'.eval (.tmp 74)) w' := hd 15 (by decide)
              obtain ⟨v0_, rfl, g0_⟩ := k133_openM m0_
              obtain ⟨A0_, c0_, e0_⟩ := Kd.R_slice g0_
              subst e0_
              obtain ⟨cs1_, h1_, m1_⟩ : (Told.agg k133 W.heap.size ⟨⟨#[114, 101, 103, 105, 115, 116, 101, 114]⟩, 9, 1, ⟨0, 0⟩, [⟨4, 12⟩]⟩).p (a'.eval (.tmp 78)) w' := hd 19 (by decide)
              obtain ⟨v1_, rfl, g1_⟩ := k133_openM m1_
              obtain ⟨A1_, c1_, e1_⟩ := Kd.R_slice g1_
              subst e1_
              have hu_ := Try.underlying127
              have hreps_ : Reps (k133.M w' W.heap.size (fun _ => True)) k133.sz _ _ := (reps_snoc (reps_one (by rfl) m0_) (by rfl) m1_)
              simp only [List.cons_append, List.nil_append] at hreps_
              exact told_lit k133 133 W.heap.size (xs := [⟨natName, 1, 4, ⟨0, 0⟩, []⟩, ⟨⟨#[114, 101, 103, 105, 115, 116, 101, 114]⟩, 9, 1, ⟨0, 0⟩, [⟨4, 12⟩]⟩]) (inner := [.string natName, .int .i64 1, .int .u8 4, .int .u8 0, .int .u16 0, .slice A0_ 0 c0_, .string ⟨#[114, 101, 103, 105, 115, 116, 101, 114]⟩, .int .i64 9, .int .u8 1, .int .u8 0, .int .u16 0, .slice A1_ 1 c1_]) rfl (by simp [execOp, h0_, h1_]; first | (go_simp; done) | (go_simp; rfl)) hreps_ (by have := (HBR.out.trans (hb.mono HBR.out.size)).size; omega) (by decide)
            · intro a' w' hf hb hd
              have v_ : k133.R 133 w' W.heap.size (fun _ => True) (a'.eval (.tmp 73)) [⟨⟨#[112, 114, 111, 99, 101, 115, 115]⟩, 0, 0, ⟨0, 0⟩, [⟨4, 14⟩]⟩, ⟨⟨#[115, 101, 108, 101, 99, 116]⟩, 6, 0, ⟨1, 0⟩, []⟩, ⟨⟨#[100, 101, 115, 101, 108, 101, 99, 116]⟩, 7, 0, ⟨0, 0⟩, []⟩, ⟨⟨#[115, 104, 97, 114, 101]⟩, 8, 0, ⟨4, 13⟩, [⟨3, 0⟩, ⟨2, 0⟩]⟩] := hd 14 (by decide)
              obtain ⟨Av_, cv_, ev_⟩ := Kd.R_slice v_
              rw [ev_] at v_
              have o_ : k133.R 133 w' W.heap.size (fun _ => True) (a'.eval (.tmp 79)) [⟨natName, 1, 4, ⟨0, 0⟩, []⟩, ⟨⟨#[114, 101, 103, 105, 115, 116, 101, 114]⟩, 9, 1, ⟨0, 0⟩, [⟨4, 12⟩]⟩] := hd 20 (by decide)
              obtain ⟨Ao_, co_, eo_⟩ := Kd.R_slice o_
              rw [eo_] at o_
              have hu_ := Try.underlying129
              exact told_run (v := .agg #[.int .i64 0, .int .u8 4, .slice none 0 0, .slice Av_ _ cv_, .slice Ao_ _ co_]) rfl (by simp [execOp, ev_, eo_]; go_simp) ⟨[.int .i64 0, .int .u8 4, .slice none 0 0, .slice Av_ _ cv_, .slice Ao_ _ co_], rfl, k129_mkM _ _ _ ⟨0, 4, [], [⟨⟨#[112, 114, 111, 99, 101, 115, 115]⟩, 0, 0, ⟨0, 0⟩, [⟨4, 14⟩]⟩, ⟨⟨#[115, 101, 108, 101, 99, 116]⟩, 6, 0, ⟨1, 0⟩, []⟩, ⟨⟨#[100, 101, 115, 101, 108, 101, 99, 116]⟩, 7, 0, ⟨0, 0⟩, []⟩, ⟨⟨#[115, 104, 97, 114, 101]⟩, 8, 0, ⟨4, 13⟩, [⟨3, 0⟩, ⟨2, 0⟩]⟩], [⟨natName, 1, 4, ⟨0, 0⟩, []⟩, ⟨⟨#[114, 101, 103, 105, 115, 116, 101, 114]⟩, 9, 1, ⟨0, 0⟩, [⟨4, 12⟩]⟩]⟩ (Kd.R_nil _ _ _ _ _) v_ o_⟩ (Below.refl _ _)
            · intro a' w' hf hb hd
              obtain ⟨cs0_, h0_, m0_⟩ : (Told.agg k129 W.heap.size ⟨0, 4, [], [⟨⟨#[112, 114, 111, 99, 101, 115, 115]⟩, 0, 0, ⟨0, 0⟩, [⟨4, 14⟩]⟩, ⟨⟨#[115, 101, 108, 101, 99, 116]⟩, 6, 0, ⟨1, 0⟩, []⟩, ⟨⟨#[100, 101, 115, 101, 108, 101, 99, 116]⟩, 7, 0, ⟨0, 0⟩, []⟩, ⟨⟨#[115, 104, 97, 114, 101]⟩, 8, 0, ⟨4, 13⟩, [⟨3, 0⟩, ⟨2, 0⟩]⟩], [⟨natName, 1, 4, ⟨0, 0⟩, []⟩, ⟨⟨#[114, 101, 103, 105, 115, 116, 101, 114]⟩, 9, 1, ⟨0, 0⟩, [⟨4, 12⟩]⟩]⟩).p (a'.eval (.tmp 80)) w' := hd 21 (by decide)
              obtain ⟨v0_, x0_, y0_, rfl, g0_, i0_, j0_⟩ := k129_openM m0_
              obtain ⟨Ag0_, cg0_, eg0_⟩ := Kd.R_slice g0_
              subst eg0_
              obtain ⟨Ai0_, ci0_, ei0_⟩ := Kd.R_slice i0_
              subst ei0_
              obtain ⟨Aj0_, cj0_, ej0_⟩ := Kd.R_slice j0_
              subst ej0_
              have hu_ := Try.underlying125
              have hreps_ : Reps (k129.M w' W.heap.size (fun _ => True)) k129.sz _ _ := (reps_one (by rfl) m0_)
              exact told_lit k129 129 W.heap.size (xs := [⟨0, 4, [], [⟨⟨#[112, 114, 111, 99, 101, 115, 115]⟩, 0, 0, ⟨0, 0⟩, [⟨4, 14⟩]⟩, ⟨⟨#[115, 101, 108, 101, 99, 116]⟩, 6, 0, ⟨1, 0⟩, []⟩, ⟨⟨#[100, 101, 115, 101, 108, 101, 99, 116]⟩, 7, 0, ⟨0, 0⟩, []⟩, ⟨⟨#[115, 104, 97, 114, 101]⟩, 8, 0, ⟨4, 13⟩, [⟨3, 0⟩, ⟨2, 0⟩]⟩], [⟨natName, 1, 4, ⟨0, 0⟩, []⟩, ⟨⟨#[114, 101, 103, 105, 115, 116, 101, 114]⟩, 9, 1, ⟨0, 0⟩, [⟨4, 12⟩]⟩]⟩]) (inner := [.int .i64 0, .int .u8 4, .slice Ag0_ 0 cg0_, .slice Ai0_ 4 ci0_, .slice Aj0_ 2 cj0_]) rfl (by simp [execOp, h0_]; first | (go_simp; done) | (go_simp; rfl)) hreps_ (by have := (HBR.out.trans (hb.mono HBR.out.size)).size; omega) (by decide)
          · intro a' w' hf hb hd
            have hmov_ : (Told.val (.slice (some ⟨g8_, 0, none⟩) 12 cap8_)).p (a'.eval (.tmp 59)) w' := hd 0 (by simp)
            have hrow_ : (Told.row k129 129 W.heap.size [⟨0, 4, [], [⟨⟨#[112, 114, 111, 99, 101, 115, 115]⟩, 0, 0, ⟨0, 0⟩, [⟨4, 14⟩]⟩, ⟨⟨#[115, 101, 108, 101, 99, 116]⟩, 6, 0, ⟨1, 0⟩, []⟩, ⟨⟨#[100, 101, 115, 101, 108, 101, 99, 116]⟩, 7, 0, ⟨0, 0⟩, []⟩, ⟨⟨#[115, 104, 97, 114, 101]⟩, 8, 0, ⟨4, 13⟩, [⟨3, 0⟩, ⟨2, 0⟩]⟩], [⟨natName, 1, 4, ⟨0, 0⟩, []⟩, ⟨⟨#[114, 101, 103, 105, 115, 116, 101, 114]⟩, 9, 1, ⟨0, 0⟩, [⟨4, 12⟩]⟩]⟩]).p (a'.eval (.tmp 81)) w' := hd 22 (by simp)
            have ha := act_of_frame hf [59, 60, 61, 62, 63, 64, 65, 66, 67, 68, 69, 70, 71, 72, 73, 74, 75, 76, 77, 78, 79, 80, 81] (by kernel_rfl) (by kernel_rfl)
            obtain ⟨u59, hu59⟩ : ∃ u, a'.eval (.tmp 59) = u := ⟨_, rfl⟩
            obtain ⟨u60, hu60⟩ : ∃ u, a'.eval (.tmp 60) = u := ⟨_, rfl⟩
            obtain ⟨u61, hu61⟩ : ∃ u, a'.eval (.tmp 61) = u := ⟨_, rfl⟩
            obtain ⟨u62, hu62⟩ : ∃ u, a'.eval (.tmp 62) = u := ⟨_, rfl⟩
            obtain ⟨u63, hu63⟩ : ∃ u, a'.eval (.tmp 63) = u := ⟨_, rfl⟩
            obtain ⟨u64, hu64⟩ : ∃ u, a'.eval (.tmp 64) = u := ⟨_, rfl⟩
            obtain ⟨u65, hu65⟩ : ∃ u, a'.eval (.tmp 65) = u := ⟨_, rfl⟩
            obtain ⟨u66, hu66⟩ : ∃ u, a'.eval (.tmp 66) = u := ⟨_, rfl⟩
            obtain ⟨u67, hu67⟩ : ∃ u, a'.eval (.tmp 67) = u := ⟨_, rfl⟩
            obtain ⟨u68, hu68⟩ : ∃ u, a'.eval (.tmp 68) = u := ⟨_, rfl⟩
            obtain ⟨u69, hu69⟩ : ∃ u, a'.eval (.tmp 69) = u := ⟨_, rfl⟩
            obtain ⟨u70, hu70⟩ : ∃ u, a'.eval (.tmp 70) = u := ⟨_, rfl⟩
            obtain ⟨u71, hu71⟩ : ∃ u, a'.eval (.tmp 71) = u := ⟨_, rfl⟩
            obtain ⟨u72, hu72⟩ : ∃ u, a'.eval (.tmp 72) = u := ⟨_, rfl⟩
            obtain ⟨u73, hu73⟩ : ∃ u, a'.eval (.tmp 73) = u := ⟨_, rfl⟩
            obtain ⟨u74, hu74⟩ : ∃ u, a'.eval (.tmp 74) = u := ⟨_, rfl⟩
            obtain ⟨u75, hu75⟩ : ∃ u, a'.eval (.tmp 75) = u := ⟨_, rfl⟩
            obtain ⟨u76, hu76⟩ : ∃ u, a'.eval (.tmp 76) = u := ⟨_, rfl⟩
            obtain ⟨u77, hu77⟩ : ∃ u, a'.eval (.tmp 77) = u := ⟨_, rfl⟩
            obtain ⟨u78, hu78⟩ : ∃ u, a'.eval (.tmp 78) = u := ⟨_, rfl⟩
            obtain ⟨u79, hu79⟩ : ∃ u, a'.eval (.tmp 79) = u := ⟨_, rfl⟩
            obtain ⟨u80, hu80⟩ : ∃ u, a'.eval (.tmp 80) = u := ⟨_, rfl⟩
            obtain ⟨u81, hu81⟩ : ∃ u, a'.eval (.tmp 81) = u := ⟨_, rfl⟩
            rw [hu59] at hmov_
            rw [hu81] at hrow_
            simp only [List.foldl_cons, List.foldl_nil, List.setIfInBounds_toArray, List.set_cons_succ, List.set_cons_zero, hu59, hu60, hu61, hu62, hu63, hu64, hu65, hu66, hu67, hu68, hu69, hu70, hu71, hu72, hu73, hu74, hu75, hu76, hu77, hu78, hu79, hu80, hu81] at ha
            clear hf hd hu59 hu60 hu61 hu62 hu63 hu64 hu65 hu66 hu67 hu68 hu69 hu70 hu71 hu72 hu73 hu74 hu75 hu76 hu77 hu78 hu79 hu80 hu81
            subst ha
            obtain rfl : _ = u59 := hmov_.symm
            have HX := Aside0.mk hrow_
            have HO := Aside0.mk (Kd.R_below hR.out hb)
            have HB := Aside0.mk (HBR.out.trans (hb.mono HBR.out.size))
            have hN : W.heap.size ≤ w'.heap.size := HB.out.size
            clear hR HBR hb hrow_ hmov_
            simp only [List.length_cons, List.length_nil, Nat.reduceAdd, List.drop_succ_cons, List.drop_zero]
            go_wp2_with (first | (at_builtin; refine told_append k129 (w0 := W) W.heap.size rfl (.tmp 59) (.tmp 81) 125 129 _ 88 rfl Try.underlying125 info129 rfl (by decide) (by decide) (by decide) g8_ 12 cap8_ u81 (tabRows.take 12) [tab12] rfl rfl HO.out HX.out (by decide) HB.out hN (by decide) (tabRows.take 13) 13 rfl rfl ?_; intro g9_ cap9_ w9_ ho2 hb2; have HO2 := Aside0.mk ho2; have HB2 := Aside0.mk hb2; clear ho2 hb2) | (at_builtin; refine told_append1 k129 (w0 := W) W.heap.size rfl (.tmp 83) (.tmp 85) 125 129 _ 88 rfl Try.underlying125 info129 rfl (by decide) (by decide) (by decide) g9_ 13 cap9_ (tabRows.take 13) tab13 [.int .i64 (-1), .int .u8 3, .slice none 0 0, .slice none 0 0, .slice none 0 0] rfl (by simp [Act.eval, go_sem]) HO2.out (k129_mkM _ _ _ tab13 (Kd.R_nil _ _ _ _ _) (Kd.R_nil _ _ _ _ _) (Kd.R_nil _ _ _ _ _)) HB2.out HB2.out.size (by decide) (tabRows.take 14) 14 rfl rfl ?_; clear HO2 HB2; intro g10_ cap10_ w10_ ho2 hb2; have HO2 := Aside0.mk ho2; have HB2 := Aside0.mk hb2; clear ho2 hb2))
            clear HX HO HB hN
            have hR := HO2
            have HBR := HB2
            clear HO2 HB2
            refine wp_region_steps (ts := [Told.val (.slice (some ⟨g10_, 0, none⟩) 14 cap10_), Told.val (.agg #[.int .u8 6, .int .u16 0]), Told.agg k133 W.heap.size ⟨⟨#[98, 117, 102, 102, 101, 114]⟩, 10, 0, ⟨6, 0⟩, []⟩, Told.val (.agg #[.int .u8 3, .int .u16 0]), Told.agg k133 W.heap.size ⟨⟨#[114, 101, 99, 101, 105, 118, 101]⟩, 11, 0, ⟨3, 0⟩, []⟩, Told.val (.agg #[.int .u8 0, .int .u16 0]), Told.val (.agg #[.int .u8 3, .int .u16 0]), Told.val (.agg #[.int .u8 3, .int .u16 0]), Told.row k30 30 W.heap.size [⟨3, 0⟩, ⟨3, 0⟩], Told.agg k133 W.heap.size ⟨⟨#[115, 101, 110, 100]⟩, 12, 0, ⟨0, 0⟩, [⟨3, 0⟩, ⟨3, 0⟩]⟩, Told.row k133 133 W.heap.size [⟨⟨#[98, 117, 102, 102, 101, 114]⟩, 10, 0, ⟨6, 0⟩, []⟩, ⟨⟨#[114, 101, 99, 101, 105, 118, 101]⟩, 11, 0, ⟨3, 0⟩, []⟩, ⟨⟨#[115, 101, 110, 100]⟩, 12, 0, ⟨0, 0⟩, [⟨3, 0⟩, ⟨3, 0⟩]⟩], Told.agg k129 W.heap.size ⟨0, 8, [], [⟨⟨#[98, 117, 102, 102, 101, 114]⟩, 10, 0, ⟨6, 0⟩, []⟩, ⟨⟨#[114, 101, 99, 101, 105, 118, 101]⟩, 11, 0, ⟨3, 0⟩, []⟩, ⟨⟨#[115, 101, 110, 100]⟩, 12, 0, ⟨0, 0⟩, [⟨3, 0⟩, ⟨3, 0⟩]⟩], []⟩, Told.row k129 129 W.heap.size [⟨0, 8, [], [⟨⟨#[98, 117, 102, 102, 101, 114]⟩, 10, 0, ⟨6, 0⟩, []⟩, ⟨⟨#[114, 101, 99, 101, 105, 118, 101]⟩, 11, 0, ⟨3, 0⟩, []⟩, ⟨⟨#[115, 101, 110, 100]⟩, 12, 0, ⟨0, 0⟩, [⟨3, 0⟩, ⟨3, 0⟩]⟩], []⟩]]) (by kernel_rfl) (by kernel_rfl) ?_ ?_
            · refine ⟨?_, ?_, ?_, ?_, ?_, ?_, ?_, ?_, ?_, ?_, ?_, ?_, ?_, trivial⟩
              · intro a' w' hf hb hd
                have p_ := frame_at hf 8 (.slice (some ⟨g10_, 0, none⟩) 14 cap10_) (by kernel_rfl) rfl
                have p2_ : a'.tmps[8]?.getD undef = .slice (some ⟨g10_, 0, none⟩) 14 cap10_ := by simpa [Act.eval] using p_
                exact told_run (v := .slice (some ⟨g10_, 0, none⟩) 14 cap10_) rfl (by go_simp) rfl (Below.refl _ _)
              · intro a' w' hf hb hd
                have p_ := frame_at hf 5 (.pointer (some ⟨w7.heap.size, 0, none⟩)) (by kernel_rfl) rfl
                obtain ⟨c0_, c1_⟩ := (hK.out.below (HBR.out.trans (hb.mono HBR.out.size))).c5
                exact told_run (v := .agg #[.int .u8 6, .int .u16 0]) rfl (by simp [execOp, p_]; go_simp) rfl (Below.refl _ _)
              · intro a' w' hf hb hd
                have hr_ : a'.eval (.tmp 88) = .agg #[.int .u8 6, .int .u16 0] := hd 1 (by decide)
                have hr2_ : a'.tmps[88]?.getD undef = .agg #[.int .u8 6, .int .u16 0] := by simpa [Act.eval] using hr_
                refine told_call rfl (by go_simp) ((nat_virtual ⟨#[98, 117, 102, 102, 101, 114]⟩ 10 6 0 none 0 0 w').mono ?_)
                rintro e w2_ ⟨rfl, hb2_⟩
                exact ⟨_, rfl, ⟨[.string ⟨#[98, 117, 102, 102, 101, 114]⟩, .int .i64 10, .int .u8 0, .int .u8 6, .int .u16 0, .slice none 0 0], rfl, k133_mkM _ _ _ ⟨⟨#[98, 117, 102, 102, 101, 114]⟩, 10, 0, ⟨6, 0⟩, []⟩ (Kd.R_nil _ _ _ _ _)⟩, hb2_⟩
              · intro a' w' hf hb hd
                have p_ := frame_at hf 2 (.pointer (some ⟨w4.heap.size + 1, 0, none⟩)) (by kernel_rfl) rfl
                obtain ⟨c0_, c1_⟩ := (hK.out.below (HBR.out.trans (hb.mono HBR.out.size))).c2
                exact told_run (v := .agg #[.int .u8 3, .int .u16 0]) rfl (by simp [execOp, p_]; go_simp) rfl (Below.refl _ _)
              · intro a' w' hf hb hd
                have hr_ : a'.eval (.tmp 90) = .agg #[.int .u8 3, .int .u16 0] := hd 3 (by decide)
                have hr2_ : a'.tmps[90]?.getD undef = .agg #[.int .u8 3, .int .u16 0] := by simpa [Act.eval] using hr_
                refine told_call rfl (by go_simp) ((nat_virtual ⟨#[114, 101, 99, 101, 105, 118, 101]⟩ 11 3 0 none 0 0 w').mono ?_)
                rintro e w2_ ⟨rfl, hb2_⟩
                exact ⟨_, rfl, ⟨[.string ⟨#[114, 101, 99, 101, 105, 118, 101]⟩, .int .i64 11, .int .u8 0, .int .u8 3, .int .u16 0, .slice none 0 0], rfl, k133_mkM _ _ _ ⟨⟨#[114, 101, 99, 101, 105, 118, 101]⟩, 11, 0, ⟨3, 0⟩, []⟩ (Kd.R_nil _ _ _ _ _)⟩, hb2_⟩
              · intro a' w' hf hb hd
                have p_ := frame_at hf 1 (.pointer (some ⟨w4.heap.size, 0, none⟩)) (by kernel_rfl) rfl
                obtain ⟨c0_, c1_⟩ := (hK.out.below (HBR.out.trans (hb.mono HBR.out.size))).c1
                exact told_run (v := .agg #[.int .u8 0, .int .u16 0]) rfl (by simp [execOp, p_]; go_simp) rfl (Below.refl _ _)
              · intro a' w' hf hb hd
                have p_ := frame_at hf 2 (.pointer (some ⟨w4.heap.size + 1, 0, none⟩)) (by kernel_rfl) rfl
                obtain ⟨c0_, c1_⟩ := (hK.out.below (HBR.out.trans (hb.mono HBR.out.size))).c2
                exact told_run (v := .agg #[.int .u8 3, .int .u16 0]) rfl (by simp [execOp, p_]; go_simp) rfl (Below.refl _ _)
              · intro a' w' hf hb hd
                have p_ := frame_at hf 2 (.pointer (some ⟨w4.heap.size + 1, 0, none⟩)) (by kernel_rfl) rfl
                obtain ⟨c0_, c1_⟩ := (hK.out.below (HBR.out.trans (hb.mono HBR.out.size))).c2
                exact told_run (v := .agg #[.int .u8 3, .int .u16 0]) rfl (by simp [execOp, p_]; go_simp) rfl (Below.refl _ _)
              · intro a' w' hf hb hd
                have h0_ : a'.eval (.tmp 93) = .agg #[.int .u8 3, .int .u16 0] := hd 6 (by decide)
                have h1_ : a'.eval (.tmp 94) = .agg #[.int .u8 3, .int .u16 0] := hd 7 (by decide)
                have hu_ := Try.underlying80
                have hreps_ : Reps (k30.M w' W.heap.size (fun _ => True)) k30.sz _ _ := (reps_snoc (reps_one (by rfl) (k30_mkM w' W.heap.size (fun _ => True) ⟨3, 0⟩)) (by rfl) (k30_mkM w' W.heap.size (fun _ => True) ⟨3, 0⟩))
                simp only [List.cons_append, List.nil_append] at hreps_
                exact told_lit k30 30 W.heap.size (xs := [⟨3, 0⟩, ⟨3, 0⟩]) (inner := [.int .u8 3, .int .u16 0, .int .u8 3, .int .u16 0]) rfl (by simp [execOp, h0_, h1_]; first | (go_simp; done) | (go_simp; rfl)) hreps_ (by have := (HBR.out.trans (hb.mono HBR.out.size)).size; omega) (by decide)
              · intro a' w' hf hb hd
                have hr_ : a'.eval (.tmp 92) = .agg #[.int .u8 0, .int .u16 0] := hd 5 (by decide)
                have hr2_ : a'.tmps[92]?.getD undef = .agg #[.int .u8 0, .int .u16 0] := by simpa [Act.eval] using hr_
                have r_ : k30.R 30 w' W.heap.size (fun _ => True) (a'.eval (.tmp 95)) [⟨3, 0⟩, ⟨3, 0⟩] := hd 8 (by decide)
                obtain ⟨A_, c_, hv_⟩ := Kd.R_slice r_
                rw [hv_] at r_
                have hv2_ : a'.tmps[95]?.getD undef = .slice A_ 2 c_ := by simpa [Act.eval] using hv_
                refine told_call rfl (by go_simp) ((nat_virtual ⟨#[115, 101, 110, 100]⟩ 12 0 0 A_ 2 c_ w').mono ?_)
                rintro e w2_ ⟨rfl, hb2_⟩
                exact ⟨_, rfl, ⟨[.string ⟨#[115, 101, 110, 100]⟩, .int .i64 12, .int .u8 0, .int .u8 0, .int .u16 0, .slice A_ 2 c_], rfl, k133_mkM _ _ _ ⟨⟨#[115, 101, 110, 100]⟩, 12, 0, ⟨0, 0⟩, [⟨3, 0⟩, ⟨3, 0⟩]⟩ (Kd.R_below r_ hb2_)⟩, hb2_⟩
              · intro a' w' hf hb hd
                obtain ⟨cs0_, h0_, m0_⟩ : (Told.agg k133 W.heap.size ⟨⟨#[98, 117, 102, 102, 101, 114]⟩, 10, 0, ⟨6, 0⟩, []⟩).p (a'.eval (.tmp 89)) w' := hd 2 (by decide)
                obtain ⟨v0_, rfl, g0_⟩ := k133_openM m0_
                obtain ⟨A0_, c0_, e0_⟩ := Kd.R_slice g0_
                subst e0_
                obtain ⟨cs1_, h1_, m1_⟩ : (Told.agg k133 W.heap.size ⟨⟨#[114, 101, 99, 101, 105, 118, 101]⟩, 11, 0, ⟨3, 0⟩, []⟩).p (a'.eval (.tmp 91)) w' := hd 4 (by decide)
                obtain ⟨v1_, rfl, g1_⟩ := k133_openM m1_
                obtain ⟨A1_, c1_, e1_⟩ := Kd.R_slice g1_
                subst e1_
                obtain ⟨cs2_, h2_, m2_⟩ : (Told.agg k133 W.heap.size ⟨⟨#[115, 101, 110, 100]⟩, 12, 0, ⟨0, 0⟩, [⟨3, 0⟩, ⟨3, 0⟩]⟩).p (a'.eval (.tmp 96)) w' := hd 9 (by decide)
                obtain ⟨v2_, rfl, g2_⟩ := k133_openM m2_
                obtain ⟨A2_, c2_, e2_⟩ := Kd.R_slice g2_
                subst e2_
                have hu_ := Try.underlying127
                have hreps_ : Reps (k133.M w' W.heap.size (fun _ => True)) k133.sz _ _ := (reps_snoc (reps_snoc (reps_one (by rfl) m0_) (by rfl) m1_) (by rfl) m2_)
                simp only [List.cons_append, List.nil_append] at hreps_
                exact told_lit k133 133 W.heap.size (xs := [⟨⟨#[98, 117, 102, 102, 101, 114]⟩, 10, 0, ⟨6, 0⟩, []⟩, ⟨⟨#[114, 101, 99, 101, 105, 118, 101]⟩, 11, 0, ⟨3, 0⟩, []⟩, ⟨⟨#[115, 101, 110, 100]⟩, 12, 0, ⟨0, 0⟩, [⟨3, 0⟩, ⟨3, 0⟩]⟩]) (inner := [.string ⟨#[98, 117, 102, 102, 101, 114]⟩, .int .i64 10, .int .u8 0, .int .u8 6, .int .u16 0, .slice A0_ 0 c0_, .string ⟨#[114, 101, 99, 101, 105, 118, 101]⟩, .int .i64 11, .int .u8 0, .int .u8 3, .int .u16 0, .slice A1_ 0 c1_, .string ⟨#[115, 101, 110, 100]⟩, .int .i64 12, .int .u8 0, .int .u8 0, .int .u16 0, .slice A2_ 2 c2_]) rfl (by simp [execOp, h0_, h1_, h2_]; first | (go_simp; done) | (go_simp; rfl)) hreps_ (by have := (HBR.out.trans (hb.mono HBR.out.size)).size; omega) (by decide)
              · intro a' w' hf hb hd
                have v_ : k133.R 133 w' W.heap.size (fun _ => True) (a'.eval (.tmp 97)) [⟨⟨#[98, 117, 102, 102, 101, 114]⟩, 10, 0, ⟨6, 0⟩, []⟩, ⟨⟨#[114, 101, 99, 101, 105, 118, 101]⟩, 11, 0, ⟨3, 0⟩, []⟩, ⟨⟨#[115, 101, 110, 100]⟩, 12, 0, ⟨0, 0⟩, [⟨3, 0⟩, ⟨3, 0⟩]⟩] := hd 10 (by decide)
                obtain ⟨Av_, cv_, ev_⟩ := Kd.R_slice v_
                rw [ev_] at v_
                have hu_ := Try.underlying129
                exact told_run (v := .agg #[.int .i64 0, .int .u8 8, .slice none 0 0, .slice Av_ _ cv_, .slice none 0 0]) rfl (by simp [execOp, ev_]; go_simp) ⟨[.int .i64 0, .int .u8 8, .slice none 0 0, .slice Av_ _ cv_, .slice none 0 0], rfl, k129_mkM _ _ _ ⟨0, 8, [], [⟨⟨#[98, 117, 102, 102, 101, 114]⟩, 10, 0, ⟨6, 0⟩, []⟩, ⟨⟨#[114, 101, 99, 101, 105, 118, 101]⟩, 11, 0, ⟨3, 0⟩, []⟩, ⟨⟨#[115, 101, 110, 100]⟩, 12, 0, ⟨0, 0⟩, [⟨3, 0⟩, ⟨3, 0⟩]⟩], []⟩ (Kd.R_nil _ _ _ _ _) v_ (Kd.R_nil _ _ _ _ _)⟩ (Below.refl _ _)
              · intro a' w' hf hb hd
                obtain ⟨cs0_, h0_, m0_⟩ : (Told.agg k129 W.heap.size ⟨0, 8, [], [⟨⟨#[98, 117, 102, 102, 101, 114]⟩, 10, 0, ⟨6, 0⟩, []⟩, ⟨⟨#[114, 101, 99, 101, 105, 118, 101]⟩, 11, 0, ⟨3, 0⟩, []⟩, ⟨⟨#[115, 101, 110, 100]⟩, 12, 0, ⟨0, 0⟩, [⟨3, 0⟩, ⟨3, 0⟩]⟩], []⟩).p (a'.eval (.tmp 98)) w' := hd 11 (by decide)
                obtain ⟨v0_, x0_, y0_, rfl, g0_, i0_, j0_⟩ := k129_openM m0_
                obtain ⟨Ag0_, cg0_, eg0_⟩ := Kd.R_slice g0_
                subst eg0_
                obtain ⟨Ai0_, ci0_, ei0_⟩ := Kd.R_slice i0_
                subst ei0_
                obtain ⟨Aj0_, cj0_, ej0_⟩ := Kd.R_slice j0_
                subst ej0_
                have hu_ := Try.underlying125
                have hreps_ : Reps (k129.M w' W.heap.size (fun _ => True)) k129.sz _ _ := (reps_one (by rfl) m0_)
                exact told_lit k129 129 W.heap.size (xs := [⟨0, 8, [], [⟨⟨#[98, 117, 102, 102, 101, 114]⟩, 10, 0, ⟨6, 0⟩, []⟩, ⟨⟨#[114, 101, 99, 101, 105, 118, 101]⟩, 11, 0, ⟨3, 0⟩, []⟩, ⟨⟨#[115, 101, 110, 100]⟩, 12, 0, ⟨0, 0⟩, [⟨3, 0⟩, ⟨3, 0⟩]⟩], []⟩]) (inner := [.int .i64 0, .int .u8 8, .slice Ag0_ 0 cg0_, .slice Ai0_ 3 ci0_, .slice Aj0_ 0 cj0_]) rfl (by simp [execOp, h0_]; first | (go_simp; done) | (go_simp; rfl)) hreps_ (by have := (HBR.out.trans (hb.mono HBR.out.size)).size; omega) (by decide)
            · intro a' w' hf hb hd
              have hmov_ : (Told.val (.slice (some ⟨g10_, 0, none⟩) 14 cap10_)).p (a'.eval (.tmp 87)) w' := hd 0 (by simp)
              have hrow_ : (Told.row k129 129 W.heap.size [⟨0, 8, [], [⟨⟨#[98, 117, 102, 102, 101, 114]⟩, 10, 0, ⟨6, 0⟩, []⟩, ⟨⟨#[114, 101, 99, 101, 105, 118, 101]⟩, 11, 0, ⟨3, 0⟩, []⟩, ⟨⟨#[115, 101, 110, 100]⟩, 12, 0, ⟨0, 0⟩, [⟨3, 0⟩, ⟨3, 0⟩]⟩], []⟩]).p (a'.eval (.tmp 99)) w' := hd 12 (by simp)
              have ha := act_of_frame hf [87, 88, 89, 90, 91, 92, 93, 94, 95, 96, 97, 98, 99] (by kernel_rfl) (by kernel_rfl)
              obtain ⟨u87, hu87⟩ : ∃ u, a'.eval (.tmp 87) = u := ⟨_, rfl⟩
              obtain ⟨u88, hu88⟩ : ∃ u, a'.eval (.tmp 88) = u := ⟨_, rfl⟩
              obtain ⟨u89, hu89⟩ : ∃ u, a'.eval (.tmp 89) = u := ⟨_, rfl⟩
              obtain ⟨u90, hu90⟩ : ∃ u, a'.eval (.tmp 90) = u := ⟨_, rfl⟩
              obtain ⟨u91, hu91⟩ : ∃ u, a'.eval (.tmp 91) = u := ⟨_, rfl⟩
              obtain ⟨u92, hu92⟩ : ∃ u, a'.eval (.tmp 92) = u := ⟨_, rfl⟩
              obtain ⟨u93, hu93⟩ : ∃ u, a'.eval (.tmp 93) = u := ⟨_, rfl⟩
              obtain ⟨u94, hu94⟩ : ∃ u, a'.eval (.tmp 94) = u := ⟨_, rfl⟩
              obtain ⟨u95, hu95⟩ : ∃ u, a'.eval (.tmp 95) = u := ⟨_, rfl⟩
              obtain ⟨u96, hu96⟩ : ∃ u, a'.eval (.tmp 96) = u := ⟨_, rfl⟩
              obtain ⟨u97, hu97⟩ : ∃ u, a'.eval (.tmp 97) = u := ⟨_, rfl⟩
              obtain ⟨u98, hu98⟩ : ∃ u, a'.eval (.tmp 98) = u := ⟨_, rfl⟩
              obtain ⟨u99, hu99⟩ : ∃ u, a'.eval (.tmp 99) = u := ⟨_, rfl⟩
              rw [hu87] at hmov_
              rw [hu99] at hrow_
              simp only [List.foldl_cons, List.foldl_nil, List.setIfInBounds_toArray, List.set_cons_succ, List.set_cons_zero, hu87, hu88, hu89, hu90, hu91, hu92, hu93, hu94, hu95, hu96, hu97, hu98, hu99] at ha
              clear hf hd hu87 hu88 hu89 hu90 hu91 hu92 hu93 hu94 hu95 hu96 hu97 hu98 hu99
              subst ha
              obtain rfl : _ = u87 := hmov_.symm
              have HX := Aside0.mk hrow_
              have HO := Aside0.mk (Kd.R_below hR.out hb)
              have HB := Aside0.mk (HBR.out.trans (hb.mono HBR.out.size))
              have hN : W.heap.size ≤ w'.heap.size := HB.out.size
              clear hR HBR hb hrow_ hmov_
              simp only [List.length_cons, List.length_nil, Nat.reduceAdd, List.drop_succ_cons, List.drop_zero]
              go_wp2_with (at_builtin; refine told_append k129 (w0 := W) W.heap.size rfl (.tmp 87) (.tmp 99) 125 129 _ 88 rfl Try.underlying125 info129 rfl (by decide) (by decide) (by decide) g10_ 14 cap10_ u99 (tabRows.take 14) [tab14] rfl rfl HO.out HX.out (by decide) HB.out hN (by decide) (tabRows.take 15) 15 rfl rfl ?_; intro g11_ cap11_ w11_ ho2 hb2; have HO2 := Aside0.mk ho2; have HB2 := Aside0.mk hb2; clear ho2 hb2)
              clear HX HO HB hN
              have hR := HO2
              have HBR := HB2
              clear HO2 HB2
              refine wp_region_steps (ts := [Told.val (.slice (some ⟨g11_, 0, none⟩) 15 cap11_), Told.val (.agg #[.int .u8 0, .int .u16 0]), Told.agg k133 W.heap.size ⟨⟨#[98, 101, 103, 105, 110]⟩, 13, 1, ⟨0, 0⟩, []⟩, Told.val (.agg #[.int .u8 0, .int .u16 0]), Told.agg k133 W.heap.size ⟨⟨#[99, 111, 109, 109, 105, 116]⟩, 14, 1, ⟨0, 0⟩, []⟩, Told.val (.agg #[.int .u8 0, .int .u16 0]), Told.agg k133 W.heap.size ⟨⟨#[97, 98, 111, 114, 116]⟩, 15, 1, ⟨0, 0⟩, []⟩, Told.val (.agg #[.int .u8 2, .int .u16 0]), Told.agg k133 W.heap.size ⟨⟨#[100, 101, 112, 116, 104]⟩, 16, 1, ⟨2, 0⟩, []⟩, Told.val (.agg #[.int .u8 6, .int .u16 0]), Told.val (.agg #[.int .u8 3, .int .u16 0]), Told.val (.agg #[.int .u8 2, .int .u16 0]), Told.row k30 30 W.heap.size [⟨3, 0⟩, ⟨2, 0⟩], Told.agg k133 W.heap.size ⟨⟨#[109, 97, 107, 101, 66, 121, 116, 101, 115]⟩, 17, 1, ⟨6, 0⟩, [⟨3, 0⟩, ⟨2, 0⟩]⟩, Told.val (.agg #[.int .u8 7, .int .u16 0]), Told.val (.agg #[.int .u8 3, .int .u16 0]), Told.val (.agg #[.int .u8 2, .int .u16 0]), Told.row k30 30 W.heap.size [⟨3, 0⟩, ⟨2, 0⟩], Told.agg k133 W.heap.size ⟨⟨#[109, 97, 107, 101, 83, 104, 111, 114, 116, 115]⟩, 18, 1, ⟨7, 0⟩, [⟨3, 0⟩, ⟨2, 0⟩]⟩, Told.val (.agg #[.int .u8 4, .int .u16 13]), Told.val (.agg #[.int .u8 6, .int .u16 0]), Told.val (.agg #[.int .u8 3, .int .u16 0]), Told.val (.agg #[.int .u8 2, .int .u16 0]), Told.val (.agg #[.int .u8 2, .int .u16 0]), Told.row k30 30 W.heap.size [⟨6, 0⟩, ⟨3, 0⟩, ⟨2, 0⟩, ⟨2, 0⟩], Told.agg k133 W.heap.size ⟨⟨#[115, 104, 97, 114, 101]⟩, 19, 1, ⟨4, 13⟩, [⟨6, 0⟩, ⟨3, 0⟩, ⟨2, 0⟩, ⟨2, 0⟩]⟩, Told.val (.agg #[.int .u8 3, .int .u16 0]), Told.agg k133 W.heap.size ⟨⟨#[112, 114, 101, 118, 105, 111, 117, 115]⟩, 20, 1, ⟨3, 0⟩, []⟩, Told.row k133 133 W.heap.size [⟨⟨#[98, 101, 103, 105, 110]⟩, 13, 1, ⟨0, 0⟩, []⟩, ⟨⟨#[99, 111, 109, 109, 105, 116]⟩, 14, 1, ⟨0, 0⟩, []⟩, ⟨⟨#[97, 98, 111, 114, 116]⟩, 15, 1, ⟨0, 0⟩, []⟩, ⟨⟨#[100, 101, 112, 116, 104]⟩, 16, 1, ⟨2, 0⟩, []⟩, ⟨⟨#[109, 97, 107, 101, 66, 121, 116, 101, 115]⟩, 17, 1, ⟨6, 0⟩, [⟨3, 0⟩, ⟨2, 0⟩]⟩, ⟨⟨#[109, 97, 107, 101, 83, 104, 111, 114, 116, 115]⟩, 18, 1, ⟨7, 0⟩, [⟨3, 0⟩, ⟨2, 0⟩]⟩, ⟨⟨#[115, 104, 97, 114, 101]⟩, 19, 1, ⟨4, 13⟩, [⟨6, 0⟩, ⟨3, 0⟩, ⟨2, 0⟩, ⟨2, 0⟩]⟩, ⟨⟨#[112, 114, 101, 118, 105, 111, 117, 115]⟩, 20, 1, ⟨3, 0⟩, []⟩], Told.agg k129 W.heap.size ⟨0, 8, [], [], [⟨⟨#[98, 101, 103, 105, 110]⟩, 13, 1, ⟨0, 0⟩, []⟩, ⟨⟨#[99, 111, 109, 109, 105, 116]⟩, 14, 1, ⟨0, 0⟩, []⟩, ⟨⟨#[97, 98, 111, 114, 116]⟩, 15, 1, ⟨0, 0⟩, []⟩, ⟨⟨#[100, 101, 112, 116, 104]⟩, 16, 1, ⟨2, 0⟩, []⟩, ⟨⟨#[109, 97, 107, 101, 66, 121, 116, 101, 115]⟩, 17, 1, ⟨6, 0⟩, [⟨3, 0⟩, ⟨2, 0⟩]⟩, ⟨⟨#[109, 97, 107, 101, 83, 104, 111, 114, 116, 115]⟩, 18, 1, ⟨7, 0⟩, [⟨3, 0⟩, ⟨2, 0⟩]⟩, ⟨⟨#[115, 104, 97, 114, 101]⟩, 19, 1, ⟨4, 13⟩, [⟨6, 0⟩, ⟨3, 0⟩, ⟨2, 0⟩, ⟨2, 0⟩]⟩, ⟨⟨#[112, 114, 101, 118, 105, 111, 117, 115]⟩, 20, 1, ⟨3, 0⟩, []⟩]⟩, Told.row k129 129 W.heap.size [⟨0, 8, [], [], [⟨⟨#[98, 101, 103, 105, 110]⟩, 13, 1, ⟨0, 0⟩, []⟩, ⟨⟨#[99, 111, 109, 109, 105, 116]⟩, 14, 1, ⟨0, 0⟩, []⟩, ⟨⟨#[97, 98, 111, 114, 116]⟩, 15, 1, ⟨0, 0⟩, []⟩, ⟨⟨#[100, 101, 112, 116, 104]⟩, 16, 1, ⟨2, 0⟩, []⟩, ⟨⟨#[109, 97, 107, 101, 66, 121, 116, 101, 115]⟩, 17, 1, ⟨6, 0⟩, [⟨3, 0⟩, ⟨2, 0⟩]⟩, ⟨⟨#[109, 97, 107, 101, 83, 104, 111, 114, 116, 115]⟩, 18, 1, ⟨7, 0⟩, [⟨3, 0⟩, ⟨2, 0⟩]⟩, ⟨⟨#[115, 104, 97, 114, 101]⟩, 19, 1, ⟨4, 13⟩, [⟨6, 0⟩, ⟨3, 0⟩, ⟨2, 0⟩, ⟨2, 0⟩]⟩, ⟨⟨#[112, 114, 101, 118, 105, 111, 117, 115]⟩, 20, 1, ⟨3, 0⟩, []⟩]⟩]]) (by kernel_rfl) (by kernel_rfl) ?_ ?_
              · refine ⟨?_, ?_, ?_, ?_, ?_, ?_, ?_, ?_, ?_, ?_, ?_, ?_, ?_, ?_, ?_, ?_, ?_, ?_, ?_, ?_, ?_, ?_, ?_, ?_, ?_, ?_, ?_, ?_, ?_, ?_, ?_, trivial⟩
                · intro a' w' hf hb hd
                  have p_ := frame_at hf 8 (.slice (some ⟨g11_, 0, none⟩) 15 cap11_) (by kernel_rfl) rfl
                  have p2_ : a'.tmps[8]?.getD undef = .slice (some ⟨g11_, 0, none⟩) 15 cap11_ := by simpa [Act.eval] using p_
                  exact told_run (v := .slice (some ⟨g11_, 0, none⟩) 15 cap11_) rfl (by go_simp) rfl (Below.refl _ _)
                · intro a' w' hf hb hd
                  have p_ := frame_at hf 1 (.pointer (some ⟨w4.heap.size, 0, none⟩)) (by kernel_rfl) rfl
                  obtain ⟨c0_, c1_⟩ := (hK.out.below (HBR.out.trans (hb.mono HBR.out.size))).c1
                  exact told_run (v := .agg #[.int .u8 0, .int .u16 0]) rfl (by simp [execOp, p_]; go_simp) rfl (Below.refl _ _)
                · intro a' w' hf hb hd
                  have hr_ : a'.eval (.tmp 102) = .agg #[.int .u8 0, .int .u16 0] := hd 1 (by decide)
                  have hr2_ : a'.tmps[102]?.getD undef = .agg #[.int .u8 0, .int .u16 0] := by simpa [Act.eval] using hr_
                  refine told_call rfl (by go_simp) ((nat_static ⟨#[98, 101, 103, 105, 110]⟩ 13 0 0 none 0 0 w').mono ?_)
                  rintro e w2_ ⟨rfl, hb2_⟩
                  exact ⟨_, rfl, ⟨[.string ⟨#[98, 101, 103, 105, 110]⟩, .int .i64 13, .int .u8 1, .int .u8 0, .int .u16 0, .slice none 0 0], rfl, k133_mkM _ _ _ ⟨⟨#[98, 101, 103, 105, 110]⟩, 13, 1, ⟨0, 0⟩, []⟩ (Kd.R_nil _ _ _ _ _)⟩, hb2_⟩
                · intro a' w' hf hb hd
                  have p_ := frame_at hf 1 (.pointer (some ⟨w4.heap.size, 0, none⟩)) (by kernel_rfl) rfl
                  obtain ⟨c0_, c1_⟩ := (hK.out.below (HBR.out.trans (hb.mono HBR.out.size))).c1
                  exact told_run (v := .agg #[.int .u8 0, .int .u16 0]) rfl (by simp [execOp, p_]; go_simp) rfl (Below.refl _ _)
                · intro a' w' hf hb hd
                  have hr_ : a'.eval (.tmp 104) = .agg #[.int .u8 0, .int .u16 0] := hd 3 (by decide)
                  have hr2_ : a'.tmps[104]?.getD undef = .agg #[.int .u8 0, .int .u16 0] := by simpa [Act.eval] using hr_
                  refine told_call rfl (by go_simp) ((nat_static ⟨#[99, 111, 109, 109, 105, 116]⟩ 14 0 0 none 0 0 w').mono ?_)
                  rintro e w2_ ⟨rfl, hb2_⟩
                  exact ⟨_, rfl, ⟨[.string ⟨#[99, 111, 109, 109, 105, 116]⟩, .int .i64 14, .int .u8 1, .int .u8 0, .int .u16 0, .slice none 0 0], rfl, k133_mkM _ _ _ ⟨⟨#[99, 111, 109, 109, 105, 116]⟩, 14, 1, ⟨0, 0⟩, []⟩ (Kd.R_nil _ _ _ _ _)⟩, hb2_⟩
                · intro a' w' hf hb hd
                  have p_ := frame_at hf 1 (.pointer (some ⟨w4.heap.size, 0, none⟩)) (by kernel_rfl) rfl
                  obtain ⟨c0_, c1_⟩ := (hK.out.below (HBR.out.trans (hb.mono HBR.out.size))).c1
                  exact told_run (v := .agg #[.int .u8 0, .int .u16 0]) rfl (by simp [execOp, p_]; go_simp) rfl (Below.refl _ _)
                · intro a' w' hf hb hd
                  have hr_ : a'.eval (.tmp 106) = .agg #[.int .u8 0, .int .u16 0] := hd 5 (by decide)
                  have hr2_ : a'.tmps[106]?.getD undef = .agg #[.int .u8 0, .int .u16 0] := by simpa [Act.eval] using hr_
                  refine told_call rfl (by go_simp) ((nat_static ⟨#[97, 98, 111, 114, 116]⟩ 15 0 0 none 0 0 w').mono ?_)
                  rintro e w2_ ⟨rfl, hb2_⟩
                  exact ⟨_, rfl, ⟨[.string ⟨#[97, 98, 111, 114, 116]⟩, .int .i64 15, .int .u8 1, .int .u8 0, .int .u16 0, .slice none 0 0], rfl, k133_mkM _ _ _ ⟨⟨#[97, 98, 111, 114, 116]⟩, 15, 1, ⟨0, 0⟩, []⟩ (Kd.R_nil _ _ _ _ _)⟩, hb2_⟩
                · intro a' w' hf hb hd
                  have p_ := frame_at hf 3 (.pointer (some ⟨w4.heap.size + 1 + 1, 0, none⟩)) (by kernel_rfl) rfl
                  obtain ⟨c0_, c1_⟩ := (hK.out.below (HBR.out.trans (hb.mono HBR.out.size))).c3
                  exact told_run (v := .agg #[.int .u8 2, .int .u16 0]) rfl (by simp [execOp, p_]; go_simp) rfl (Below.refl _ _)
                · intro a' w' hf hb hd
                  have hr_ : a'.eval (.tmp 108) = .agg #[.int .u8 2, .int .u16 0] := hd 7 (by decide)
                  have hr2_ : a'.tmps[108]?.getD undef = .agg #[.int .u8 2, .int .u16 0] := by simpa [Act.eval] using hr_
                  refine told_call rfl (by go_simp) ((nat_static ⟨#[100, 101, 112, 116, 104]⟩ 16 2 0 none 0 0 w').mono ?_)
                  rintro e w2_ ⟨rfl, hb2_⟩
                  exact ⟨_, rfl, ⟨[.string ⟨#[100, 101, 112, 116, 104]⟩, .int .i64 16, .int .u8 1, .int .u8 2, .int .u16 0, .slice none 0 0], rfl, k133_mkM _ _ _ ⟨⟨#[100, 101, 112, 116, 104]⟩, 16, 1, ⟨2, 0⟩, []⟩ (Kd.R_nil _ _ _ _ _)⟩, hb2_⟩
                · intro a' w' hf hb hd
                  have p_ := frame_at hf 5 (.pointer (some ⟨w7.heap.size, 0, none⟩)) (by kernel_rfl) rfl
                  obtain ⟨c0_, c1_⟩ := (hK.out.below (HBR.out.trans (hb.mono HBR.out.size))).c5
                  exact told_run (v := .agg #[.int .u8 6, .int .u16 0]) rfl (by simp [execOp, p_]; go_simp) rfl (Below.refl _ _)
                · intro a' w' hf hb hd
                  have p_ := frame_at hf 2 (.pointer (some ⟨w4.heap.size + 1, 0, none⟩)) (by kernel_rfl) rfl
                  obtain ⟨c0_, c1_⟩ := (hK.out.below (HBR.out.trans (hb.mono HBR.out.size))).c2
                  exact told_run (v := .agg #[.int .u8 3, .int .u16 0]) rfl (by simp [execOp, p_]; go_simp) rfl (Below.refl _ _)
                · intro a' w' hf hb hd
                  have p_ := frame_at hf 3 (.pointer (some ⟨w4.heap.size + 1 + 1, 0, none⟩)) (by kernel_rfl) rfl
                  obtain ⟨c0_, c1_⟩ := (hK.out.below (HBR.out.trans (hb.mono HBR.out.size))).c3
                  exact told_run (v := .agg #[.int .u8 2, .int .u16 0]) rfl (by simp [execOp, p_]; go_simp) rfl (Below.refl _ _)
                · intro a' w' hf hb hd
                  have h0_ : a'.eval (.tmp 111) = .agg #[.int .u8 3, .int .u16 0] := hd 10 (by decide)
                  have h1_ : a'.eval (.tmp 112) = .agg #[.int .u8 2, .int .u16 0] := hd 11 (by decide)
                  have hu_ := Try.underlying80
                  have hreps_ : Reps (k30.M w' W.heap.size (fun _ => True)) k30.sz _ _ := (reps_snoc (reps_one (by rfl) (k30_mkM w' W.heap.size (fun _ => True) ⟨3, 0⟩)) (by rfl) (k30_mkM w' W.heap.size (fun _ => True) ⟨2, 0⟩))
                  simp only [List.cons_append, List.nil_append] at hreps_
                  exact told_lit k30 30 W.heap.size (xs := [⟨3, 0⟩, ⟨2, 0⟩]) (inner := [.int .u8 3, .int .u16 0, .int .u8 2, .int .u16 0]) rfl (by simp [execOp, h0_, h1_]; first | (go_simp; done) | (go_simp; rfl)) hreps_ (by have := (HBR.out.trans (hb.mono HBR.out.size)).size; omega) (by decide)
                · intro a' w' hf hb hd
                  have hr_ : a'.eval (.tmp 110) = .agg #[.int .u8 6, .int .u16 0] := hd 9 (by decide)
                  have hr2_ : a'.tmps[110]?.getD undef = .agg #[.int .u8 6, .int .u16 0] := by simpa [Act.eval] using hr_
                  have r_ : k30.R 30 w' W.heap.size (fun _ => True) (a'.eval (.tmp 113)) [⟨3, 0⟩, ⟨2, 0⟩] := hd 12 (by decide)
                  obtain ⟨A_, c_, hv_⟩ := Kd.R_slice r_
                  rw [hv_] at r_
                  have hv2_ : a'.tmps[113]?.getD undef = .slice A_ 2 c_ := by simpa [Act.eval] using hv_
                  refine told_call rfl (by go_simp) ((nat_static ⟨#[109, 97, 107, 101, 66, 121, 116, 101, 115]⟩ 17 6 0 A_ 2 c_ w').mono ?_)
                  rintro e w2_ ⟨rfl, hb2_⟩
                  exact ⟨_, rfl, ⟨[.string ⟨#[109, 97, 107, 101, 66, 121, 116, 101, 115]⟩, .int .i64 17, .int .u8 1, .int .u8 6, .int .u16 0, .slice A_ 2 c_], rfl, k133_mkM _ _ _ ⟨⟨#[109, 97, 107, 101, 66, 121, 116, 101, 115]⟩, 17, 1, ⟨6, 0⟩, [⟨3, 0⟩, ⟨2, 0⟩]⟩ (Kd.R_below r_ hb2_)⟩, hb2_⟩
                · intro a' w' hf hb hd
                  have p_ := frame_at hf 6 (.pointer (some ⟨w7.heap.size + 1, 0, none⟩)) (by kernel_rfl) rfl
                  obtain ⟨c0_, c1_⟩ := (hK.out.below (HBR.out.trans (hb.mono HBR.out.size))).c6
                  exact told_run (v := .agg #[.int .u8 7, .int .u16 0]) rfl (by simp [execOp, p_]; go_simp) rfl (Below.refl _ _)
                · intro a' w' hf hb hd
                  have p_ := frame_at hf 2 (.pointer (some ⟨w4.heap.size + 1, 0, none⟩)) (by kernel_rfl) rfl
                  obtain ⟨c0_, c1_⟩ := (hK.out.below (HBR.out.trans (hb.mono HBR.out.size))).c2
                  exact told_run (v := .agg #[.int .u8 3, .int .u16 0]) rfl (by simp [execOp, p_]; go_simp) rfl (Below.refl _ _)
                · intro a' w' hf hb hd
                  have p_ := frame_at hf 3 (.pointer (some ⟨w4.heap.size + 1 + 1, 0, none⟩)) (by kernel_rfl) rfl
                  obtain ⟨c0_, c1_⟩ := (hK.out.below (HBR.out.trans (hb.mono HBR.out.size))).c3
                  exact told_run (v := .agg #[.int .u8 2, .int .u16 0]) rfl (by simp [execOp, p_]; go_simp) rfl (Below.refl _ _)
                · intro a' w' hf hb hd
                  have h0_ : a'.eval (.tmp 116) = .agg #[.int .u8 3, .int .u16 0] := hd 15 (by decide)
                  have h1_ : a'.eval (.tmp 117) = .agg #[.int .u8 2, .int .u16 0] := hd 16 (by decide)
                  have hu_ := Try.underlying80
                  have hreps_ : Reps (k30.M w' W.heap.size (fun _ => True)) k30.sz _ _ := (reps_snoc (reps_one (by rfl) (k30_mkM w' W.heap.size (fun _ => True) ⟨3, 0⟩)) (by rfl) (k30_mkM w' W.heap.size (fun _ => True) ⟨2, 0⟩))
                  simp only [List.cons_append, List.nil_append] at hreps_
                  exact told_lit k30 30 W.heap.size (xs := [⟨3, 0⟩, ⟨2, 0⟩]) (inner := [.int .u8 3, .int .u16 0, .int .u8 2, .int .u16 0]) rfl (by simp [execOp, h0_, h1_]; first | (go_simp; done) | (go_simp; rfl)) hreps_ (by have := (HBR.out.trans (hb.mono HBR.out.size)).size; omega) (by decide)
                · intro a' w' hf hb hd
                  have hr_ : a'.eval (.tmp 115) = .agg #[.int .u8 7, .int .u16 0] := hd 14 (by decide)
                  have hr2_ : a'.tmps[115]?.getD undef = .agg #[.int .u8 7, .int .u16 0] := by simpa [Act.eval] using hr_
                  have r_ : k30.R 30 w' W.heap.size (fun _ => True) (a'.eval (.tmp 118)) [⟨3, 0⟩, ⟨2, 0⟩] := hd 17 (by decide)
                  obtain ⟨A_, c_, hv_⟩ := Kd.R_slice r_
                  rw [hv_] at r_
                  have hv2_ : a'.tmps[118]?.getD undef = .slice A_ 2 c_ := by simpa [Act.eval] using hv_
                  refine told_call rfl (by go_simp) ((nat_static ⟨#[109, 97, 107, 101, 83, 104, 111, 114, 116, 115]⟩ 18 7 0 A_ 2 c_ w').mono ?_)
                  rintro e w2_ ⟨rfl, hb2_⟩
                  exact ⟨_, rfl, ⟨[.string ⟨#[109, 97, 107, 101, 83, 104, 111, 114, 116, 115]⟩, .int .i64 18, .int .u8 1, .int .u8 7, .int .u16 0, .slice A_ 2 c_], rfl, k133_mkM _ _ _ ⟨⟨#[109, 97, 107, 101, 83, 104, 111, 114, 116, 115]⟩, 18, 1, ⟨7, 0⟩, [⟨3, 0⟩, ⟨2, 0⟩]⟩ (Kd.R_below r_ hb2_)⟩, hb2_⟩
                · intro a' w' hf hb hd
                  have p_ := frame_at hf 7 (.pointer (some ⟨w7.heap.size + 1 + 1, 0, none⟩)) (by kernel_rfl) rfl
                  obtain ⟨c0_, c1_⟩ := (hK.out.below (HBR.out.trans (hb.mono HBR.out.size))).c7
                  exact told_run (v := .agg #[.int .u8 4, .int .u16 13]) rfl (by simp [execOp, p_]; go_simp) rfl (Below.refl _ _)
                · intro a' w' hf hb hd
                  have p_ := frame_at hf 5 (.pointer (some ⟨w7.heap.size, 0, none⟩)) (by kernel_rfl) rfl
                  obtain ⟨c0_, c1_⟩ := (hK.out.below (HBR.out.trans (hb.mono HBR.out.size))).c5
                  exact told_run (v := .agg #[.int .u8 6, .int .u16 0]) rfl (by simp [execOp, p_]; go_simp) rfl (Below.refl _ _)
                · intro a' w' hf hb hd
                  have p_ := frame_at hf 2 (.pointer (some ⟨w4.heap.size + 1, 0, none⟩)) (by kernel_rfl) rfl
                  obtain ⟨c0_, c1_⟩ := (hK.out.below (HBR.out.trans (hb.mono HBR.out.size))).c2
                  exact told_run (v := .agg #[.int .u8 3, .int .u16 0]) rfl (by simp [execOp, p_]; go_simp) rfl (Below.refl _ _)
                · intro a' w' hf hb hd
                  have p_ := frame_at hf 3 (.pointer (some ⟨w4.heap.size + 1 + 1, 0, none⟩)) (by kernel_rfl) rfl
                  obtain ⟨c0_, c1_⟩ := (hK.out.below (HBR.out.trans (hb.mono HBR.out.size))).c3
                  exact told_run (v := .agg #[.int .u8 2, .int .u16 0]) rfl (by simp [execOp, p_]; go_simp) rfl (Below.refl _ _)
                · intro a' w' hf hb hd
                  have p_ := frame_at hf 3 (.pointer (some ⟨w4.heap.size + 1 + 1, 0, none⟩)) (by kernel_rfl) rfl
                  obtain ⟨c0_, c1_⟩ := (hK.out.below (HBR.out.trans (hb.mono HBR.out.size))).c3
                  exact told_run (v := .agg #[.int .u8 2, .int .u16 0]) rfl (by simp [execOp, p_]; go_simp) rfl (Below.refl _ _)
                · intro a' w' hf hb hd
                  have h0_ : a'.eval (.tmp 121) = .agg #[.int .u8 6, .int .u16 0] := hd 20 (by decide)
                  have h1_ : a'.eval (.tmp 122) = .agg #[.int .u8 3, .int .u16 0] := hd 21 (by decide)
                  have h2_ : a'.eval (.tmp 123) = .agg #[.int .u8 2, .int .u16 0] := hd 22 (by decide)
                  have h3_ : a'.eval (.tmp 124) = .agg #[.int .u8 2, .int .u16 0] := hd 23 (by decide)
                  have hu_ := Try.underlying80
                  have hreps_ : Reps (k30.M w' W.heap.size (fun _ => True)) k30.sz _ _ := (reps_snoc (reps_snoc (reps_snoc (reps_one (by rfl) (k30_mkM w' W.heap.size (fun _ => True) ⟨6, 0⟩)) (by rfl) (k30_mkM w' W.heap.size (fun _ => True) ⟨3, 0⟩)) (by rfl) (k30_mkM w' W.heap.size (fun _ => True) ⟨2, 0⟩)) (by rfl) (k30_mkM w' W.heap.size (fun _ => True) ⟨2, 0⟩))
                  simp only [List.cons_append, List.nil_append] at hreps_
                  exact told_lit k30 30 W.heap.size (xs := [⟨6, 0⟩, ⟨3, 0⟩, ⟨2, 0⟩, ⟨2, 0⟩]) (inner := [.int .u8 6, .int .u16 0, .int .u8 3, .int .u16 0, .int .u8 2, .int .u16 0, .int .u8 2, .int .u16 0]) rfl (by simp [execOp, h0_, h1_, h2_, h3_]; first | (go_simp; done) | (go_simp; rfl)) hreps_ (by have := (HBR.out.trans (hb.mono HBR.out.size)).size; omega) (by decide)
                · intro a' w' hf hb hd
                  have hr_ : a'.eval (.tmp 120) = .agg #[.int .u8 4, .int .u16 13] := hd 19 (by decide)
                  have hr2_ : a'.tmps[120]?.getD undef = .agg #[.int .u8 4, .int .u16 13] := by simpa [Act.eval] using hr_
                  have r_ : k30.R 30 w' W.heap.size (fun _ => True) (a'.eval (.tmp 125)) [⟨6, 0⟩, ⟨3, 0⟩, ⟨2, 0⟩, ⟨2, 0⟩] := hd 24 (by decide)
                  obtain ⟨A_, c_, hv_⟩ := Kd.R_slice r_
                  rw [hv_] at r_
                  have hv2_ : a'.tmps[125]?.getD undef = .slice A_ 4 c_ := by simpa [Act.eval] using hv_
                  refine told_call rfl (by go_simp) ((nat_static ⟨#[115, 104, 97, 114, 101]⟩ 19 4 13 A_ 4 c_ w').mono ?_)
                  rintro e w2_ ⟨rfl, hb2_⟩
                  exact ⟨_, rfl, ⟨[.string ⟨#[115, 104, 97, 114, 101]⟩, .int .i64 19, .int .u8 1, .int .u8 4, .int .u16 13, .slice A_ 4 c_], rfl, k133_mkM _ _ _ ⟨⟨#[115, 104, 97, 114, 101]⟩, 19, 1, ⟨4, 13⟩, [⟨6, 0⟩, ⟨3, 0⟩, ⟨2, 0⟩, ⟨2, 0⟩]⟩ (Kd.R_below r_ hb2_)⟩, hb2_⟩
                · intro a' w' hf hb hd
                  have p_ := frame_at hf 2 (.pointer (some ⟨w4.heap.size + 1, 0, none⟩)) (by kernel_rfl) rfl
                  obtain ⟨c0_, c1_⟩ := (hK.out.below (HBR.out.trans (hb.mono HBR.out.size))).c2
                  exact told_run (v := .agg #[.int .u8 3, .int .u16 0]) rfl (by simp [execOp, p_]; go_simp) rfl (Below.refl _ _)
                · intro a' w' hf hb hd
                  have hr_ : a'.eval (.tmp 127) = .agg #[.int .u8 3, .int .u16 0] := hd 26 (by decide)
                  have hr2_ : a'.tmps[127]?.getD undef = .agg #[.int .u8 3, .int .u16 0] := by simpa [Act.eval] using hr_
                  refine told_call rfl (by go_simp) ((nat_static ⟨#[112, 114, 101, 118, 105, 111, 117, 115]⟩ 20 3 0 none 0 0 w').mono ?_)
                  rintro e w2_ ⟨rfl, hb2_⟩
                  exact ⟨_, rfl, ⟨[.string ⟨#[112, 114, 101, 118, 105, 111, 117, 115]⟩, .int .i64 20, .int .u8 1, .int .u8 3, .int .u16 0, .slice none 0 0], rfl, k133_mkM _ _ _ ⟨⟨#[112, 114, 101, 118, 105, 111, 117, 115]⟩, 20, 1, ⟨3, 0⟩, []⟩ (Kd.R_nil _ _ _ _ _)⟩, hb2_⟩
                · intro a' w' hf hb hd
                  obtain ⟨cs0_, h0_, m0_⟩ : (Told.agg k133 W.heap.size ⟨⟨#[98, 101, 103, 105, 110]⟩, 13, 1, ⟨0, 0⟩, []⟩).p (a'.eval (.tmp 103)) w' := hd 2 (by decide)
                  obtain ⟨v0_, rfl, g0_⟩ := k133_openM m0_
                  obtain ⟨A0_, c0_, e0_⟩ := Kd.R_slice g0_
                  subst e0_
                  obtain ⟨cs1_, h1_, m1_⟩ : (Told.agg k133 W.heap.size ⟨⟨#[99, 111, 109, 109, 105, 116]⟩, 14, 1, ⟨0, 0⟩, []⟩).p (a'.eval (.tmp 105)) w' := hd 4 (by decide)
                  obtain ⟨v1_, rfl, g1_⟩ := k133_openM m1_
                  obtain ⟨A1_, c1_, e1_⟩ := Kd.R_slice g1_
                  subst e1_
                  obtain ⟨cs2_, h2_, m2_⟩ : (Told.agg k133 W.heap.size ⟨⟨#[97, 98, 111, 114, 116]⟩, 15, 1, ⟨0, 0⟩, []⟩).p (a'.eval (.tmp 107)) w' := hd 6 (by decide)
                  obtain ⟨v2_, rfl, g2_⟩ := k133_openM m2_
                  obtain ⟨A2_, c2_, e2_⟩ := Kd.R_slice g2_
                  subst e2_
                  obtain ⟨cs3_, h3_, m3_⟩ : (Told.agg k133 W.heap.size ⟨⟨#[100, 101, 112, 116, 104]⟩, 16, 1, ⟨2, 0⟩, []⟩).p (a'.eval (.tmp 109)) w' := hd 8 (by decide)
                  obtain ⟨v3_, rfl, g3_⟩ := k133_openM m3_
                  obtain ⟨A3_, c3_, e3_⟩ := Kd.R_slice g3_
                  subst e3_
                  obtain ⟨cs4_, h4_, m4_⟩ : (Told.agg k133 W.heap.size ⟨⟨#[109, 97, 107, 101, 66, 121, 116, 101, 115]⟩, 17, 1, ⟨6, 0⟩, [⟨3, 0⟩, ⟨2, 0⟩]⟩).p (a'.eval (.tmp 114)) w' := hd 13 (by decide)
                  obtain ⟨v4_, rfl, g4_⟩ := k133_openM m4_
                  obtain ⟨A4_, c4_, e4_⟩ := Kd.R_slice g4_
                  subst e4_
                  obtain ⟨cs5_, h5_, m5_⟩ : (Told.agg k133 W.heap.size ⟨⟨#[109, 97, 107, 101, 83, 104, 111, 114, 116, 115]⟩, 18, 1, ⟨7, 0⟩, [⟨3, 0⟩, ⟨2, 0⟩]⟩).p (a'.eval (.tmp 119)) w' := hd 18 (by decide)
                  obtain ⟨v5_, rfl, g5_⟩ := k133_openM m5_
                  obtain ⟨A5_, c5_, e5_⟩ := Kd.R_slice g5_
                  subst e5_
                  obtain ⟨cs6_, h6_, m6_⟩ : (Told.agg k133 W.heap.size ⟨⟨#[115, 104, 97, 114, 101]⟩, 19, 1, ⟨4, 13⟩, [⟨6, 0⟩, ⟨3, 0⟩, ⟨2, 0⟩, ⟨2, 0⟩]⟩).p (a'.eval (.tmp 126)) w' := hd 25 (by decide)
                  obtain ⟨v6_, rfl, g6_⟩ := k133_openM m6_
                  obtain ⟨A6_, c6_, e6_⟩ := Kd.R_slice g6_
                  subst e6_
                  obtain ⟨cs7_, h7_, m7_⟩ : (Told.agg k133 W.heap.size ⟨⟨#[112, 114, 101, 118, 105, 111, 117, 115]⟩, 20, 1, ⟨3, 0⟩, []⟩).p (a'.eval (.tmp 128)) w' := hd 27 (by decide)
                  obtain ⟨v7_, rfl, g7_⟩ := k133_openM m7_
                  obtain ⟨A7_, c7_, e7_⟩ := Kd.R_slice g7_
                  subst e7_
                  have hu_ := Try.underlying127
                  have hreps_ : Reps (k133.M w' W.heap.size (fun _ => True)) k133.sz _ _ := (reps_snoc (reps_snoc (reps_snoc (reps_snoc (reps_snoc (reps_snoc (reps_snoc (reps_one (by rfl) m0_) (by rfl) m1_) (by rfl) m2_) (by rfl) m3_) (by rfl) m4_) (by rfl) m5_) (by rfl) m6_) (by rfl) m7_)
                  simp only [List.cons_append, List.nil_append] at hreps_
                  exact told_lit k133 133 W.heap.size (xs := [⟨⟨#[98, 101, 103, 105, 110]⟩, 13, 1, ⟨0, 0⟩, []⟩, ⟨⟨#[99, 111, 109, 109, 105, 116]⟩, 14, 1, ⟨0, 0⟩, []⟩, ⟨⟨#[97, 98, 111, 114, 116]⟩, 15, 1, ⟨0, 0⟩, []⟩, ⟨⟨#[100, 101, 112, 116, 104]⟩, 16, 1, ⟨2, 0⟩, []⟩, ⟨⟨#[109, 97, 107, 101, 66, 121, 116, 101, 115]⟩, 17, 1, ⟨6, 0⟩, [⟨3, 0⟩, ⟨2, 0⟩]⟩, ⟨⟨#[109, 97, 107, 101, 83, 104, 111, 114, 116, 115]⟩, 18, 1, ⟨7, 0⟩, [⟨3, 0⟩, ⟨2, 0⟩]⟩, ⟨⟨#[115, 104, 97, 114, 101]⟩, 19, 1, ⟨4, 13⟩, [⟨6, 0⟩, ⟨3, 0⟩, ⟨2, 0⟩, ⟨2, 0⟩]⟩, ⟨⟨#[112, 114, 101, 118, 105, 111, 117, 115]⟩, 20, 1, ⟨3, 0⟩, []⟩]) (inner := [.string ⟨#[98, 101, 103, 105, 110]⟩, .int .i64 13, .int .u8 1, .int .u8 0, .int .u16 0, .slice A0_ 0 c0_, .string ⟨#[99, 111, 109, 109, 105, 116]⟩, .int .i64 14, .int .u8 1, .int .u8 0, .int .u16 0, .slice A1_ 0 c1_, .string ⟨#[97, 98, 111, 114, 116]⟩, .int .i64 15, .int .u8 1, .int .u8 0, .int .u16 0, .slice A2_ 0 c2_, .string ⟨#[100, 101, 112, 116, 104]⟩, .int .i64 16, .int .u8 1, .int .u8 2, .int .u16 0, .slice A3_ 0 c3_, .string ⟨#[109, 97, 107, 101, 66, 121, 116, 101, 115]⟩, .int .i64 17, .int .u8 1, .int .u8 6, .int .u16 0, .slice A4_ 2 c4_, .string ⟨#[109, 97, 107, 101, 83, 104, 111, 114, 116, 115]⟩, .int .i64 18, .int .u8 1, .int .u8 7, .int .u16 0, .slice A5_ 2 c5_, .string ⟨#[115, 104, 97, 114, 101]⟩, .int .i64 19, .int .u8 1, .int .u8 4, .int .u16 13, .slice A6_ 4 c6_, .string ⟨#[112, 114, 101, 118, 105, 111, 117, 115]⟩, .int .i64 20, .int .u8 1, .int .u8 3, .int .u16 0, .slice A7_ 0 c7_]) rfl (by simp [execOp, h0_, h1_, h2_, h3_, h4_, h5_, h6_, h7_]; first | (go_simp; done) | (go_simp; rfl)) hreps_ (by have := (HBR.out.trans (hb.mono HBR.out.size)).size; omega) (by decide)
                · intro a' w' hf hb hd
                  have o_ : k133.R 133 w' W.heap.size (fun _ => True) (a'.eval (.tmp 129)) [⟨⟨#[98, 101, 103, 105, 110]⟩, 13, 1, ⟨0, 0⟩, []⟩, ⟨⟨#[99, 111, 109, 109, 105, 116]⟩, 14, 1, ⟨0, 0⟩, []⟩, ⟨⟨#[97, 98, 111, 114, 116]⟩, 15, 1, ⟨0, 0⟩, []⟩, ⟨⟨#[100, 101, 112, 116, 104]⟩, 16, 1, ⟨2, 0⟩, []⟩, ⟨⟨#[109, 97, 107, 101, 66, 121, 116, 101, 115]⟩, 17, 1, ⟨6, 0⟩, [⟨3, 0⟩, ⟨2, 0⟩]⟩, ⟨⟨#[109, 97, 107, 101, 83, 104, 111, 114, 116, 115]⟩, 18, 1, ⟨7, 0⟩, [⟨3, 0⟩, ⟨2, 0⟩]⟩, ⟨⟨#[115, 104, 97, 114, 101]⟩, 19, 1, ⟨4, 13⟩, [⟨6, 0⟩, ⟨3, 0⟩, ⟨2, 0⟩, ⟨2, 0⟩]⟩, ⟨⟨#[112, 114, 101, 118, 105, 111, 117, 115]⟩, 20, 1, ⟨3, 0⟩, []⟩] := hd 28 (by decide)
                  obtain ⟨Ao_, co_, eo_⟩ := Kd.R_slice o_
                  rw [eo_] at o_
                  have hu_ := Try.underlying129
                  exact told_run (v := .agg #[.int .i64 0, .int .u8 8, .slice none 0 0, .slice none 0 0, .slice Ao_ _ co_]) rfl (by simp [execOp, eo_]; go_simp) ⟨[.int .i64 0, .int .u8 8, .slice none 0 0, .slice none 0 0, .slice Ao_ _ co_], rfl, k129_mkM _ _ _ ⟨0, 8, [], [], [⟨⟨#[98, 101, 103, 105, 110]⟩, 13, 1, ⟨0, 0⟩, []⟩, ⟨⟨#[99, 111, 109, 109, 105, 116]⟩, 14, 1, ⟨0, 0⟩, []⟩, ⟨⟨#[97, 98, 111, 114, 116]⟩, 15, 1, ⟨0, 0⟩, []⟩, ⟨⟨#[100, 101, 112, 116, 104]⟩, 16, 1, ⟨2, 0⟩, []⟩, ⟨⟨#[109, 97, 107, 101, 66, 121, 116, 101, 115]⟩, 17, 1, ⟨6, 0⟩, [⟨3, 0⟩, ⟨2, 0⟩]⟩, ⟨⟨#[109, 97, 107, 101, 83, 104, 111, 114, 116, 115]⟩, 18, 1, ⟨7, 0⟩, [⟨3, 0⟩, ⟨2, 0⟩]⟩, ⟨⟨#[115, 104, 97, 114, 101]⟩, 19, 1, ⟨4, 13⟩, [⟨6, 0⟩, ⟨3, 0⟩, ⟨2, 0⟩, ⟨2, 0⟩]⟩, ⟨⟨#[112, 114, 101, 118, 105, 111, 117, 115]⟩, 20, 1, ⟨3, 0⟩, []⟩]⟩ (Kd.R_nil _ _ _ _ _) (Kd.R_nil _ _ _ _ _) o_⟩ (Below.refl _ _)
                · intro a' w' hf hb hd
                  obtain ⟨cs0_, h0_, m0_⟩ : (Told.agg k129 W.heap.size ⟨0, 8, [], [], [⟨⟨#[98, 101, 103, 105, 110]⟩, 13, 1, ⟨0, 0⟩, []⟩, ⟨⟨#[99, 111, 109, 109, 105, 116]⟩, 14, 1, ⟨0, 0⟩, []⟩, ⟨⟨#[97, 98, 111, 114, 116]⟩, 15, 1, ⟨0, 0⟩, []⟩, ⟨⟨#[100, 101, 112, 116, 104]⟩, 16, 1, ⟨2, 0⟩, []⟩, ⟨⟨#[109, 97, 107, 101, 66, 121, 116, 101, 115]⟩, 17, 1, ⟨6, 0⟩, [⟨3, 0⟩, ⟨2, 0⟩]⟩, ⟨⟨#[109, 97, 107, 101, 83, 104, 111, 114, 116, 115]⟩, 18, 1, ⟨7, 0⟩, [⟨3, 0⟩, ⟨2, 0⟩]⟩, ⟨⟨#[115, 104, 97, 114, 101]⟩, 19, 1, ⟨4, 13⟩, [⟨6, 0⟩, ⟨3, 0⟩, ⟨2, 0⟩, ⟨2, 0⟩]⟩, ⟨⟨#[112, 114, 101, 118, 105, 111, 117, 115]⟩, 20, 1, ⟨3, 0⟩, []⟩]⟩).p (a'.eval (.tmp 130)) w' := hd 29 (by decide)
                  obtain ⟨v0_, x0_, y0_, rfl, g0_, i0_, j0_⟩ := k129_openM m0_
                  obtain ⟨Ag0_, cg0_, eg0_⟩ := Kd.R_slice g0_
                  subst eg0_
                  obtain ⟨Ai0_, ci0_, ei0_⟩ := Kd.R_slice i0_
                  subst ei0_
                  obtain ⟨Aj0_, cj0_, ej0_⟩ := Kd.R_slice j0_
                  subst ej0_
                  have hu_ := Try.underlying125
                  have hreps_ : Reps (k129.M w' W.heap.size (fun _ => True)) k129.sz _ _ := (reps_one (by rfl) m0_)
                  exact told_lit k129 129 W.heap.size (xs := [⟨0, 8, [], [], [⟨⟨#[98, 101, 103, 105, 110]⟩, 13, 1, ⟨0, 0⟩, []⟩, ⟨⟨#[99, 111, 109, 109, 105, 116]⟩, 14, 1, ⟨0, 0⟩, []⟩, ⟨⟨#[97, 98, 111, 114, 116]⟩, 15, 1, ⟨0, 0⟩, []⟩, ⟨⟨#[100, 101, 112, 116, 104]⟩, 16, 1, ⟨2, 0⟩, []⟩, ⟨⟨#[109, 97, 107, 101, 66, 121, 116, 101, 115]⟩, 17, 1, ⟨6, 0⟩, [⟨3, 0⟩, ⟨2, 0⟩]⟩, ⟨⟨#[109, 97, 107, 101, 83, 104, 111, 114, 116, 115]⟩, 18, 1, ⟨7, 0⟩, [⟨3, 0⟩, ⟨2, 0⟩]⟩, ⟨⟨#[115, 104, 97, 114, 101]⟩, 19, 1, ⟨4, 13⟩, [⟨6, 0⟩, ⟨3, 0⟩, ⟨2, 0⟩, ⟨2, 0⟩]⟩, ⟨⟨#[112, 114, 101, 118, 105, 111, 117, 115]⟩, 20, 1, ⟨3, 0⟩, []⟩]⟩]) (inner := [.int .i64 0, .int .u8 8, .slice Ag0_ 0 cg0_, .slice Ai0_ 0 ci0_, .slice Aj0_ 8 cj0_]) rfl (by simp [execOp, h0_]; first | (go_simp; done) | (go_simp; rfl)) hreps_ (by have := (HBR.out.trans (hb.mono HBR.out.size)).size; omega) (by decide)
              · intro a' w' hf hb hd
                have hmov_ : (Told.val (.slice (some ⟨g11_, 0, none⟩) 15 cap11_)).p (a'.eval (.tmp 101)) w' := hd 0 (by simp)
                have hrow_ : (Told.row k129 129 W.heap.size [⟨0, 8, [], [], [⟨⟨#[98, 101, 103, 105, 110]⟩, 13, 1, ⟨0, 0⟩, []⟩, ⟨⟨#[99, 111, 109, 109, 105, 116]⟩, 14, 1, ⟨0, 0⟩, []⟩, ⟨⟨#[97, 98, 111, 114, 116]⟩, 15, 1, ⟨0, 0⟩, []⟩, ⟨⟨#[100, 101, 112, 116, 104]⟩, 16, 1, ⟨2, 0⟩, []⟩, ⟨⟨#[109, 97, 107, 101, 66, 121, 116, 101, 115]⟩, 17, 1, ⟨6, 0⟩, [⟨3, 0⟩, ⟨2, 0⟩]⟩, ⟨⟨#[109, 97, 107, 101, 83, 104, 111, 114, 116, 115]⟩, 18, 1, ⟨7, 0⟩, [⟨3, 0⟩, ⟨2, 0⟩]⟩, ⟨⟨#[115, 104, 97, 114, 101]⟩, 19, 1, ⟨4, 13⟩, [⟨6, 0⟩, ⟨3, 0⟩, ⟨2, 0⟩, ⟨2, 0⟩]⟩, ⟨⟨#[112, 114, 101, 118, 105, 111, 117, 115]⟩, 20, 1, ⟨3, 0⟩, []⟩]⟩]).p (a'.eval (.tmp 131)) w' := hd 30 (by simp)
                have ha := act_of_frame hf [101, 102, 103, 104, 105, 106, 107, 108, 109, 110, 111, 112, 113, 114, 115, 116, 117, 118, 119, 120, 121, 122, 123, 124, 125, 126, 127, 128, 129, 130, 131] (by kernel_rfl) (by kernel_rfl)
                obtain ⟨u101, hu101⟩ : ∃ u, a'.eval (.tmp 101) = u := ⟨_, rfl⟩
                obtain ⟨u102, hu102⟩ : ∃ u, a'.eval (.tmp 102) = u := ⟨_, rfl⟩
                obtain ⟨u103, hu103⟩ : ∃ u, a'.eval (.tmp 103) = u := ⟨_, rfl⟩
                obtain ⟨u104, hu104⟩ : ∃ u, a'.eval (.tmp 104) = u := ⟨_, rfl⟩
                obtain ⟨u105, hu105⟩ : ∃ u, a'.eval (.tmp 105) = u := ⟨_, rfl⟩
                obtain ⟨u106, hu106⟩ : ∃ u, a'.eval (.tmp 106) = u := ⟨_, rfl⟩
                obtain ⟨u107, hu107⟩ : ∃ u, a'.eval (.tmp 107) = u := ⟨_, rfl⟩
                obtain ⟨u108, hu108⟩ : ∃ u, a'.eval (.tmp 108) = u := ⟨_, rfl⟩
                obtain ⟨u109, hu109⟩ : ∃ u, a'.eval (.tmp 109) = u := ⟨_, rfl⟩
                obtain ⟨u110, hu110⟩ : ∃ u, a'.eval (.tmp 110) = u := ⟨_, rfl⟩
                obtain ⟨u111, hu111⟩ : ∃ u, a'.eval (.tmp 111) = u := ⟨_, rfl⟩
                obtain ⟨u112, hu112⟩ : ∃ u, a'.eval (.tmp 112) = u := ⟨_, rfl⟩
                obtain ⟨u113, hu113⟩ : ∃ u, a'.eval (.tmp 113) = u := ⟨_, rfl⟩
                obtain ⟨u114, hu114⟩ : ∃ u, a'.eval (.tmp 114) = u := ⟨_, rfl⟩
                obtain ⟨u115, hu115⟩ : ∃ u, a'.eval (.tmp 115) = u := ⟨_, rfl⟩
                obtain ⟨u116, hu116⟩ : ∃ u, a'.eval (.tmp 116) = u := ⟨_, rfl⟩
                obtain ⟨u117, hu117⟩ : ∃ u, a'.eval (.tmp 117) = u := ⟨_, rfl⟩
                obtain ⟨u118, hu118⟩ : ∃ u, a'.eval (.tmp 118) = u := ⟨_, rfl⟩
                obtain ⟨u119, hu119⟩ : ∃ u, a'.eval (.tmp 119) = u := ⟨_, rfl⟩
                obtain ⟨u120, hu120⟩ : ∃ u, a'.eval (.tmp 120) = u := ⟨_, rfl⟩
                obtain ⟨u121, hu121⟩ : ∃ u, a'.eval (.tmp 121) = u := ⟨_, rfl⟩
                obtain ⟨u122, hu122⟩ : ∃ u, a'.eval (.tmp 122) = u := ⟨_, rfl⟩
                obtain ⟨u123, hu123⟩ : ∃ u, a'.eval (.tmp 123) = u := ⟨_, rfl⟩
                obtain ⟨u124, hu124⟩ : ∃ u, a'.eval (.tmp 124) = u := ⟨_, rfl⟩
                obtain ⟨u125, hu125⟩ : ∃ u, a'.eval (.tmp 125) = u := ⟨_, rfl⟩
                obtain ⟨u126, hu126⟩ : ∃ u, a'.eval (.tmp 126) = u := ⟨_, rfl⟩
                obtain ⟨u127, hu127⟩ : ∃ u, a'.eval (.tmp 127) = u := ⟨_, rfl⟩
                obtain ⟨u128, hu128⟩ : ∃ u, a'.eval (.tmp 128) = u := ⟨_, rfl⟩
                obtain ⟨u129, hu129⟩ : ∃ u, a'.eval (.tmp 129) = u := ⟨_, rfl⟩
                obtain ⟨u130, hu130⟩ : ∃ u, a'.eval (.tmp 130) = u := ⟨_, rfl⟩
                obtain ⟨u131, hu131⟩ : ∃ u, a'.eval (.tmp 131) = u := ⟨_, rfl⟩
                rw [hu101] at hmov_
                rw [hu131] at hrow_
                simp only [List.foldl_cons, List.foldl_nil, List.setIfInBounds_toArray, List.set_cons_succ, List.set_cons_zero, hu101, hu102, hu103, hu104, hu105, hu106, hu107, hu108, hu109, hu110, hu111, hu112, hu113, hu114, hu115, hu116, hu117, hu118, hu119, hu120, hu121, hu122, hu123, hu124, hu125, hu126, hu127, hu128, hu129, hu130, hu131] at ha
                clear hf hd hu101 hu102 hu103 hu104 hu105 hu106 hu107 hu108 hu109 hu110 hu111 hu112 hu113 hu114 hu115 hu116 hu117 hu118 hu119 hu120 hu121 hu122 hu123 hu124 hu125 hu126 hu127 hu128 hu129 hu130 hu131
                subst ha
                obtain rfl : _ = u101 := hmov_.symm
                have HX := Aside0.mk hrow_
                have HO := Aside0.mk (Kd.R_below hR.out hb)
                have HB := Aside0.mk (HBR.out.trans (hb.mono HBR.out.size))
                have hN : W.heap.size ≤ w'.heap.size := HB.out.size
                clear hR HBR hb hrow_ hmov_
                simp only [List.length_cons, List.length_nil, Nat.reduceAdd, List.drop_succ_cons, List.drop_zero]
                go_wp2_with (at_builtin; refine told_append k129 (w0 := W) W.heap.size rfl (.tmp 101) (.tmp 131) 125 129 _ 88 rfl Try.underlying125 info129 rfl (by decide) (by decide) (by decide) g11_ 15 cap11_ u131 (tabRows.take 15) [tab15] rfl rfl HO.out HX.out (by decide) HB.out hN (by decide) (tabRows.take 16) 16 rfl rfl ?_; intro g12_ cap12_ w12_ ho2 hb2; have HO2 := Aside0.mk ho2; have HB2 := Aside0.mk hb2; clear ho2 hb2)
                clear HX HO HB hN
                have hR := HO2
                have HBR := HB2
                clear HO2 HB2
                refine wp_region_steps (ts := [Told.val (.slice (some ⟨g12_, 0, none⟩) 16 cap12_), Told.val (.agg #[.int .u8 3, .int .u16 0]), Told.val (.agg #[.int .u8 6, .int .u16 0]), Told.val (.agg #[.int .u8 3, .int .u16 0]), Told.val (.agg #[.int .u8 6, .int .u16 0]), Told.val (.agg #[.int .u8 3, .int .u16 0]), Told.val (.agg #[.int .u8 3, .int .u16 0]), Told.row k30 30 W.heap.size [⟨6, 0⟩, ⟨3, 0⟩, ⟨6, 0⟩, ⟨3, 0⟩, ⟨3, 0⟩], Told.agg k133 W.heap.size ⟨⟨#[99, 111, 112, 121]⟩, 21, 1, ⟨3, 0⟩, [⟨6, 0⟩, ⟨3, 0⟩, ⟨6, 0⟩, ⟨3, 0⟩, ⟨3, 0⟩]⟩, Told.val (.agg #[.int .u8 3, .int .u16 0]), Told.val (.agg #[.int .u8 6, .int .u16 0]), Told.val (.agg #[.int .u8 3, .int .u16 0]), Told.val (.agg #[.int .u8 6, .int .u16 0]), Told.val (.agg #[.int .u8 3, .int .u16 0]), Told.val (.agg #[.int .u8 3, .int .u16 0]), Told.row k30 30 W.heap.size [⟨6, 0⟩, ⟨3, 0⟩, ⟨6, 0⟩, ⟨3, 0⟩, ⟨3, 0⟩], Told.agg k133 W.heap.size ⟨⟨#[99, 111, 112, 121, 78, 111, 110, 65, 116, 111, 109, 105, 99]⟩, 22, 1, ⟨3, 0⟩, [⟨6, 0⟩, ⟨3, 0⟩, ⟨6, 0⟩, ⟨3, 0⟩, ⟨3, 0⟩]⟩, Told.val (.agg #[.int .u8 3, .int .u16 0]), Told.val (.agg #[.int .u8 6, .int .u16 0]), Told.val (.agg #[.int .u8 3, .int .u16 0]), Told.val (.agg #[.int .u8 3, .int .u16 0]), Told.val (.agg #[.int .u8 2, .int .u16 0]), Told.row k30 30 W.heap.size [⟨6, 0⟩, ⟨3, 0⟩, ⟨3, 0⟩, ⟨2, 0⟩], Told.agg k133 W.heap.size ⟨⟨#[102, 105, 108, 108]⟩, 23, 1, ⟨3, 0⟩, [⟨6, 0⟩, ⟨3, 0⟩, ⟨3, 0⟩, ⟨2, 0⟩]⟩, Told.val (.agg #[.int .u8 2, .int .u16 0]), Told.val (.agg #[.int .u8 6, .int .u16 0]), Told.val (.agg #[.int .u8 3, .int .u16 0]), Told.val (.agg #[.int .u8 6, .int .u16 0]), Told.val (.agg #[.int .u8 3, .int .u16 0]), Told.val (.agg #[.int .u8 3, .int .u16 0]), Told.row k30 30 W.heap.size [⟨6, 0⟩, ⟨3, 0⟩, ⟨6, 0⟩, ⟨3, 0⟩, ⟨3, 0⟩], Told.agg k133 W.heap.size ⟨⟨#[99, 111, 109, 112, 97, 114, 101]⟩, 24, 1, ⟨2, 0⟩, [⟨6, 0⟩, ⟨3, 0⟩, ⟨6, 0⟩, ⟨3, 0⟩, ⟨3, 0⟩]⟩, Told.val (.agg #[.int .u8 3, .int .u16 0]), Told.val (.agg #[.int .u8 6, .int .u16 0]), Told.val (.agg #[.int .u8 3, .int .u16 0]), Told.row k30 30 W.heap.size [⟨6, 0⟩, ⟨3, 0⟩], Told.agg k133 W.heap.size ⟨⟨#[103, 101, 116, 83, 104, 111, 114, 116]⟩, 25, 1, ⟨3, 0⟩, [⟨6, 0⟩, ⟨3, 0⟩]⟩, Told.val (.agg #[.int .u8 3, .int .u16 0]), Told.val (.agg #[.int .u8 6, .int .u16 0]), Told.val (.agg #[.int .u8 3, .int .u16 0]), Told.val (.agg #[.int .u8 3, .int .u16 0]), Told.row k30 30 W.heap.size [⟨6, 0⟩, ⟨3, 0⟩, ⟨3, 0⟩], Told.agg k133 W.heap.size ⟨⟨#[115, 101, 116, 83, 104, 111, 114, 116]⟩, 26, 1, ⟨3, 0⟩, [⟨6, 0⟩, ⟨3, 0⟩, ⟨3, 0⟩]⟩, Told.row k133 133 W.heap.size [⟨⟨#[99, 111, 112, 121]⟩, 21, 1, ⟨3, 0⟩, [⟨6, 0⟩, ⟨3, 0⟩, ⟨6, 0⟩, ⟨3, 0⟩, ⟨3, 0⟩]⟩, ⟨⟨#[99, 111, 112, 121, 78, 111, 110, 65, 116, 111, 109, 105, 99]⟩, 22, 1, ⟨3, 0⟩, [⟨6, 0⟩, ⟨3, 0⟩, ⟨6, 0⟩, ⟨3, 0⟩, ⟨3, 0⟩]⟩, ⟨⟨#[102, 105, 108, 108]⟩, 23, 1, ⟨3, 0⟩, [⟨6, 0⟩, ⟨3, 0⟩, ⟨3, 0⟩, ⟨2, 0⟩]⟩, ⟨⟨#[99, 111, 109, 112, 97, 114, 101]⟩, 24, 1, ⟨2, 0⟩, [⟨6, 0⟩, ⟨3, 0⟩, ⟨6, 0⟩, ⟨3, 0⟩, ⟨3, 0⟩]⟩, ⟨⟨#[103, 101, 116, 83, 104, 111, 114, 116]⟩, 25, 1, ⟨3, 0⟩, [⟨6, 0⟩, ⟨3, 0⟩]⟩, ⟨⟨#[115, 101, 116, 83, 104, 111, 114, 116]⟩, 26, 1, ⟨3, 0⟩, [⟨6, 0⟩, ⟨3, 0⟩, ⟨3, 0⟩]⟩], Told.agg k129 W.heap.size ⟨0, 8, [], [], [⟨⟨#[99, 111, 112, 121]⟩, 21, 1, ⟨3, 0⟩, [⟨6, 0⟩, ⟨3, 0⟩, ⟨6, 0⟩, ⟨3, 0⟩, ⟨3, 0⟩]⟩, ⟨⟨#[99, 111, 112, 121, 78, 111, 110, 65, 116, 111, 109, 105, 99]⟩, 22, 1, ⟨3, 0⟩, [⟨6, 0⟩, ⟨3, 0⟩, ⟨6, 0⟩, ⟨3, 0⟩, ⟨3, 0⟩]⟩, ⟨⟨#[102, 105, 108, 108]⟩, 23, 1, ⟨3, 0⟩, [⟨6, 0⟩, ⟨3, 0⟩, ⟨3, 0⟩, ⟨2, 0⟩]⟩, ⟨⟨#[99, 111, 109, 112, 97, 114, 101]⟩, 24, 1, ⟨2, 0⟩, [⟨6, 0⟩, ⟨3, 0⟩, ⟨6, 0⟩, ⟨3, 0⟩, ⟨3, 0⟩]⟩, ⟨⟨#[103, 101, 116, 83, 104, 111, 114, 116]⟩, 25, 1, ⟨3, 0⟩, [⟨6, 0⟩, ⟨3, 0⟩]⟩, ⟨⟨#[115, 101, 116, 83, 104, 111, 114, 116]⟩, 26, 1, ⟨3, 0⟩, [⟨6, 0⟩, ⟨3, 0⟩, ⟨3, 0⟩]⟩]⟩, Told.row k129 129 W.heap.size [⟨0, 8, [], [], [⟨⟨#[99, 111, 112, 121]⟩, 21, 1, ⟨3, 0⟩, [⟨6, 0⟩, ⟨3, 0⟩, ⟨6, 0⟩, ⟨3, 0⟩, ⟨3, 0⟩]⟩, ⟨⟨#[99, 111, 112, 121, 78, 111, 110, 65, 116, 111, 109, 105, 99]⟩, 22, 1, ⟨3, 0⟩, [⟨6, 0⟩, ⟨3, 0⟩, ⟨6, 0⟩, ⟨3, 0⟩, ⟨3, 0⟩]⟩, ⟨⟨#[102, 105, 108, 108]⟩, 23, 1, ⟨3, 0⟩, [⟨6, 0⟩, ⟨3, 0⟩, ⟨3, 0⟩, ⟨2, 0⟩]⟩, ⟨⟨#[99, 111, 109, 112, 97, 114, 101]⟩, 24, 1, ⟨2, 0⟩, [⟨6, 0⟩, ⟨3, 0⟩, ⟨6, 0⟩, ⟨3, 0⟩, ⟨3, 0⟩]⟩, ⟨⟨#[103, 101, 116, 83, 104, 111, 114, 116]⟩, 25, 1, ⟨3, 0⟩, [⟨6, 0⟩, ⟨3, 0⟩]⟩, ⟨⟨#[115, 101, 116, 83, 104, 111, 114, 116]⟩, 26, 1, ⟨3, 0⟩, [⟨6, 0⟩, ⟨3, 0⟩, ⟨3, 0⟩]⟩]⟩]]) (by kernel_rfl) (by kernel_rfl) ?_ ?_
                · refine ⟨?_, ?_, ?_, ?_, ?_, ?_, ?_, ?_, ?_, ?_, ?_, ?_, ?_, ?_, ?_, ?_, ?_, ?_, ?_, ?_, ?_, ?_, ?_, ?_, ?_, ?_, ?_, ?_, ?_, ?_, ?_, ?_, ?_, ?_, ?_, ?_, ?_, ?_, ?_, ?_, ?_, ?_, ?_, ?_, ?_, ?_, trivial⟩
                  · intro a' w' hf hb hd
                    have p_ := frame_at hf 8 (.slice (some ⟨g12_, 0, none⟩) 16 cap12_) (by kernel_rfl) rfl
                    have p2_ : a'.tmps[8]?.getD undef = .slice (some ⟨g12_, 0, none⟩) 16 cap12_ := by simpa [Act.eval] using p_
                    exact told_run (v := .slice (some ⟨g12_, 0, none⟩) 16 cap12_) rfl (by go_simp) rfl (Below.refl _ _)
                  · intro a' w' hf hb hd
                    have p_ := frame_at hf 2 (.pointer (some ⟨w4.heap.size + 1, 0, none⟩)) (by kernel_rfl) rfl
                    obtain ⟨c0_, c1_⟩ := (hK.out.below (HBR.out.trans (hb.mono HBR.out.size))).c2
                    exact told_run (v := .agg #[.int .u8 3, .int .u16 0]) rfl (by simp [execOp, p_]; go_simp) rfl (Below.refl _ _)
                  · intro a' w' hf hb hd
                    have p_ := frame_at hf 5 (.pointer (some ⟨w7.heap.size, 0, none⟩)) (by kernel_rfl) rfl
                    obtain ⟨c0_, c1_⟩ := (hK.out.below (HBR.out.trans (hb.mono HBR.out.size))).c5
                    exact told_run (v := .agg #[.int .u8 6, .int .u16 0]) rfl (by simp [execOp, p_]; go_simp) rfl (Below.refl _ _)
                  · intro a' w' hf hb hd
                    have p_ := frame_at hf 2 (.pointer (some ⟨w4.heap.size + 1, 0, none⟩)) (by kernel_rfl) rfl
                    obtain ⟨c0_, c1_⟩ := (hK.out.below (HBR.out.trans (hb.mono HBR.out.size))).c2
                    exact told_run (v := .agg #[.int .u8 3, .int .u16 0]) rfl (by simp [execOp, p_]; go_simp) rfl (Below.refl _ _)
                  · intro a' w' hf hb hd
                    have p_ := frame_at hf 5 (.pointer (some ⟨w7.heap.size, 0, none⟩)) (by kernel_rfl) rfl
                    obtain ⟨c0_, c1_⟩ := (hK.out.below (HBR.out.trans (hb.mono HBR.out.size))).c5
                    exact told_run (v := .agg #[.int .u8 6, .int .u16 0]) rfl (by simp [execOp, p_]; go_simp) rfl (Below.refl _ _)
                  · intro a' w' hf hb hd
                    have p_ := frame_at hf 2 (.pointer (some ⟨w4.heap.size + 1, 0, none⟩)) (by kernel_rfl) rfl
                    obtain ⟨c0_, c1_⟩ := (hK.out.below (HBR.out.trans (hb.mono HBR.out.size))).c2
                    exact told_run (v := .agg #[.int .u8 3, .int .u16 0]) rfl (by simp [execOp, p_]; go_simp) rfl (Below.refl _ _)
                  · intro a' w' hf hb hd
                    have p_ := frame_at hf 2 (.pointer (some ⟨w4.heap.size + 1, 0, none⟩)) (by kernel_rfl) rfl
                    obtain ⟨c0_, c1_⟩ := (hK.out.below (HBR.out.trans (hb.mono HBR.out.size))).c2
                    exact told_run (v := .agg #[.int .u8 3, .int .u16 0]) rfl (by simp [execOp, p_]; go_simp) rfl (Below.refl _ _)
                  · intro a' w' hf hb hd
                    have h0_ : a'.eval (.tmp 135) = .agg #[.int .u8 6, .int .u16 0] := hd 2 (by decide)
                    have h1_ : a'.eval (.tmp 136) = .agg #[.int .u8 3, .int .u16 0] := hd 3 (by decide)
                    have h2_ : a'.eval (.tmp 137) = .agg #[.int .u8 6, .int .u16 0] := hd 4 (by decide)
                    have h3_ : a'.eval (.tmp 138) = .agg #[.int .u8 3, .int .u16 0] := hd 5 (by decide)
                    have h4_ : a'.eval (.tmp 139) = .agg #[.int .u8 3, .int .u16 0] := hd 6 (by decide)
                    have hu_ := Try.underlying80
                    have hreps_ : Reps (k30.M w' W.heap.size (fun _ => True)) k30.sz _ _ := (reps_snoc (reps_snoc (reps_snoc (reps_snoc (reps_one (by rfl) (k30_mkM w' W.heap.size (fun _ => True) ⟨6, 0⟩)) (by rfl) (k30_mkM w' W.heap.size (fun _ => True) ⟨3, 0⟩)) (by rfl) (k30_mkM w' W.heap.size (fun _ => True) ⟨6, 0⟩)) (by rfl) (k30_mkM w' W.heap.size (fun _ => True) ⟨3, 0⟩)) (by rfl) (k30_mkM w' W.heap.size (fun _ => True) ⟨3, 0⟩))
                    simp only [List.cons_append, List.nil_append] at hreps_
                    exact told_lit k30 30 W.heap.size (xs := [⟨6, 0⟩, ⟨3, 0⟩, ⟨6, 0⟩, ⟨3, 0⟩, ⟨3, 0⟩]) (inner := [.int .u8 6, .int .u16 0, .int .u8 3, .int .u16 0, .int .u8 6, .int .u16 0, .int .u8 3, .int .u16 0, .int .u8 3, .int .u16 0]) rfl (by simp [execOp, h0_, h1_, h2_, h3_, h4_]; first | (go_simp; done) | (go_simp; rfl)) hreps_ (by have := (HBR.out.trans (hb.mono HBR.out.size)).size; omega) (by decide)
                  · intro a' w' hf hb hd
                    have hr_ : a'.eval (.tmp 134) = .agg #[.int .u8 3, .int .u16 0] := hd 1 (by decide)
                    have hr2_ : a'.tmps[134]?.getD undef = .agg #[.int .u8 3, .int .u16 0] := by simpa [Act.eval] using hr_
                    have r_ : k30.R 30 w' W.heap.size (fun _ => True) (a'.eval (.tmp 140)) [⟨6, 0⟩, ⟨3, 0⟩, ⟨6, 0⟩, ⟨3, 0⟩, ⟨3, 0⟩] := hd 7 (by decide)
                    obtain ⟨A_, c_, hv_⟩ := Kd.R_slice r_
                    rw [hv_] at r_
                    have hv2_ : a'.tmps[140]?.getD undef = .slice A_ 5 c_ := by simpa [Act.eval] using hv_
                    refine told_call rfl (by go_simp) ((nat_static ⟨#[99, 111, 112, 121]⟩ 21 3 0 A_ 5 c_ w').mono ?_)
                    rintro e w2_ ⟨rfl, hb2_⟩
                    exact ⟨_, rfl, ⟨[.string ⟨#[99, 111, 112, 121]⟩, .int .i64 21, .int .u8 1, .int .u8 3, .int .u16 0, .slice A_ 5 c_], rfl, k133_mkM _ _ _ ⟨⟨#[99, 111, 112, 121]⟩, 21, 1, ⟨3, 0⟩, [⟨6, 0⟩, ⟨3, 0⟩, ⟨6, 0⟩, ⟨3, 0⟩, ⟨3, 0⟩]⟩ (Kd.R_below r_ hb2_)⟩, hb2_⟩
                  · intro a' w' hf hb hd
                    have p_ := frame_at hf 2 (.pointer (some ⟨w4.heap.size + 1, 0, none⟩)) (by kernel_rfl) rfl
                    obtain ⟨c0_, c1_⟩ := (hK.out.below (HBR.out.trans (hb.mono HBR.out.size))).c2
                    exact told_run (v := .agg #[.int .u8 3, .int .u16 0]) rfl (by simp [execOp, p_]; go_simp) rfl (Below.refl _ _)
                  · intro a' w' hf hb hd
                    have p_ := frame_at hf 5 (.pointer (some ⟨w7.heap.size, 0, none⟩)) (by kernel_rfl) rfl
                    obtain ⟨c0_, c1_⟩ := (hK.out.below (HBR.out.trans (hb.mono HBR.out.size))).c5
                    exact told_run (v := .agg #[.int .u8 6, .int .u16 0]) rfl (by simp [execOp, p_]; go_simp) rfl (Below.refl _ _)
                  · intro a' w' hf hb hd
                    have p_ := frame_at hf 2 (.pointer (some ⟨w4.heap.size + 1, 0, none⟩)) (by kernel_rfl) rfl
                    obtain ⟨c0_, c1_⟩ := (hK.out.below (HBR.out.trans (hb.mono HBR.out.size))).c2
                    exact told_run (v := .agg #[.int .u8 3, .int .u16 0]) rfl (by simp [execOp, p_]; go_simp) rfl (Below.refl _ _)
                  · intro a' w' hf hb hd
                    have p_ := frame_at hf 5 (.pointer (some ⟨w7.heap.size, 0, none⟩)) (by kernel_rfl) rfl
                    obtain ⟨c0_, c1_⟩ := (hK.out.below (HBR.out.trans (hb.mono HBR.out.size))).c5
                    exact told_run (v := .agg #[.int .u8 6, .int .u16 0]) rfl (by simp [execOp, p_]; go_simp) rfl (Below.refl _ _)
                  · intro a' w' hf hb hd
                    have p_ := frame_at hf 2 (.pointer (some ⟨w4.heap.size + 1, 0, none⟩)) (by kernel_rfl) rfl
                    obtain ⟨c0_, c1_⟩ := (hK.out.below (HBR.out.trans (hb.mono HBR.out.size))).c2
                    exact told_run (v := .agg #[.int .u8 3, .int .u16 0]) rfl (by simp [execOp, p_]; go_simp) rfl (Below.refl _ _)
                  · intro a' w' hf hb hd
                    have p_ := frame_at hf 2 (.pointer (some ⟨w4.heap.size + 1, 0, none⟩)) (by kernel_rfl) rfl
                    obtain ⟨c0_, c1_⟩ := (hK.out.below (HBR.out.trans (hb.mono HBR.out.size))).c2
                    exact told_run (v := .agg #[.int .u8 3, .int .u16 0]) rfl (by simp [execOp, p_]; go_simp) rfl (Below.refl _ _)
                  · intro a' w' hf hb hd
                    have h0_ : a'.eval (.tmp 143) = .agg #[.int .u8 6, .int .u16 0] := hd 10 (by decide)
                    have h1_ : a'.eval (.tmp 144) = .agg #[.int .u8 3, .int .u16 0] := hd 11 (by decide)
                    have h2_ : a'.eval (.tmp 145) = .agg #[.int .u8 6, .int .u16 0] := hd 12 (by decide)
                    have h3_ : a'.eval (.tmp 146) = .agg #[.int .u8 3, .int .u16 0] := hd 13 (by decide)
                    have h4_ : a'.eval (.tmp 147) = .agg #[.int .u8 3, .int .u16 0] := hd 14 (by decide)
                    have hu_ := Try.underlying80
                    have hreps_ : Reps (k30.M w' W.heap.size (fun _ => True)) k30.sz _ _ := (reps_snoc (reps_snoc (reps_snoc (reps_snoc (reps_one (by rfl) (k30_mkM w' W.heap.size (fun _ => True) ⟨6, 0⟩)) (by rfl) (k30_mkM w' W.heap.size (fun _ => True) ⟨3, 0⟩)) (by rfl) (k30_mkM w' W.heap.size (fun _ => True) ⟨6, 0⟩)) (by rfl) (k30_mkM w' W.heap.size (fun _ => True) ⟨3, 0⟩)) (by rfl) (k30_mkM w' W.heap.size (fun _ => True) ⟨3, 0⟩))
                    simp only [List.cons_append, List.nil_append] at hreps_
                    exact told_lit k30 30 W.heap.size (xs := [⟨6, 0⟩, ⟨3, 0⟩, ⟨6, 0⟩, ⟨3, 0⟩, ⟨3, 0⟩]) (inner := [.int .u8 6, .int .u16 0, .int .u8 3, .int .u16 0, .int .u8 6, .int .u16 0, .int .u8 3, .int .u16 0, .int .u8 3, .int .u16 0]) rfl (by simp [execOp, h0_, h1_, h2_, h3_, h4_]; first | (go_simp; done) | (go_simp; rfl)) hreps_ (by have := (HBR.out.trans (hb.mono HBR.out.size)).size; omega) (by decide)
                  · intro a' w' hf hb hd
                    have hr_ : a'.eval (.tmp 142) = .agg #[.int .u8 3, .int .u16 0] := hd 9 (by decide)
                    have hr2_ : a'.tmps[142]?.getD undef = .agg #[.int .u8 3, .int .u16 0] := by simpa [Act.eval] using hr_
                    have r_ : k30.R 30 w' W.heap.size (fun _ => True) (a'.eval (.tmp 148)) [⟨6, 0⟩, ⟨3, 0⟩, ⟨6, 0⟩, ⟨3, 0⟩, ⟨3, 0⟩] := hd 15 (by decide)
                    obtain ⟨A_, c_, hv_⟩ := Kd.R_slice r_
                    rw [hv_] at r_
                    have hv2_ : a'.tmps[148]?.getD undef = .slice A_ 5 c_ := by simpa [Act.eval] using hv_
                    refine told_call rfl (by go_simp) ((nat_static ⟨#[99, 111, 112, 121, 78, 111, 110, 65, 116, 111, 109, 105, 99]⟩ 22 3 0 A_ 5 c_ w').mono ?_)
                    rintro e w2_ ⟨rfl, hb2_⟩
                    exact ⟨_, rfl, ⟨[.string ⟨#[99, 111, 112, 121, 78, 111, 110, 65, 116, 111, 109, 105, 99]⟩, .int .i64 22, .int .u8 1, .int .u8 3, .int .u16 0, .slice A_ 5 c_], rfl, k133_mkM _ _ _ ⟨⟨#[99, 111, 112, 121, 78, 111, 110, 65, 116, 111, 109, 105, 99]⟩, 22, 1, ⟨3, 0⟩, [⟨6, 0⟩, ⟨3, 0⟩, ⟨6, 0⟩, ⟨3, 0⟩, ⟨3, 0⟩]⟩ (Kd.R_below r_ hb2_)⟩, hb2_⟩
                  · intro a' w' hf hb hd
                    have p_ := frame_at hf 2 (.pointer (some ⟨w4.heap.size + 1, 0, none⟩)) (by kernel_rfl) rfl
                    obtain ⟨c0_, c1_⟩ := (hK.out.below (HBR.out.trans (hb.mono HBR.out.size))).c2
                    exact told_run (v := .agg #[.int .u8 3, .int .u16 0]) rfl (by simp [execOp, p_]; go_simp) rfl (Below.refl _ _)
                  · intro a' w' hf hb hd
                    have p_ := frame_at hf 5 (.pointer (some ⟨w7.heap.size, 0, none⟩)) (by kernel_rfl) rfl
                    obtain ⟨c0_, c1_⟩ := (hK.out.below (HBR.out.trans (hb.mono HBR.out.size))).c5
                    exact told_run (v := .agg #[.int .u8 6, .int .u16 0]) rfl (by simp [execOp, p_]; go_simp) rfl (Below.refl _ _)
                  · intro a' w' hf hb hd
                    have p_ := frame_at hf 2 (.pointer (some ⟨w4.heap.size + 1, 0, none⟩)) (by kernel_rfl) rfl
                    obtain ⟨c0_, c1_⟩ := (hK.out.below (HBR.out.trans (hb.mono HBR.out.size))).c2
                    exact told_run (v := .agg #[.int .u8 3, .int .u16 0]) rfl (by simp [execOp, p_]; go_simp) rfl (Below.refl _ _)
                  · intro a' w' hf hb hd
                    have p_ := frame_at hf 2 (.pointer (some ⟨w4.heap.size + 1, 0, none⟩)) (by kernel_rfl) rfl
                    obtain ⟨c0_, c1_⟩ := (hK.out.below (HBR.out.trans (hb.mono HBR.out.size))).c2
                    exact told_run (v := .agg #[.int .u8 3, .int .u16 0]) rfl (by simp [execOp, p_]; go_simp) rfl (Below.refl _ _)
                  · intro a' w' hf hb hd
                    have p_ := frame_at hf 3 (.pointer (some ⟨w4.heap.size + 1 + 1, 0, none⟩)) (by kernel_rfl) rfl
                    obtain ⟨c0_, c1_⟩ := (hK.out.below (HBR.out.trans (hb.mono HBR.out.size))).c3
                    exact told_run (v := .agg #[.int .u8 2, .int .u16 0]) rfl (by simp [execOp, p_]; go_simp) rfl (Below.refl _ _)
                  · intro a' w' hf hb hd
                    have h0_ : a'.eval (.tmp 151) = .agg #[.int .u8 6, .int .u16 0] := hd 18 (by decide)
                    have h1_ : a'.eval (.tmp 152) = .agg #[.int .u8 3, .int .u16 0] := hd 19 (by decide)
                    have h2_ : a'.eval (.tmp 153) = .agg #[.int .u8 3, .int .u16 0] := hd 20 (by decide)
                    have h3_ : a'.eval (.tmp 154) = .agg #[.int .u8 2, .int .u16 0] := hd 21 (by decide)
                    have hu_ := Try.underlying80
                    have hreps_ : Reps (k30.M w' W.heap.size (fun _ => True)) k30.sz _ _ := (reps_snoc (reps_snoc (reps_snoc (reps_one (by rfl) (k30_mkM w' W.heap.size (fun _ => True) ⟨6, 0⟩)) (by rfl) (k30_mkM w' W.heap.size (fun _ => True) ⟨3, 0⟩)) (by rfl) (k30_mkM w' W.heap.size (fun _ => True) ⟨3, 0⟩)) (by rfl) (k30_mkM w' W.heap.size (fun _ => True) ⟨2, 0⟩))
                    simp only [List.cons_append, List.nil_append] at hreps_
                    exact told_lit k30 30 W.heap.size (xs := [⟨6, 0⟩, ⟨3, 0⟩, ⟨3, 0⟩, ⟨2, 0⟩]) (inner := [.int .u8 6, .int .u16 0, .int .u8 3, .int .u16 0, .int .u8 3, .int .u16 0, .int .u8 2, .int .u16 0]) rfl (by simp [execOp, h0_, h1_, h2_, h3_]; first | (go_simp; done) | (go_simp; rfl)) hreps_ (by have := (HBR.out.trans (hb.mono HBR.out.size)).size; omega) (by decide)
                  · intro a' w' hf hb hd
                    have hr_ : a'.eval (.tmp 150) = .agg #[.int .u8 3, .int .u16 0] := hd 17 (by decide)
                    have hr2_ : a'.tmps[150]?.getD undef = .agg #[.int .u8 3, .int .u16 0] := by simpa [Act.eval] using hr_
                    have r_ : k30.R 30 w' W.heap.size (fun _ => True) (a'.eval (.tmp 155)) [⟨6, 0⟩, ⟨3, 0⟩, ⟨3, 0⟩, ⟨2, 0⟩] := hd 22 (by decide)
                    obtain ⟨A_, c_, hv_⟩ := Kd.R_slice r_
                    rw [hv_] at r_
                    have hv2_ : a'.tmps[155]?.getD undef = .slice A_ 4 c_ := by simpa [Act.eval] using hv_
                    refine told_call rfl (by go_simp) ((nat_static ⟨#[102, 105, 108, 108]⟩ 23 3 0 A_ 4 c_ w').mono ?_)
                    rintro e w2_ ⟨rfl, hb2_⟩
                    exact ⟨_, rfl, ⟨[.string ⟨#[102, 105, 108, 108]⟩, .int .i64 23, .int .u8 1, .int .u8 3, .int .u16 0, .slice A_ 4 c_], rfl, k133_mkM _ _ _ ⟨⟨#[102, 105, 108, 108]⟩, 23, 1, ⟨3, 0⟩, [⟨6, 0⟩, ⟨3, 0⟩, ⟨3, 0⟩, ⟨2, 0⟩]⟩ (Kd.R_below r_ hb2_)⟩, hb2_⟩
                  · intro a' w' hf hb hd
                    have p_ := frame_at hf 3 (.pointer (some ⟨w4.heap.size + 1 + 1, 0, none⟩)) (by kernel_rfl) rfl
                    obtain ⟨c0_, c1_⟩ := (hK.out.below (HBR.out.trans (hb.mono HBR.out.size))).c3
                    exact told_run (v := .agg #[.int .u8 2, .int .u16 0]) rfl (by simp [execOp, p_]; go_simp) rfl (Below.refl _ _)
                  · intro a' w' hf hb hd
                    have p_ := frame_at hf 5 (.pointer (some ⟨w7.heap.size, 0, none⟩)) (by kernel_rfl) rfl
                    obtain ⟨c0_, c1_⟩ := (hK.out.below (HBR.out.trans (hb.mono HBR.out.size))).c5
                    exact told_run (v := .agg #[.int .u8 6, .int .u16 0]) rfl (by simp [execOp, p_]; go_simp) rfl (Below.refl _ _)
                  · intro a' w' hf hb hd
                    have p_ := frame_at hf 2 (.pointer (some ⟨w4.heap.size + 1, 0, none⟩)) (by kernel_rfl) rfl
                    obtain ⟨c0_, c1_⟩ := (hK.out.below (HBR.out.trans (hb.mono HBR.out.size))).c2
                    exact told_run (v := .agg #[.int .u8 3, .int .u16 0]) rfl (by simp [execOp, p_]; go_simp) rfl (Below.refl _ _)
                  · intro a' w' hf hb hd
                    have p_ := frame_at hf 5 (.pointer (some ⟨w7.heap.size, 0, none⟩)) (by kernel_rfl) rfl
                    obtain ⟨c0_, c1_⟩ := (hK.out.below (HBR.out.trans (hb.mono HBR.out.size))).c5
                    exact told_run (v := .agg #[.int .u8 6, .int .u16 0]) rfl (by simp [execOp, p_]; go_simp) rfl (Below.refl _ _)
                  · intro a' w' hf hb hd
                    have p_ := frame_at hf 2 (.pointer (some ⟨w4.heap.size + 1, 0, none⟩)) (by kernel_rfl) rfl
                    obtain ⟨c0_, c1_⟩ := (hK.out.below (HBR.out.trans (hb.mono HBR.out.size))).c2
                    exact told_run (v := .agg #[.int .u8 3, .int .u16 0]) rfl (by simp [execOp, p_]; go_simp) rfl (Below.refl _ _)
                  · intro a' w' hf hb hd
                    have p_ := frame_at hf 2 (.pointer (some ⟨w4.heap.size + 1, 0, none⟩)) (by kernel_rfl) rfl
                    obtain ⟨c0_, c1_⟩ := (hK.out.below (HBR.out.trans (hb.mono HBR.out.size))).c2
                    exact told_run (v := .agg #[.int .u8 3, .int .u16 0]) rfl (by simp [execOp, p_]; go_simp) rfl (Below.refl _ _)
                  · intro a' w' hf hb hd
                    have h0_ : a'.eval (.tmp 158) = .agg #[.int .u8 6, .int .u16 0] := hd 25 (by decide)
                    have h1_ : a'.eval (.tmp 159) = .agg #[.int .u8 3, .int .u16 0] := hd 26 (by decide)
                    have h2_ : a'.eval (.tmp 160) = .agg #[.int .u8 6, .int .u16 0] := hd 27 (by decide)
                    have h3_ : a'.eval (.tmp 161) = .agg #[.int .u8 3, .int .u16 0] := hd 28 (by decide)
                    have h4_ : a'.eval (.tmp 162) = .agg #[.int .u8 3, .int .u16 0] := hd 29 (by decide)
                    have hu_ := Try.underlying80
                    have hreps_ : Reps (k30.M w' W.heap.size (fun _ => True)) k30.sz _ _ := (reps_snoc (reps_snoc (reps_snoc (reps_snoc (reps_one (by rfl) (k30_mkM w' W.heap.size (fun _ => True) ⟨6, 0⟩)) (by rfl) (k30_mkM w' W.heap.size (fun _ => True) ⟨3, 0⟩)) (by rfl) (k30_mkM w' W.heap.size (fun _ => True) ⟨6, 0⟩)) (by rfl) (k30_mkM w' W.heap.size (fun _ => True) ⟨3, 0⟩)) (by rfl) (k30_mkM w' W.heap.size (fun _ => True) ⟨3, 0⟩))
                    simp only [List.cons_append, List.nil_append] at hreps_
                    exact told_lit k30 30 W.heap.size (xs := [⟨6, 0⟩, ⟨3, 0⟩, ⟨6, 0⟩, ⟨3, 0⟩, ⟨3, 0⟩]) (inner := [.int .u8 6, .int .u16 0, .int .u8 3, .int .u16 0, .int .u8 6, .int .u16 0, .int .u8 3, .int .u16 0, .int .u8 3, .int .u16 0]) rfl (by simp [execOp, h0_, h1_, h2_, h3_, h4_]; first | (go_simp; done) | (go_simp; rfl)) hreps_ (by have := (HBR.out.trans (hb.mono HBR.out.size)).size; omega) (by decide)
                  · intro a' w' hf hb hd
                    have hr_ : a'.eval (.tmp 157) = .agg #[.int .u8 2, .int .u16 0] := hd 24 (by decide)
                    have hr2_ : a'.tmps[157]?.getD undef = .agg #[.int .u8 2, .int .u16 0] := by simpa [Act.eval] using hr_
                    have r_ : k30.R 30 w' W.heap.size (fun _ => True) (a'.eval (.tmp 163)) [⟨6, 0⟩, ⟨3, 0⟩, ⟨6, 0⟩, ⟨3, 0⟩, ⟨3, 0⟩] := hd 30 (by decide)
                    obtain ⟨A_, c_, hv_⟩ := Kd.R_slice r_
                    rw [hv_] at r_
                    have hv2_ : a'.tmps[163]?.getD undef = .slice A_ 5 c_ := by simpa [Act.eval] using hv_
                    refine told_call rfl (by go_simp) ((nat_static ⟨#[99, 111, 109, 112, 97, 114, 101]⟩ 24 2 0 A_ 5 c_ w').mono ?_)
                    rintro e w2_ ⟨rfl, hb2_⟩
                    exact ⟨_, rfl, ⟨[.string ⟨#[99, 111, 109, 112, 97, 114, 101]⟩, .int .i64 24, .int .u8 1, .int .u8 2, .int .u16 0, .slice A_ 5 c_], rfl, k133_mkM _ _ _ ⟨⟨#[99, 111, 109, 112, 97, 114, 101]⟩, 24, 1, ⟨2, 0⟩, [⟨6, 0⟩, ⟨3, 0⟩, ⟨6, 0⟩, ⟨3, 0⟩, ⟨3, 0⟩]⟩ (Kd.R_below r_ hb2_)⟩, hb2_⟩
                  · intro a' w' hf hb hd
                    have p_ := frame_at hf 2 (.pointer (some ⟨w4.heap.size + 1, 0, none⟩)) (by kernel_rfl) rfl
                    obtain ⟨c0_, c1_⟩ := (hK.out.below (HBR.out.trans (hb.mono HBR.out.size))).c2
                    exact told_run (v := .agg #[.int .u8 3, .int .u16 0]) rfl (by simp [execOp, p_]; go_simp) rfl (Below.refl _ _)
                  · intro a' w' hf hb hd
                    have p_ := frame_at hf 5 (.pointer (some ⟨w7.heap.size, 0, none⟩)) (by kernel_rfl) rfl
                    obtain ⟨c0_, c1_⟩ := (hK.out.below (HBR.out.trans (hb.mono HBR.out.size))).c5
                    exact told_run (v := .agg #[.int .u8 6, .int .u16 0]) rfl (by simp [execOp, p_]; go_simp) rfl (Below.refl _ _)
                  · intro a' w' hf hb hd
                    have p_ := frame_at hf 2 (.pointer (some ⟨w4.heap.size + 1, 0, none⟩)) (by kernel_rfl) rfl
                    obtain ⟨c0_, c1_⟩ := (hK.out.below (HBR.out.trans (hb.mono HBR.out.size))).c2
                    exact told_run (v := .agg #[.int .u8 3, .int .u16 0]) rfl (by simp [execOp, p_]; go_simp) rfl (Below.refl _ _)
                  · intro a' w' hf hb hd
                    have h0_ : a'.eval (.tmp 166) = .agg #[.int .u8 6, .int .u16 0] := hd 33 (by decide)
                    have h1_ : a'.eval (.tmp 167) = .agg #[.int .u8 3, .int .u16 0] := hd 34 (by decide)
                    have hu_ := Try.underlying80
                    have hreps_ : Reps (k30.M w' W.heap.size (fun _ => True)) k30.sz _ _ := (reps_snoc (reps_one (by rfl) (k30_mkM w' W.heap.size (fun _ => True) ⟨6, 0⟩)) (by rfl) (k30_mkM w' W.heap.size (fun _ => True) ⟨3, 0⟩))
                    simp only [List.cons_append, List.nil_append] at hreps_
                    exact told_lit k30 30 W.heap.size (xs := [⟨6, 0⟩, ⟨3, 0⟩]) (inner := [.int .u8 6, .int .u16 0, .int .u8 3, .int .u16 0]) rfl (by simp [execOp, h0_, h1_]; first | (go_simp; done) | (go_simp; rfl)) hreps_ (by have := (HBR.out.trans (hb.mono HBR.out.size)).size; omega) (by decide)
                  · intro a' w' hf hb hd
                    have hr_ : a'.eval (.tmp 165) = .agg #[.int .u8 3, .int .u16 0] := hd 32 (by decide)
                    have hr2_ : a'.tmps[165]?.getD undef = .agg #[.int .u8 3, .int .u16 0] := by simpa [Act.eval] using hr_
                    have r_ : k30.R 30 w' W.heap.size (fun _ => True) (a'.eval (.tmp 168)) [⟨6, 0⟩, ⟨3, 0⟩] := hd 35 (by decide)
                    obtain ⟨A_, c_, hv_⟩ := Kd.R_slice r_
                    rw [hv_] at r_
                    have hv2_ : a'.tmps[168]?.getD undef = .slice A_ 2 c_ := by simpa [Act.eval] using hv_
                    refine told_call rfl (by go_simp) ((nat_static ⟨#[103, 101, 116, 83, 104, 111, 114, 116]⟩ 25 3 0 A_ 2 c_ w').mono ?_)
                    rintro e w2_ ⟨rfl, hb2_⟩
                    exact ⟨_, rfl, ⟨[.string ⟨#[103, 101, 116, 83, 104, 111, 114, 116]⟩, .int .i64 25, .int .u8 1, .int .u8 3, .int .u16 0, .slice A_ 2 c_], rfl, k133_mkM _ _ _ ⟨⟨#[103, 101, 116, 83, 104, 111, 114, 116]⟩, 25, 1, ⟨3, 0⟩, [⟨6, 0⟩, ⟨3, 0⟩]⟩ (Kd.R_below r_ hb2_)⟩, hb2_⟩
                  · intro a' w' hf hb hd
                    have p_ := frame_at hf 2 (.pointer (some ⟨w4.heap.size + 1, 0, none⟩)) (by kernel_rfl) rfl
                    obtain ⟨c0_, c1_⟩ := (hK.out.below (HBR.out.trans (hb.mono HBR.out.size))).c2
                    exact told_run (v := .agg #[.int .u8 3, .int .u16 0]) rfl (by simp [execOp, p_]; go_simp) rfl (Below.refl _ _)
                  · intro a' w' hf hb hd
                    have p_ := frame_at hf 5 (.pointer (some ⟨w7.heap.size, 0, none⟩)) (by kernel_rfl) rfl
                    obtain ⟨c0_, c1_⟩ := (hK.out.below (HBR.out.trans (hb.mono HBR.out.size))).c5
                    exact told_run (v := .agg #[.int .u8 6, .int .u16 0]) rfl (by simp [execOp, p_]; go_simp) rfl (Below.refl _ _)
                  · intro a' w' hf hb hd
                    have p_ := frame_at hf 2 (.pointer (some ⟨w4.heap.size + 1, 0, none⟩)) (by kernel_rfl) rfl
                    obtain ⟨c0_, c1_⟩ := (hK.out.below (HBR.out.trans (hb.mono HBR.out.size))).c2
                    exact told_run (v := .agg #[.int .u8 3, .int .u16 0]) rfl (by simp [execOp, p_]; go_simp) rfl (Below.refl _ _)
                  · intro a' w' hf hb hd
                    have p_ := frame_at hf 2 (.pointer (some ⟨w4.heap.size + 1, 0, none⟩)) (by kernel_rfl) rfl
                    obtain ⟨c0_, c1_⟩ := (hK.out.below (HBR.out.trans (hb.mono HBR.out.size))).c2
                    exact told_run (v := .agg #[.int .u8 3, .int .u16 0]) rfl (by simp [execOp, p_]; go_simp) rfl (Below.refl _ _)
                  · intro a' w' hf hb hd
                    have h0_ : a'.eval (.tmp 171) = .agg #[.int .u8 6, .int .u16 0] := hd 38 (by decide)
                    have h1_ : a'.eval (.tmp 172) = .agg #[.int .u8 3, .int .u16 0] := hd 39 (by decide)
                    have h2_ : a'.eval (.tmp 173) = .agg #[.int .u8 3, .int .u16 0] := hd 40 (by decide)
                    have hu_ := Try.underlying80
                    have hreps_ : Reps (k30.M w' W.heap.size (fun _ => True)) k30.sz _ _ := (reps_snoc (reps_snoc (reps_one (by rfl) (k30_mkM w' W.heap.size (fun _ => True) ⟨6, 0⟩)) (by rfl) (k30_mkM w' W.heap.size (fun _ => True) ⟨3, 0⟩)) (by rfl) (k30_mkM w' W.heap.size (fun _ => True) ⟨3, 0⟩))
                    simp only [List.cons_append, List.nil_append] at hreps_
                    exact told_lit k30 30 W.heap.size (xs := [⟨6, 0⟩, ⟨3, 0⟩, ⟨3, 0⟩]) (inner := [.int .u8 6, .int .u16 0, .int .u8 3, .int .u16 0, .int .u8 3, .int .u16 0]) rfl (by simp [execOp, h0_, h1_, h2_]; first | (go_simp; done) | (go_simp; rfl)) hreps_ (by have := (HBR.out.trans (hb.mono HBR.out.size)).size; omega) (by decide)
                  · intro a' w' hf hb hd
                    have hr_ : a'.eval (.tmp 170) = .agg #[.int .u8 3, .int .u16 0] := hd 37 (by decide)
                    have hr2_ : a'.tmps[170]?.getD undef = .agg #[.int .u8 3, .int .u16 0] := by simpa [Act.eval] using hr_
                    have r_ : k30.R 30 w' W.heap.size (fun _ => True) (a'.eval (.tmp 174)) [⟨6, 0⟩, ⟨3, 0⟩, ⟨3, 0⟩] := hd 41 (by decide)
                    obtain ⟨A_, c_, hv_⟩ := Kd.R_slice r_
                    rw [hv_] at r_
                    have hv2_ : a'.tmps[174]?.getD undef = .slice A_ 3 c_ := by simpa [Act.eval] using hv_
                    refine told_call rfl (by go_simp) ((nat_static ⟨#[115, 101, 116, 83, 104, 111, 114, 116]⟩ 26 3 0 A_ 3 c_ w').mono ?_)
                    rintro e w2_ ⟨rfl, hb2_⟩
                    exact ⟨_, rfl, ⟨[.string ⟨#[115, 101, 116, 83, 104, 111, 114, 116]⟩, .int .i64 26, .int .u8 1, .int .u8 3, .int .u16 0, .slice A_ 3 c_], rfl, k133_mkM _ _ _ ⟨⟨#[115, 101, 116, 83, 104, 111, 114, 116]⟩, 26, 1, ⟨3, 0⟩, [⟨6, 0⟩, ⟨3, 0⟩, ⟨3, 0⟩]⟩ (Kd.R_below r_ hb2_)⟩, hb2_⟩
                  · intro a' w' hf hb hd
                    obtain ⟨cs0_, h0_, m0_⟩ : (Told.agg k133 W.heap.size ⟨⟨#[99, 111, 112, 121]⟩, 21, 1, ⟨3, 0⟩, [⟨6, 0⟩, ⟨3, 0⟩, ⟨6, 0⟩, ⟨3, 0⟩, ⟨3, 0⟩]⟩).p (a'.eval (.tmp 141)) w' := hd 8 (by decide)
                    obtain ⟨v0_, rfl, g0_⟩ := k133_openM m0_
                    obtain ⟨A0_, c0_, e0_⟩ := Kd.R_slice g0_
                    subst e0_
                    obtain ⟨cs1_, h1_, m1_⟩ : (Told.agg k133 W.heap.size ⟨⟨#[99, 111, 112, 121, 78, 111, 110, 65, 116, 111, 109, 105, 99]⟩, 22, 1, ⟨3, 0⟩, [⟨6, 0⟩, ⟨3, 0⟩, ⟨6, 0⟩, ⟨3, 0⟩, ⟨3, 0⟩]⟩).p (a'.eval (.tmp 149)) w' := hd 16 (by decide)
                    obtain ⟨v1_, rfl, g1_⟩ := k133_openM m1_
                    obtain ⟨A1_, c1_, e1_⟩ := Kd.R_slice g1_
                    subst e1_
                    obtain ⟨cs2_, h2_, m2_⟩ : (Told.agg k133 W.heap.size ⟨⟨#[102, 105, 108, 108]⟩, 23, 1, ⟨3, 0⟩, [⟨6, 0⟩, ⟨3, 0⟩, ⟨3, 0⟩, ⟨2, 0⟩]⟩).p (a'.eval (.tmp 156)) w' := hd 23 (by decide)
                    obtain ⟨v2_, rfl, g2_⟩ := k133_openM m2_
                    obtain ⟨A2_, c2_, e2_⟩ := Kd.R_slice g2_
                    subst e2_
                    obtain ⟨cs3_, h3_, m3_⟩ : (Told.agg k133 W.heap.size ⟨⟨#[99, 111, 109, 112, 97, 114, 101]⟩, 24, 1, ⟨2, 0⟩, [⟨6, 0⟩, ⟨3, 0⟩, ⟨6, 0⟩, ⟨3, 0⟩, ⟨3, 0⟩]⟩).p (a'.eval (.tmp 164)) w' := hd 31 (by decide)
                    obtain ⟨v3_, rfl, g3_⟩ := k133_openM m3_
                    obtain ⟨A3_, c3_, e3_⟩ := Kd.R_slice g3_
                    subst e3_
                    obtain ⟨cs4_, h4_, m4_⟩ : (Told.agg k133 W.heap.size ⟨⟨#[103, 101, 116, 83, 104, 111, 114, 116]⟩, 25, 1, ⟨3, 0⟩, [⟨6, 0⟩, ⟨3, 0⟩]⟩).p (a'.eval (.tmp 169)) w' := hd 36 (by decide)
                    obtain ⟨v4_, rfl, g4_⟩ := k133_openM m4_
                    obtain ⟨A4_, c4_, e4_⟩ := Kd.R_slice g4_
                    subst e4_
                    obtain ⟨cs5_, h5_, m5_⟩ : (Told.agg k133 W.heap.size ⟨⟨#[115, 101, 116, 83, 104, 111, 114, 116]⟩, 26, 1, ⟨3, 0⟩, [⟨6, 0⟩, ⟨3, 0⟩, ⟨3, 0⟩]⟩).p (a'.eval (.tmp 175)) w' := hd 42 (by decide)
                    obtain ⟨v5_, rfl, g5_⟩ := k133_openM m5_
                    obtain ⟨A5_, c5_, e5_⟩ := Kd.R_slice g5_
                    subst e5_
                    have hu_ := Try.underlying127
                    have hreps_ : Reps (k133.M w' W.heap.size (fun _ => True)) k133.sz _ _ := (reps_snoc (reps_snoc (reps_snoc (reps_snoc (reps_snoc (reps_one (by rfl) m0_) (by rfl) m1_) (by rfl) m2_) (by rfl) m3_) (by rfl) m4_) (by rfl) m5_)
                    simp only [List.cons_append, List.nil_append] at hreps_
                    exact told_lit k133 133 W.heap.size (xs := [⟨⟨#[99, 111, 112, 121]⟩, 21, 1, ⟨3, 0⟩, [⟨6, 0⟩, ⟨3, 0⟩, ⟨6, 0⟩, ⟨3, 0⟩, ⟨3, 0⟩]⟩, ⟨⟨#[99, 111, 112, 121, 78, 111, 110, 65, 116, 111, 109, 105, 99]⟩, 22, 1, ⟨3, 0⟩, [⟨6, 0⟩, ⟨3, 0⟩, ⟨6, 0⟩, ⟨3, 0⟩, ⟨3, 0⟩]⟩, ⟨⟨#[102, 105, 108, 108]⟩, 23, 1, ⟨3, 0⟩, [⟨6, 0⟩, ⟨3, 0⟩, ⟨3, 0⟩, ⟨2, 0⟩]⟩, ⟨⟨#[99, 111, 109, 112, 97, 114, 101]⟩, 24, 1, ⟨2, 0⟩, [⟨6, 0⟩, ⟨3, 0⟩, ⟨6, 0⟩, ⟨3, 0⟩, ⟨3, 0⟩]⟩, ⟨⟨#[103, 101, 116, 83, 104, 111, 114, 116]⟩, 25, 1, ⟨3, 0⟩, [⟨6, 0⟩, ⟨3, 0⟩]⟩, ⟨⟨#[115, 101, 116, 83, 104, 111, 114, 116]⟩, 26, 1, ⟨3, 0⟩, [⟨6, 0⟩, ⟨3, 0⟩, ⟨3, 0⟩]⟩]) (inner := [.string ⟨#[99, 111, 112, 121]⟩, .int .i64 21, .int .u8 1, .int .u8 3, .int .u16 0, .slice A0_ 5 c0_, .string ⟨#[99, 111, 112, 121, 78, 111, 110, 65, 116, 111, 109, 105, 99]⟩, .int .i64 22, .int .u8 1, .int .u8 3, .int .u16 0, .slice A1_ 5 c1_, .string ⟨#[102, 105, 108, 108]⟩, .int .i64 23, .int .u8 1, .int .u8 3, .int .u16 0, .slice A2_ 4 c2_, .string ⟨#[99, 111, 109, 112, 97, 114, 101]⟩, .int .i64 24, .int .u8 1, .int .u8 2, .int .u16 0, .slice A3_ 5 c3_, .string ⟨#[103, 101, 116, 83, 104, 111, 114, 116]⟩, .int .i64 25, .int .u8 1, .int .u8 3, .int .u16 0, .slice A4_ 2 c4_, .string ⟨#[115, 101, 116, 83, 104, 111, 114, 116]⟩, .int .i64 26, .int .u8 1, .int .u8 3, .int .u16 0, .slice A5_ 3 c5_]) rfl (by simp [execOp, h0_, h1_, h2_, h3_, h4_, h5_]; first | (go_simp; done) | (go_simp; rfl)) hreps_ (by have := (HBR.out.trans (hb.mono HBR.out.size)).size; omega) (by decide)
                  · intro a' w' hf hb hd
                    have o_ : k133.R 133 w' W.heap.size (fun _ => True) (a'.eval (.tmp 176)) [⟨⟨#[99, 111, 112, 121]⟩, 21, 1, ⟨3, 0⟩, [⟨6, 0⟩, ⟨3, 0⟩, ⟨6, 0⟩, ⟨3, 0⟩, ⟨3, 0⟩]⟩, ⟨⟨#[99, 111, 112, 121, 78, 111, 110, 65, 116, 111, 109, 105, 99]⟩, 22, 1, ⟨3, 0⟩, [⟨6, 0⟩, ⟨3, 0⟩, ⟨6, 0⟩, ⟨3, 0⟩, ⟨3, 0⟩]⟩, ⟨⟨#[102, 105, 108, 108]⟩, 23, 1, ⟨3, 0⟩, [⟨6, 0⟩, ⟨3, 0⟩, ⟨3, 0⟩, ⟨2, 0⟩]⟩, ⟨⟨#[99, 111, 109, 112, 97, 114, 101]⟩, 24, 1, ⟨2, 0⟩, [⟨6, 0⟩, ⟨3, 0⟩, ⟨6, 0⟩, ⟨3, 0⟩, ⟨3, 0⟩]⟩, ⟨⟨#[103, 101, 116, 83, 104, 111, 114, 116]⟩, 25, 1, ⟨3, 0⟩, [⟨6, 0⟩, ⟨3, 0⟩]⟩, ⟨⟨#[115, 101, 116, 83, 104, 111, 114, 116]⟩, 26, 1, ⟨3, 0⟩, [⟨6, 0⟩, ⟨3, 0⟩, ⟨3, 0⟩]⟩] := hd 43 (by decide)
                    obtain ⟨Ao_, co_, eo_⟩ := Kd.R_slice o_
                    rw [eo_] at o_
                    have hu_ := Try.underlying129
                    exact told_run (v := .agg #[.int .i64 0, .int .u8 8, .slice none 0 0, .slice none 0 0, .slice Ao_ _ co_]) rfl (by simp [execOp, eo_]; go_simp) ⟨[.int .i64 0, .int .u8 8, .slice none 0 0, .slice none 0 0, .slice Ao_ _ co_], rfl, k129_mkM _ _ _ ⟨0, 8, [], [], [⟨⟨#[99, 111, 112, 121]⟩, 21, 1, ⟨3, 0⟩, [⟨6, 0⟩, ⟨3, 0⟩, ⟨6, 0⟩, ⟨3, 0⟩, ⟨3, 0⟩]⟩, ⟨⟨#[99, 111, 112, 121, 78, 111, 110, 65, 116, 111, 109, 105, 99]⟩, 22, 1, ⟨3, 0⟩, [⟨6, 0⟩, ⟨3, 0⟩, ⟨6, 0⟩, ⟨3, 0⟩, ⟨3, 0⟩]⟩, ⟨⟨#[102, 105, 108, 108]⟩, 23, 1, ⟨3, 0⟩, [⟨6, 0⟩, ⟨3, 0⟩, ⟨3, 0⟩, ⟨2, 0⟩]⟩, ⟨⟨#[99, 111, 109, 112, 97, 114, 101]⟩, 24, 1, ⟨2, 0⟩, [⟨6, 0⟩, ⟨3, 0⟩, ⟨6, 0⟩, ⟨3, 0⟩, ⟨3, 0⟩]⟩, ⟨⟨#[103, 101, 116, 83, 104, 111, 114, 116]⟩, 25, 1, ⟨3, 0⟩, [⟨6, 0⟩, ⟨3, 0⟩]⟩, ⟨⟨#[115, 101, 116, 83, 104, 111, 114, 116]⟩, 26, 1, ⟨3, 0⟩, [⟨6, 0⟩, ⟨3, 0⟩, ⟨3, 0⟩]⟩]⟩ (Kd.R_nil _ _ _ _ _) (Kd.R_nil _ _ _ _ _) o_⟩ (Below.refl _ _)
                  · intro a' w' hf hb hd
                    obtain ⟨cs0_, h0_, m0_⟩ : (Told.agg k129 W.heap.size ⟨0, 8, [], [], [⟨⟨#[99, 111, 112, 121]⟩, 21, 1, ⟨3, 0⟩, [⟨6, 0⟩, ⟨3, 0⟩, ⟨6, 0⟩, ⟨3, 0⟩, ⟨3, 0⟩]⟩, ⟨⟨#[99, 111, 112, 121, 78, 111, 110, 65, 116, 111, 109, 105, 99]⟩, 22, 1, ⟨3, 0⟩, [⟨6, 0⟩, ⟨3, 0⟩, ⟨6, 0⟩, ⟨3, 0⟩, ⟨3, 0⟩]⟩, ⟨⟨#[102, 105, 108, 108]⟩, 23, 1, ⟨3, 0⟩, [⟨6, 0⟩, ⟨3, 0⟩, ⟨3, 0⟩, ⟨2, 0⟩]⟩, ⟨⟨#[99, 111, 109, 112, 97, 114, 101]⟩, 24, 1, ⟨2, 0⟩, [⟨6, 0⟩, ⟨3, 0⟩, ⟨6, 0⟩, ⟨3, 0⟩, ⟨3, 0⟩]⟩, ⟨⟨#[103, 101, 116, 83, 104, 111, 114, 116]⟩, 25, 1, ⟨3, 0⟩, [⟨6, 0⟩, ⟨3, 0⟩]⟩, ⟨⟨#[115, 101, 116, 83, 104, 111, 114, 116]⟩, 26, 1, ⟨3, 0⟩, [⟨6, 0⟩, ⟨3, 0⟩, ⟨3, 0⟩]⟩]⟩).p (a'.eval (.tmp 177)) w' := hd 44 (by decide)
                    obtain ⟨v0_, x0_, y0_, rfl, g0_, i0_, j0_⟩ := k129_openM m0_
                    obtain ⟨Ag0_, cg0_, eg0_⟩ := Kd.R_slice g0_
                    subst eg0_
                    obtain ⟨Ai0_, ci0_, ei0_⟩ := Kd.R_slice i0_
                    subst ei0_
                    obtain ⟨Aj0_, cj0_, ej0_⟩ := Kd.R_slice j0_
                    subst ej0_
                    have hu_ := Try.underlying125
                    have hreps_ : Reps (k129.M w' W.heap.size (fun _ => True)) k129.sz _ _ := (reps_one (by rfl) m0_)
                    exact told_lit k129 129 W.heap.size (xs := [⟨0, 8, [], [], [⟨⟨#[99, 111, 112, 121]⟩, 21, 1, ⟨3, 0⟩, [⟨6, 0⟩, ⟨3, 0⟩, ⟨6, 0⟩, ⟨3, 0⟩, ⟨3, 0⟩]⟩, ⟨⟨#[99, 111, 112, 121, 78, 111, 110, 65, 116, 111, 109, 105, 99]⟩, 22, 1, ⟨3, 0⟩, [⟨6, 0⟩, ⟨3, 0⟩, ⟨6, 0⟩, ⟨3, 0⟩, ⟨3, 0⟩]⟩, ⟨⟨#[102, 105, 108, 108]⟩, 23, 1, ⟨3, 0⟩, [⟨6, 0⟩, ⟨3, 0⟩, ⟨3, 0⟩, ⟨2, 0⟩]⟩, ⟨⟨#[99, 111, 109, 112, 97, 114, 101]⟩, 24, 1, ⟨2, 0⟩, [⟨6, 0⟩, ⟨3, 0⟩, ⟨6, 0⟩, ⟨3, 0⟩, ⟨3, 0⟩]⟩, ⟨⟨#[103, 101, 116, 83, 104, 111, 114, 116]⟩, 25, 1, ⟨3, 0⟩, [⟨6, 0⟩, ⟨3, 0⟩]⟩, ⟨⟨#[115, 101, 116, 83, 104, 111, 114, 116]⟩, 26, 1, ⟨3, 0⟩, [⟨6, 0⟩, ⟨3, 0⟩, ⟨3, 0⟩]⟩]⟩]) (inner := [.int .i64 0, .int .u8 8, .slice Ag0_ 0 cg0_, .slice Ai0_ 0 ci0_, .slice Aj0_ 6 cj0_]) rfl (by simp [execOp, h0_]; first | (go_simp; done) | (go_simp; rfl)) hreps_ (by have := (HBR.out.trans (hb.mono HBR.out.size)).size; omega) (by decide)
                · intro a' w' hf hb hd
                  have hmov_ : (Told.val (.slice (some ⟨g12_, 0, none⟩) 16 cap12_)).p (a'.eval (.tmp 133)) w' := hd 0 (by simp)
                  have hrow_ : (Told.row k129 129 W.heap.size [⟨0, 8, [], [], [⟨⟨#[99, 111, 112, 121]⟩, 21, 1, ⟨3, 0⟩, [⟨6, 0⟩, ⟨3, 0⟩, ⟨6, 0⟩, ⟨3, 0⟩, ⟨3, 0⟩]⟩, ⟨⟨#[99, 111, 112, 121, 78, 111, 110, 65, 116, 111, 109, 105, 99]⟩, 22, 1, ⟨3, 0⟩, [⟨6, 0⟩, ⟨3, 0⟩, ⟨6, 0⟩, ⟨3, 0⟩, ⟨3, 0⟩]⟩, ⟨⟨#[102, 105, 108, 108]⟩, 23, 1, ⟨3, 0⟩, [⟨6, 0⟩, ⟨3, 0⟩, ⟨3, 0⟩, ⟨2, 0⟩]⟩, ⟨⟨#[99, 111, 109, 112, 97, 114, 101]⟩, 24, 1, ⟨2, 0⟩, [⟨6, 0⟩, ⟨3, 0⟩, ⟨6, 0⟩, ⟨3, 0⟩, ⟨3, 0⟩]⟩, ⟨⟨#[103, 101, 116, 83, 104, 111, 114, 116]⟩, 25, 1, ⟨3, 0⟩, [⟨6, 0⟩, ⟨3, 0⟩]⟩, ⟨⟨#[115, 101, 116, 83, 104, 111, 114, 116]⟩, 26, 1, ⟨3, 0⟩, [⟨6, 0⟩, ⟨3, 0⟩, ⟨3, 0⟩]⟩]⟩]).p (a'.eval (.tmp 178)) w' := hd 45 (by simp)
                  have ha := act_of_frame hf [133, 134, 135, 136, 137, 138, 139, 140, 141, 142, 143, 144, 145, 146, 147, 148, 149, 150, 151, 152, 153, 154, 155, 156, 157, 158, 159, 160, 161, 162, 163, 164, 165, 166, 167, 168, 169, 170, 171, 172, 173, 174, 175, 176, 177, 178] (by kernel_rfl) (by kernel_rfl)
                  obtain ⟨u133, hu133⟩ : ∃ u, a'.eval (.tmp 133) = u := ⟨_, rfl⟩
                  obtain ⟨u134, hu134⟩ : ∃ u, a'.eval (.tmp 134) = u := ⟨_, rfl⟩
                  obtain ⟨u135, hu135⟩ : ∃ u, a'.eval (.tmp 135) = u := ⟨_, rfl⟩
                  obtain ⟨u136, hu136⟩ : ∃ u, a'.eval (.tmp 136) = u := ⟨_, rfl⟩
                  obtain ⟨u137, hu137⟩ : ∃ u, a'.eval (.tmp 137) = u := ⟨_, rfl⟩
                  obtain ⟨u138, hu138⟩ : ∃ u, a'.eval (.tmp 138) = u := ⟨_, rfl⟩
                  obtain ⟨u139, hu139⟩ : ∃ u, a'.eval (.tmp 139) = u := ⟨_, rfl⟩
                  obtain ⟨u140, hu140⟩ : ∃ u, a'.eval (.tmp 140) = u := ⟨_, rfl⟩
                  obtain ⟨u141, hu141⟩ : ∃ u, a'.eval (.tmp 141) = u := ⟨_, rfl⟩
                  obtain ⟨u142, hu142⟩ : ∃ u, a'.eval (.tmp 142) = u := ⟨_, rfl⟩
                  obtain ⟨u143, hu143⟩ : ∃ u, a'.eval (.tmp 143) = u := ⟨_, rfl⟩
                  obtain ⟨u144, hu144⟩ : ∃ u, a'.eval (.tmp 144) = u := ⟨_, rfl⟩
                  obtain ⟨u145, hu145⟩ : ∃ u, a'.eval (.tmp 145) = u := ⟨_, rfl⟩
                  obtain ⟨u146, hu146⟩ : ∃ u, a'.eval (.tmp 146) = u := ⟨_, rfl⟩
                  obtain ⟨u147, hu147⟩ : ∃ u, a'.eval (.tmp 147) = u := ⟨_, rfl⟩
                  obtain ⟨u148, hu148⟩ : ∃ u, a'.eval (.tmp 148) = u := ⟨_, rfl⟩
                  obtain ⟨u149, hu149⟩ : ∃ u, a'.eval (.tmp 149) = u := ⟨_, rfl⟩
                  obtain ⟨u150, hu150⟩ : ∃ u, a'.eval (.tmp 150) = u := ⟨_, rfl⟩
                  obtain ⟨u151, hu151⟩ : ∃ u, a'.eval (.tmp 151) = u := ⟨_, rfl⟩
                  obtain ⟨u152, hu152⟩ : ∃ u, a'.eval (.tmp 152) = u := ⟨_, rfl⟩
                  obtain ⟨u153, hu153⟩ : ∃ u, a'.eval (.tmp 153) = u := ⟨_, rfl⟩
                  obtain ⟨u154, hu154⟩ : ∃ u, a'.eval (.tmp 154) = u := ⟨_, rfl⟩
                  obtain ⟨u155, hu155⟩ : ∃ u, a'.eval (.tmp 155) = u := ⟨_, rfl⟩
                  obtain ⟨u156, hu156⟩ : ∃ u, a'.eval (.tmp 156) = u := ⟨_, rfl⟩
                  obtain ⟨u157, hu157⟩ : ∃ u, a'.eval (.tmp 157) = u := ⟨_, rfl⟩
                  obtain ⟨u158, hu158⟩ : ∃ u, a'.eval (.tmp 158) = u := ⟨_, rfl⟩
                  obtain ⟨u159, hu159⟩ : ∃ u, a'.eval (.tmp 159) = u := ⟨_, rfl⟩
                  obtain ⟨u160, hu160⟩ : ∃ u, a'.eval (.tmp 160) = u := ⟨_, rfl⟩
                  obtain ⟨u161, hu161⟩ : ∃ u, a'.eval (.tmp 161) = u := ⟨_, rfl⟩
                  obtain ⟨u162, hu162⟩ : ∃ u, a'.eval (.tmp 162) = u := ⟨_, rfl⟩
                  obtain ⟨u163, hu163⟩ : ∃ u, a'.eval (.tmp 163) = u := ⟨_, rfl⟩
                  obtain ⟨u164, hu164⟩ : ∃ u, a'.eval (.tmp 164) = u := ⟨_, rfl⟩
                  obtain ⟨u165, hu165⟩ : ∃ u, a'.eval (.tmp 165) = u := ⟨_, rfl⟩
                  obtain ⟨u166, hu166⟩ : ∃ u, a'.eval (.tmp 166) = u := ⟨_, rfl⟩
                  obtain ⟨u167, hu167⟩ : ∃ u, a'.eval (.tmp 167) = u := ⟨_, rfl⟩
                  obtain ⟨u168, hu168⟩ : ∃ u, a'.eval (.tmp 168) = u := ⟨_, rfl⟩
                  obtain ⟨u169, hu169⟩ : ∃ u, a'.eval (.tmp 169) = u := ⟨_, rfl⟩
                  obtain ⟨u170, hu170⟩ : ∃ u, a'.eval (.tmp 170) = u := ⟨_, rfl⟩
                  obtain ⟨u171, hu171⟩ : ∃ u, a'.eval (.tmp 171) = u := ⟨_, rfl⟩
                  obtain ⟨u172, hu172⟩ : ∃ u, a'.eval (.tmp 172) = u := ⟨_, rfl⟩
                  obtain ⟨u173, hu173⟩ : ∃ u, a'.eval (.tmp 173) = u := ⟨_, rfl⟩
                  obtain ⟨u174, hu174⟩ : ∃ u, a'.eval (.tmp 174) = u := ⟨_, rfl⟩
                  obtain ⟨u175, hu175⟩ : ∃ u, a'.eval (.tmp 175) = u := ⟨_, rfl⟩
                  obtain ⟨u176, hu176⟩ : ∃ u, a'.eval (.tmp 176) = u := ⟨_, rfl⟩
                  obtain ⟨u177, hu177⟩ : ∃ u, a'.eval (.tmp 177) = u := ⟨_, rfl⟩
                  obtain ⟨u178, hu178⟩ : ∃ u, a'.eval (.tmp 178) = u := ⟨_, rfl⟩
                  rw [hu133] at hmov_
                  rw [hu178] at hrow_
                  simp only [List.foldl_cons, List.foldl_nil, List.setIfInBounds_toArray, List.set_cons_succ, List.set_cons_zero, hu133, hu134, hu135, hu136, hu137, hu138, hu139, hu140, hu141, hu142, hu143, hu144, hu145, hu146, hu147, hu148, hu149, hu150, hu151, hu152, hu153, hu154, hu155, hu156, hu157, hu158, hu159, hu160, hu161, hu162, hu163, hu164, hu165, hu166, hu167, hu168, hu169, hu170, hu171, hu172, hu173, hu174, hu175, hu176, hu177, hu178] at ha
                  clear hf hd hu133 hu134 hu135 hu136 hu137 hu138 hu139 hu140 hu141 hu142 hu143 hu144 hu145 hu146 hu147 hu148 hu149 hu150 hu151 hu152 hu153 hu154 hu155 hu156 hu157 hu158 hu159 hu160 hu161 hu162 hu163 hu164 hu165 hu166 hu167 hu168 hu169 hu170 hu171 hu172 hu173 hu174 hu175 hu176 hu177 hu178
                  subst ha
                  obtain rfl : _ = u133 := hmov_.symm
                  have HX := Aside0.mk hrow_
                  have HO := Aside0.mk (Kd.R_below hR.out hb)
                  have HB := Aside0.mk (HBR.out.trans (hb.mono HBR.out.size))
                  have hN : W.heap.size ≤ w'.heap.size := HB.out.size
                  clear hR HBR hb hrow_ hmov_
                  simp only [List.length_cons, List.length_nil, Nat.reduceAdd, List.drop_succ_cons, List.drop_zero]
                  go_wp2_with (at_builtin; refine told_append k129 (w0 := W) W.heap.size rfl (.tmp 133) (.tmp 178) 125 129 _ 88 rfl Try.underlying125 info129 rfl (by decide) (by decide) (by decide) g12_ 16 cap12_ u178 (tabRows.take 16) [tab16] rfl rfl HO.out HX.out (by decide) HB.out hN (by decide) (tabRows.take 17) 17 rfl rfl ?_; intro g13_ cap13_ w13_ ho2 hb2; have HO2 := Aside0.mk ho2; have HB2 := Aside0.mk hb2; clear ho2 hb2)
                  clear HX HO HB hN
                  have hR := HO2
                  have HBR := HB2
                  clear HO2 HB2
                  go_ret
                  exact ⟨_, rfl, Kd.R_lower hR.out hBW.out.size, hBW.out.trans (HBR.out.mono hBW.out.size)⟩
end Go.Proofs.Ytocdpledkmmomaa.P
