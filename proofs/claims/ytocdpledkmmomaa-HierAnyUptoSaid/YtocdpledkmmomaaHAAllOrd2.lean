import Derived.Test.YtocdpledkmmomaaHAAllOrd
namespace Go
section
variable {P : Program} {ops : Array Oper} {Q : Exit → Act → World → Prop} {md : Region.Mode}
def headB2 (l : List Oper) (n : Nat) : Bool :=
  (List.range n).all fun i => match l[i]? with
    | some o => o.guard.isNone && o.after.all (fun e => !Region.binds .any e || decide (e.on < i))
    | none => false
theorem headB2_spec {l : List Oper} {n : Nat} (h : headB2 l n = true) {i : Nat} (hi : i < n) : ∃ o, l[i]? = some o ∧ o.guard = none ∧ ∀ e ∈ o.after, Region.binds .any e = true → e.on < i := by
  have h1 := List.all_eq_true.1 h i (List.mem_range.2 hi)
  cases ho : l[i]? with
  | none => rw [ho] at h1; simp at h1
  | some o =>
    rw [ho] at h1
    simp only [Bool.and_eq_true, Option.isNone_iff_eq_none] at h1
    exact ⟨o, rfl, h1.1, fun e he hb => by have h4 := Array.all_eq_true'.1 h1.2 e he; simpa [hb] using h4⟩
structure FrameOf2 (l : List Oper) (n : Nat) (a a' : Act) : Prop where
  size : a'.tmps.size = a.tmps.size
  defers : a'.defers = a.defers
  same : ∀ t, (∀ i o, i < n → l[i]? = some o → o.dst ≠ some t) → a'.tmps[t]? = a.tmps[t]?
theorem FrameOf2.put {l : List Oper} {n : Nat} {a a' : Act} (h : FrameOf2 l n a a') {i : Nat} {o : Oper} (hi : i < n) (ho : l[i]? = some o) (v : Value) : FrameOf2 l n a (a'.put o.dst v) := by
  cases hd : o.dst with
  | none => exact h
  | some d => exact ⟨by simpa [Act.put] using h.size, by simpa [Act.put] using h.defers, fun t ht => by
      have := h.same t ht
      simp only [Act.put]
      rw [Array.getElem?_setIfInBounds_ne (fun e => ht i o hi ho (by rw [hd, e]))]
      exact this⟩

end
end Go
