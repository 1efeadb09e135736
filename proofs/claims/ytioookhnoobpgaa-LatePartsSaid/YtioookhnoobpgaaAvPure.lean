/- The operations that make no memory and write none. -/
import Derived.Test.YtioookhnoobpgaaAvTy
namespace Go.Av

theorem VRel.shallow {c : Ctx} {d : Bool} {a : AV} {v : Value} (h : VRel c d a v) : VRel c false a v := by
  induction h with
  | junk => exact .junk
  | sc => exact .sc
  | nils => exact .nils
  | agg hl h1 h ih => exact .agg hl h1 ih
  | tup hl h ih => exact .tup hl ih
  | listNil => exact .listNil
  | list vf hne hS hn hcap hsz hcell h1 h ih => exact .list vf hne hS hn hcap hsz hcell h1 h
  | ref hle => exact .ref hle
  | ptr => exact .ptr
  | elem vf hS hcell h1 h ih => exact .elem vf hS hcell h1 h
  | fn hl h ih => exact .fn hl ih
  | cond h hn ih => exact .cond ih hn

theorem VRel.okDeep {c : Ctx} {a : AV} {v : Value} {M : Nat → Prop} (h : VRel c true a v) : a.Ok M := by
  generalize hd : true = d at h
  induction h with
  | junk => exact .junk
  | sc => exact .sc
  | nils => exact .nils
  | @agg d cs vs hl h1 h ih =>
    refine .agg fun a ha => ?_
    obtain ⟨i, hi⟩ := List.getElem?_of_mem ha
    have hlt : i < vs.size := by rw [← hl]; exact (List.getElem?_eq_some_iff.1 hi).1
    exact ih i a vs[i] hi (by simp [hlt]) hd
  | @tup d cs vs hl h ih =>
    refine .tup fun a ha => ?_
    obtain ⟨i, hi⟩ := List.getElem?_of_mem ha
    have hlt : i < vs.size := by rw [← hl]; exact (List.getElem?_eq_some_iff.1 hi).1
    exact ih i a vs[i] hi (by simp [hlt]) hd
  | listNil => exact .list
  | list => exact .list
  | ref => cases hd
  | ptr => cases hd
  | elem => cases hd
  | fn => cases hd
  | cond => cases hd

/-- The cells of an element lie at a place. -/
def EAt (c : Ctx) (M : Nat → Prop) (e : AV) (b off : Nat) : Prop :=
  ∀ k a, e.cells[k]? = some a → a.Ok M ∧ ∃ v, c.w.cell? ⟨b, off + k, none⟩ = some v ∧ VRel c false a v ∧ v.oneCell' = true

def loadE (ti : TI) (e : AV) (k : Nat) : Option AV :=
  if ti.kind.isAgg then
    if k + ti.size ≤ e.cells.length then some (.agg ((e.cells.drop k).take ti.size)) else none
  else e.cells[k]?

section
variable {P : Program}
theorem load_ok {c : Ctx} {M : Nat → Prop} {e : AV} {b off k t : Nat} {ti : TI} {a : AV} (hE : EAt c M e b off) (ht : TiOk P t ti) (hl : loadE ti e k = some a) :
    a.Ok M ∧ ∃ v, (loadVar t ⟨b, off + k, none⟩).run P c.w = .ok v c.w ∧ VRel c false a v := by
  unfold loadE at hl
  split at hl
  · rename_i hagg
    split at hl
    · rename_i hle
      cases hl
      have hcell : ∀ j, j < ti.size → ∃ v, c.w.cell? ⟨b, off + (k + j), none⟩ = some v ∧ VRel c false (e.cells.getD (k + j) .junk) v ∧ v.oneCell' = true ∧ (e.cells.getD (k + j) .junk).Ok M := by
        intro j hj
        have hlt : k + j < e.cells.length := by omega
        obtain ⟨ho, v, h1, h2, h3⟩ := hE (k + j) _ (List.getElem?_eq_getElem hlt)
        exact ⟨v, h1, by simpa [List.getD, List.getElem?_eq_getElem hlt] using h2, h3, by simpa [List.getD, List.getElem?_eq_getElem hlt] using ho⟩
      let f : Nat → Value := fun j => (c.w.cell? ⟨b, off + (k + j), none⟩).getD undef
      have hf : ∀ j, j < ti.size → c.w.cell? ((⟨b, off + k, none⟩ : Addr).add j) = some (f j) := by
        intro j hj
        obtain ⟨v, h1, _⟩ := hcell j hj
        simp only [Addr.add_lit, f, Nat.add_assoc, h1, Option.getD_some]
      have hget : ∀ (j : Nat) (a : AV), ((e.cells.drop k).take ti.size)[j]? = some a → j < ti.size ∧ a = e.cells.getD (k + j) .junk := by
        intro j a ha
        rw [List.getElem?_take] at ha
        split at ha
        · rename_i hj
          rw [List.getElem?_drop] at ha
          exact ⟨hj, by simp [List.getD, ha]⟩
        · cases ha
      refine ⟨.agg fun a ha => ?_, .agg ((List.range ti.size).map f).toArray, ?_, .agg ?_ ?_ ?_⟩
      · obtain ⟨j, hj⟩ := List.getElem?_of_mem ha
        obtain ⟨hlt, rfl⟩ := hget j a hj
        obtain ⟨v, _, _, _, h⟩ := hcell j hlt
        exact h
      · simp only [loadVar, Sem.run_bind, run_isAgg_ty c.w ht, hagg, Result.andThen_ok, if_true, run_sizeOf_ty c.w ht, run_loadCells c.w _ _ f hf, Sem.run_pure]
      · simp; omega
      · intro v hv
        simp at hv
        obtain ⟨j, hj, rfl⟩ := hv
        obtain ⟨v, h1, _, h3, _⟩ := hcell j hj
        simpa [f, h1] using h3
      · intro i a v ha hv
        obtain ⟨hlt, rfl⟩ := hget i a ha
        obtain ⟨u, h1, h2, _⟩ := hcell i hlt
        simp [hlt] at hv
        subst hv
        simpa [f, h1] using h2
    · cases hl
  · rename_i hagg
    have hagg' : ti.kind.isAgg = false := by simpa using hagg
    obtain ⟨ho, v, h1, h2, _⟩ := hE k a hl
    refine ⟨ho, v, ?_, h2⟩
    simp only [loadVar, Sem.run_bind, run_isAgg_ty c.w ht, hagg', Result.andThen_ok, Bool.false_eq_true, if_false, run_load, h1]
end

/-- A pointer, and the element and the cell at which it points. -/
inductive Deref (H : Heap) : AV → AV → Nat → Prop
  | ptr {o i k x e} (hH : H o = some x) (he : x.es[i]? = some e) : Deref H (.ptr o i k) e k
  | elem {own e k} : Deref H (.elem own e k) e k

theorem deref_ok {c : Ctx} {H : Heap} {M : Nat → Prop} (hI : Inv c H M) {p : AV} {e : AV} {k : Nat} (h : Deref H p e k) {v : Value} (hv : VRel c false p v) :
    ∃ b off, v = .pointer (some ⟨b, off + k, none⟩) ∧ EAt c M e b off := by
  cases h with
  | @ptr o i k x e hH he =>
    cases hv
    refine ⟨_, _, rfl, fun k' a ha => ?_⟩
    obtain ⟨hM, ⟨⟨cur, hb, hsz, hc⟩, _, _, _⟩, hok⟩ := hI.obj o x hH
    obtain ⟨_, hc'⟩ := hc i e he
    obtain ⟨v, h1, h2, h3⟩ := hc' k' a ha
    refine ⟨hok e (List.mem_of_getElem? he) a (List.mem_of_getElem? ha), v, ?_, h2, h3⟩
    rw [cell_of_row _ _ _ _ _ _ hb]
    exact h1
  | elem =>
    cases hv with
    | elem vf hS hcell h1 h =>
      exact ⟨_, _, rfl, fun k' a ha => ⟨(h k' a ha).okDeep, _, hcell k' a ha, (h k' a ha).shallow, h1 k' a ha⟩⟩

end Go.Av
