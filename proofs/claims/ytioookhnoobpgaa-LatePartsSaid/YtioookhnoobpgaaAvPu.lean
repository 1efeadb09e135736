/- The relation of the pure operations, and that it is sound. -/
import Derived.Test.YtioookhnoobpgaaAvPure2
namespace Go.Av

theorem ofCell_rel (c : Ctx) (d : Bool) (v : Value) : VRel c d (ofCell v) v := by
  unfold ofCell
  split
  · exact .nils
  · exact .sc
theorem ofCell_ok (M : Nat → Prop) (v : Value) : (ofCell v).Ok M := by
  unfold ofCell
  split
  · exact .nils
  · exact .sc
theorem ofConst_rel (c : Ctx) (d : Bool) (v : Value) : VRel c d (ofConst v) v := by
  unfold ofConst
  split
  · rename_i vs
    split
    · rename_i h
      refine .agg (by simp) (fun v hv => ?_) (fun i a v ha hv => ?_)
      · rw [Array.all_eq_true_iff_forall_mem] at h; exact h v hv
      · simp only [List.getElem?_map, Array.getElem?_toList, hv, Option.map_some] at ha
        cases ha
        exact ofCell_rel c d v
    · exact .sc
  · exact ofCell_rel c d v
theorem ofConst_ok (M : Nat → Prop) (v : Value) : (ofConst v).Ok M := by
  unfold ofConst
  split
  · rename_i vs
    split
    · refine .agg fun a ha => ?_
      obtain ⟨v, _, rfl⟩ := List.mem_map.1 ha
      exact ofCell_ok M v
    · exact .sc
  · exact ofCell_ok M v

/-- Some cells, abstract and in the model. -/
structure CellsRel (c : Ctx) (M : Nat → Prop) (l : List AV) (vs : Array Value) : Prop where
  len : l.length = vs.size
  rel : ∀ (i : Nat) a v, l[i]? = some a → vs[i]? = some v → VRel c false a v ∧ v.oneCell' = true ∧ a.Ok M

theorem CellsRel.agg {c : Ctx} {M : Nat → Prop} {l : List AV} {vs : Array Value} (h : CellsRel c M l vs) : VRel c false (.agg l) (.agg vs) ∧ (AV.agg l).Ok M := by
  refine ⟨.agg h.len (fun v hv => ?_) (fun i a v ha hv => (h.rel i a v ha hv).1), .agg fun a ha => ?_⟩
  · obtain ⟨i, hi, rfl⟩ := Array.getElem_of_mem hv
    have : i < l.length := by rw [h.len]; exact hi
    exact (h.rel i l[i] vs[i] (List.getElem?_eq_getElem this) (Array.getElem?_eq_getElem hi)).2.1
  · obtain ⟨i, hi⟩ := List.getElem?_of_mem ha
    have : i < vs.size := by rw [← h.len]; exact (List.getElem?_eq_some_iff.1 hi).1
    exact (h.rel i a vs[i] hi (Array.getElem?_eq_getElem this)).2.2
theorem CellsRel.of_agg {c : Ctx} {M : Nat → Prop} {l : List AV} {vs : Array Value} (h : VRel c false (.agg l) (.agg vs)) (hk : (AV.agg l).Ok M) : CellsRel c M l vs := by
  cases h with
  | agg hl h1 h => cases hk with | agg hk => exact ⟨hl, fun i a v ha hv => ⟨h i a v ha hv, h1 v (Array.mem_of_getElem? hv), hk a (List.mem_of_getElem? ha)⟩⟩

theorem cells_rel {c : Ctx} {M : Nat → Prop} {a : AV} {v : Value} (h : VRel c false a v) (hk : a.Ok M) (hw : a.whole = true) : CellsRel c M a.cells v.cells := by
  cases a with
  | agg cs => cases h with | agg hl h1 h => exact .of_agg (.agg hl h1 h) hk
  | _ =>
    first
      | (simp [AV.whole, AV.leaf] at hw; done)
      | (have hone := h.oneCell (by simpa [AV.whole] using hw)
         have hc : v.cells = #[v] := by cases v <;> first | rfl | simp [Value.oneCell'] at hone
         refine ⟨by simp [AV.cells, hc], fun i a' v' ha hv => ?_⟩
         rw [hc] at hv
         cases i with
         | zero => simp [AV.cells] at ha hv; subst ha hv; exact ⟨h, hone, hk⟩
         | succ i => simp [AV.cells] at ha)

def splice (l : List AV) (off : Nat) (m : List AV) : List AV := l.take off ++ m ++ l.drop (off + m.length)

theorem getElem?_splice {l m : List AV} {off : Nat} (h : off + m.length ≤ l.length) (j : Nat) :
    (splice l off m)[j]? = if off ≤ j ∧ j < off + m.length then m[j - off]? else l[j]? := by
  unfold splice
  rw [List.append_assoc, List.getElem?_append, List.getElem?_append]
  simp only [List.length_take, Nat.min_eq_left (show off ≤ l.length by omega)]
  by_cases h1 : j < off
  · rw [if_pos h1, if_neg (by omega), List.getElem?_take, if_pos h1]
  · rw [if_neg h1]
    by_cases h2 : j - off < m.length
    · rw [if_pos h2, if_pos (by omega)]
    · rw [if_neg h2, if_neg (by omega), List.getElem?_drop]
      congr 1; omega

theorem foldl_set (vs : Array Value) (off : Nat) (cs : Array Value) (h : off + vs.size ≤ cs.size) (j : Nat) :
    (vs.zipIdx.foldl (fun cs (x : Value × Nat) => cs.setIfInBounds (off + x.2) x.1) cs)[j]? = if off ≤ j ∧ j < off + vs.size then vs[j - off]? else cs[j]? := by
  rw [← Array.foldl_toList, Array.toList_zipIdx]
  obtain ⟨l⟩ := vs
  simp only [List.size_toArray, List.getElem?_toArray] at *
  have key : ∀ (l : List Value) (n : Nat) (cs : Array Value), off + n + l.length ≤ cs.size → ∀ j,
      ((l.zipIdx n).foldl (fun cs (x : Value × Nat) => cs.setIfInBounds (off + x.2) x.1) cs)[j]? = if off + n ≤ j ∧ j < off + n + l.length then l[j - off - n]? else cs[j]? := by
    intro l
    induction l with
    | nil => intro n cs h j; simp; intro h1 h2; omega
    | cons a l ih =>
      intro n cs h j
      simp only [List.length_cons] at h
      rw [List.zipIdx_cons, List.foldl_cons, ih (n + 1) _ (by simp; omega) j]
      by_cases h1 : j = off + n
      · subst h1
        rw [if_neg (by omega), if_pos (by simp)]
        have : off + n < cs.size := by omega
        simp [this, show off + n - off - n = 0 by omega]
      · by_cases h2 : off + n ≤ j ∧ j < off + n + (a :: l).length
        · have hlt : j < off + n + 1 + l.length := by have := h2.2; simp only [List.length_cons] at this; omega
          rw [if_pos ⟨by omega, by omega⟩, if_pos h2]
          rw [show j - off - n = (j - off - (n + 1)) + 1 by omega, List.getElem?_cons_succ]
        · rw [if_neg (by simp only [List.length_cons] at h2; omega), if_neg h2, Array.getElem?_setIfInBounds_ne (by omega)]
  have := key l 0 cs (by simpa using h) j
  simpa using this

theorem CellsRel.splice {c : Ctx} {M : Nat → Prop} {l m : List AV} {vs us : Array Value} (h : CellsRel c M l vs) (g : CellsRel c M m us) {off : Nat} (ho : off + m.length ≤ l.length) :
    CellsRel c M (splice l off m) (us.zipIdx.foldl (fun cs (x : Value × Nat) => cs.setIfInBounds (off + x.2) x.1) vs) := by
  have hsz : ∀ (l : List (Value × Nat)) (cs : Array Value), (l.foldl (fun cs (x : Value × Nat) => cs.setIfInBounds (off + x.2) x.1) cs).size = cs.size := by
    intro l
    induction l with
    | nil => intro cs; rfl
    | cons a l ih => intro cs; rw [List.foldl_cons, ih]; simp
  have hl := h.len
  have gl := g.len
  refine ⟨?_, fun i a v ha hv => ?_⟩
  · rw [← Array.foldl_toList, hsz]
    unfold Av.splice
    simp only [List.length_append, List.length_take, List.length_drop]
    omega
  · rw [getElem?_splice ho] at ha
    rw [foldl_set us off vs (by omega)] at hv
    by_cases h1 : off ≤ i ∧ i < off + m.length
    · rw [if_pos h1] at ha
      rw [if_pos (by omega)] at hv
      exact g.rel _ a v ha hv
    · rw [if_neg h1] at ha
      rw [if_neg (by omega)] at hv
      exact h.rel _ a v ha hv

def fillA (place : Nat → Option (Nat × Nat)) (cells : List AV) : List (Nat × AV) → Option (List AV)
  | [] => some cells
  | (i, v) :: rest =>
    match place i with
    | none => none
    | some (off, size) =>
      if v.whole && v.cells.length == size && decide (off + size ≤ cells.length) then fillA place (splice cells off v.cells) rest else none

theorem fill_ok {c : Ctx} {M : Nat → Prop} (place : Nat → Option (Nat × Nat)) (ev : Operand → AV) (σ : Operand → Value) (hE : ∀ x, VRel c false (ev x) (σ x) ∧ (ev x).Ok M) :
    ∀ (ps : List (Nat × Operand)) (l r : List AV) (vs : Array Value), CellsRel c M l vs → fillA place l (ps.map fun p => (p.1, ev p.2)) = some r →
      ∃ us, Instr.fill place vs (ps.map fun p => (p.1, σ p.2)) = some us ∧ CellsRel c M r us := by
  intro ps
  induction ps with
  | nil => intro l r vs hr h; simp [fillA] at h; subst h; exact ⟨vs, rfl, hr⟩
  | cons p ps ih =>
    intro l r vs hr h
    simp only [List.map_cons, fillA] at h
    simp only [List.map_cons, Instr.fill]
    cases hp : place p.1 with
    | none => simp [hp] at h
    | some q =>
      obtain ⟨off, size⟩ := q
      simp only [hp] at h ⊢
      split at h
      · rename_i hc
        simp only [Bool.and_eq_true, beq_iff_eq, decide_eq_true_eq] at hc
        obtain ⟨⟨hw, hs⟩, hle⟩ := hc
        have hcr := cells_rel (hE p.2).1 (hE p.2).2 hw
        have h1 := hcr.len
        have h2 := hr.len
        rw [if_neg (by simp only [Bool.or_eq_true, decide_eq_true_eq, ne_eq]; omega)]
        exact ih _ _ _ (hr.splice hcr (by omega)) h
      · cases h

end Go.Av
