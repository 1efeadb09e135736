/- Stores. -/
import Derived.Test.YtioookhnoobpgaaAvMk4
namespace Go.Av

def storeE (e : AV) (k : Nat) (x : AV) : AV :=
  match e with
  | .agg cs => match x with
    | .agg xs => if k == 0 && xs.length == cs.length then .agg xs else .agg (splice cs k xs)
    | _ => .agg (splice cs k [x])
  | _ => x.cells.headD e

inductive StR (T : Ty) (ev : Operand → AV) (H : Heap) : Op → Heap → Prop
  | store {t p x o i k y e ti} (hp : ev p = .ptr o i k) (hH : H o = some y) (hs : y.solo = true) (he : y.es[i]? = some e) (ht : T t = some ti) (hw : (ev x).whole = true)
      (hsz : (ev x).cells.length = ti.size) (hle : k + ti.size ≤ e.cells.length) (hpos : ti.size ≠ 0) :
      StR T ev H (.store t p x) (upd H o (some { y with es := y.es.set i (storeE e k (ev x)) }))

section
variable {P : Program} {T : Ty} {c : Ctx} {H H' : Heap} {M : Nat → Prop} {ev : Operand → AV} {σ : Operand → Value}

theorem cells_of_not_agg {e : AV} (h : ∀ cs, e ≠ .agg cs) : e.cells = [e] := by
  cases e with
  | agg cs => exact absurd rfl (h cs)
  | _ => rfl
theorem cells_storeE {e x : AV} {k : Nat} (hle : k + x.cells.length ≤ e.cells.length) (hpos : x.cells.length ≠ 0) (h1 : ∀ a ∈ x.cells, a.cells = [a]) : (storeE e k x).cells = splice e.cells k x.cells := by
  by_cases he : ∃ cs, e = .agg cs
  · obtain ⟨cs, rfl⟩ := he
    by_cases hx : ∃ xs, x = .agg xs
    · obtain ⟨xs, rfl⟩ := hx
      show (if k == 0 && xs.length == cs.length then AV.agg xs else AV.agg (splice cs k xs)).cells = splice cs k xs
      by_cases h : (k == 0 && xs.length == cs.length) = true
      · rw [if_pos h]
        simp only [Bool.and_eq_true, beq_iff_eq] at h
        obtain ⟨rfl, h⟩ := h
        simp [splice, h, AV.cells]
      · rw [if_neg h]; rfl
    · have hx' : ∀ xs, x ≠ .agg xs := fun xs h => hx ⟨xs, h⟩
      rw [cells_of_not_agg hx']
      cases x with
      | agg xs => exact absurd rfl (hx' xs)
      | _ => rfl
  · have he' : ∀ cs, e ≠ .agg cs := fun cs h => he ⟨cs, h⟩
    have hec := cells_of_not_agg he'
    rw [hec] at hle ⊢
    simp only [List.length_singleton] at hle
    obtain ⟨y, hy⟩ : ∃ y, x.cells = [y] := List.length_eq_one_iff.1 (by omega)
    have hk : k = 0 := by omega
    subst hk
    have hst : storeE e 0 x = y := by
      cases e with
      | agg cs => exact absurd rfl (he' cs)
      | _ => simp [storeE, hy]
    rw [hst, hy, h1 y (by rw [hy]; simp)]
    simp [splice]

theorem st_ok (hT : TyOk P T) (hI : Inv c H M) (hE : ∀ x, VRel c false (ev x) (σ x)) (hO : ∀ x, (ev x).Ok M) {o : Oper} {H' : Heap} (h : StR T ev H o.op H') :
    ∃ c', (execOp σ o).run P c.w = .ok .skip c'.w ∧ c.Le M c' ∧ c'.Sa = c.Sa ∧ c'.So = c.So ∧ Inv c' H' M ∧ Fr c H c'.w ∧ OwnRel c H c' H' := by
  obtain ⟨dst, op, type, pos, after, guard⟩ := o
  simp only at h
  cases h with
  | @store t p x o i k y e ti hp hH hs he ht hw hsz hle hpos =>
  have hpv := hE p
  rw [hp] at hpv
  have hcr := cells_rel (hE x) (hO x) hw
  obtain ⟨hMo, ⟨⟨cur, hcb, hcs, hcc⟩, hfits, hpos', hsame⟩, hoks⟩ := hI.obj o y hH
  obtain ⟨hel, hecl⟩ := hcc i e he
  have hi : i < y.es.length := (List.getElem?_eq_some_iff.1 he).1
  have hbound : (i + 1) * (c.ρ o).esz ≤ (c.ρ o).cap * (c.ρ o).esz := Nat.mul_le_mul_right _ (by omega)
  rw [Nat.add_mul] at hbound
  have hvl : (σ x).cells.size = ti.size := by rw [← hcr.len, hsz]
  have hone : ∀ v ∈ (σ x).cells.toList, v.oneCell' = true := by
    intro v hv
    obtain ⟨j, hj⟩ := List.getElem?_of_mem hv
    have hj' : (σ x).cells[j]? = some v := by simpa using hj
    have hjl : j < (ev x).cells.length := by rw [hcr.len]; exact (Array.getElem?_eq_some_iff.1 hj').1
    exact (hcr.rel j _ v (List.getElem?_eq_getElem hjl) hj').2.1
  have hleaf : ∀ a ∈ (ev x).cells, a.cells = [a] := by
    intro a ha
    obtain ⟨j, hj⟩ := List.getElem?_of_mem ha
    have hjl : j < (σ x).cells.size := by rw [← hcr.len]; exact (List.getElem?_eq_some_iff.1 hj).1
    obtain ⟨r1, r2, _⟩ := hcr.rel j a _ hj (Array.getElem?_eq_getElem hjl)
    cases a with
    | agg cs => obtain ⟨us, hu⟩ := r1.agg_inv; rw [hu] at r2; simp [Value.oneCell'] at r2
    | _ => rfl
  have hcells := cells_storeE (e := e) (k := k) (x := ev x) (by rw [hsz]; exact hle) (by rw [hsz]; exact hpos) hleaf
  let new : Array Value := (cur.toList.take (i * (c.ρ o).esz + k) ++ (σ x).cells.toList ++ cur.toList.drop (i * (c.ρ o).esz + k + (σ x).cells.toList.length)).toArray
  have hst := run_storeCells_at P (c.ρ o).blk (i * (c.ρ o).esz + k) (c.ρ o).ety (σ x).cells.toList 0 cur c.w hcb (by simp only [Array.length_toList]; omega) hone
  simp only [Nat.add_zero] at hst
  have hnsz : new.size = cur.size := by
    simp only [new, List.size_toArray, List.length_append, List.length_take, List.length_drop, Array.length_toList]; omega
  have hget : ∀ j, new[j]? = if i * (c.ρ o).esz + k ≤ j ∧ j < i * (c.ρ o).esz + k + ti.size then (σ x).cells[j - (i * (c.ρ o).esz + k)]? else cur[j]? := by
    intro j
    simp only [new, List.append_assoc, List.getElem?_toArray]
    rw [List.getElem?_append, List.getElem?_append]
    simp only [List.length_take, Array.length_toList, Nat.min_eq_left (show i * (c.ρ o).esz + k ≤ cur.size by omega)]
    by_cases h1 : j < i * (c.ρ o).esz + k
    · rw [if_pos h1, if_neg (by omega), List.getElem?_take, if_pos h1]; simp
    · rw [if_neg h1]
      by_cases h2 : j - (i * (c.ρ o).esz + k) < (σ x).cells.size
      · rw [if_pos h2, if_pos (by omega)]; simp
      · rw [if_neg h2, if_neg (by omega), List.getElem?_drop]
        simp only [Array.getElem?_toList]
        congr 1; omega
  have hrow : (c.w.setRow (c.ρ o).blk new).heap[(c.ρ o).blk]? = some (.cells new (c.ρ o).ety (0, 0)) := setRow_heap c.w _ cur new _ _ hcb
  have hother : ∀ b, b ≠ (c.ρ o).blk → (c.w.setRow (c.ρ o).blk new).heap[b]? = c.w.heap[b]? := fun b hb => setRow_other c.w _ b new hb
  have hstab := hI.stab o y hH
  have hle' : c.Le M ⟨c.w.setRow (c.ρ o).blk new, c.ρ, c.Sa, c.So, c.B⟩ :=
    ⟨fun _ _ => rfl, fun b hb => hb, fun b hb => hb, fun b hb => hother b (fun e => by subst e; exact hb.elim hstab.1 hstab.2), rfl⟩
  have hM : ∀ q z, upd H o (some { y with es := y.es.set i (storeE e k (ev x)) }) q = some z → (q = o ∧ z = { y with es := y.es.set i (storeE e k (ev x)) }) ∨ (q ≠ o ∧ H q = some z) := by
    intro q z hz
    by_cases hq : q = o
    · subst hq; rw [upd_same] at hz; cases hz; exact .inl ⟨rfl, rfl⟩
    · rw [upd_other _ _ hq] at hz; exact .inr ⟨hq, hz⟩
  have hne : ∀ q z, q ≠ o → H q = some z → (c.ρ q).blk ≠ (c.ρ o).blk := by
    intro q z hq hz hb
    have := (hI.sep o q y z hH hz (fun e => hq e.symm) hb.symm).1
    rw [hs] at this; cases this
  refine ⟨⟨c.w.setRow (c.ρ o).blk new, c.ρ, c.Sa, c.So, c.B⟩, ?_, hle', rfl, rfl, ⟨?_, ?_, ?_, fun b hb => by simpa using hI.lt b hb, by simpa using hI.base, hI.own, ?_⟩, ⟨rfl, rfl, rfl, by simp, fun b _ hb => hother b (fun e => hb o y hH e.symm)⟩, fun q z hz => by
    rcases hM q z hz with ⟨h1, h2⟩ | ⟨_, hz⟩
    · subst h1; exact .inr ⟨q, y, hH, rfl⟩
    · exact .inr ⟨q, z, hz, rfl⟩⟩
  · simp only [execOp, Instr.storeAt, hpv.ptr_inv, Instr.sureAddr, Sem.run_bind, Sem.run_pure, Result.andThen_ok, storeVar, run_sizeOf_ty c.w (hT t ti ht), hvl, ne_eq, not_true_eq_false, if_false, hst]
    rfl
  · intro q z hz
    rcases hM q z hz with ⟨rfl, rfl⟩ | ⟨hq, hz⟩
    · have hleE : k + (ev x).cells.length ≤ e.cells.length := by rw [hsz]; exact hle
      have hgetE : ∀ (j : Nat) e', (y.es.set i (storeE e k (ev x)))[j]? = some e' → (j = i ∧ e' = storeE e k (ev x)) ∨ (j ≠ i ∧ y.es[j]? = some e') := by
        intro j e' he'
        by_cases hj : j = i
        · subst hj; rw [List.getElem?_set_self hi] at he'; cases he'; exact .inl ⟨rfl, rfl⟩
        · rw [List.getElem?_set_ne (fun e => hj e.symm)] at he'; exact .inr ⟨hj, he'⟩
      refine ⟨hMo, ⟨⟨new, hrow, by rw [hnsz]; exact hcs, ?_⟩, by simpa using hfits, hpos', hsame⟩, ?_⟩
      · intro j e' he'
        rcases hgetE j e' he' with ⟨rfl, rfl⟩ | ⟨hj, he'⟩
        · refine ⟨?_, fun k' a ha => ?_⟩
          · rw [hcells]; unfold splice; simp only [List.length_append, List.length_take, List.length_drop]; omega
          · rw [hcells, getElem?_splice hleE] at ha
            show ∃ v, new[j * (c.ρ q).esz + k']? = some v ∧ _
            rw [hget]
            by_cases h1 : k ≤ k' ∧ k' < k + (ev x).cells.length
            · rw [if_pos h1] at ha
              rw [if_pos (by omega)]
              have hkk : j * (c.ρ q).esz + k' - (j * (c.ρ q).esz + k) = k' - k := by omega
              rw [hkk]
              have hlt : k' - k < (σ x).cells.size := by omega
              obtain ⟨r1, r2, _⟩ := hcr.rel (k' - k) a _ ha (Array.getElem?_eq_getElem hlt)
              exact ⟨_, Array.getElem?_eq_getElem hlt, r1.mono hle' (.inr (by obtain ⟨_, _, r⟩ := hcr.rel (k' - k) a _ ha (Array.getElem?_eq_getElem hlt); exact r)), r2⟩
            · rw [if_neg h1] at ha
              rw [if_neg (by omega)]
              obtain ⟨v, h3, h4, h5⟩ := hecl k' a ha
              exact ⟨v, h3, h4.mono hle' (.inr (hoks e (List.mem_of_getElem? he) a (List.mem_of_getElem? ha))), h5⟩
        · obtain ⟨g1, g2⟩ := hcc j e' he'
          refine ⟨g1, fun k' a ha => ?_⟩
          obtain ⟨v, h3, h4, h5⟩ := g2 k' a ha
          have hk' : k' < (c.ρ q).esz := by rw [← g1]; exact (List.getElem?_eq_some_iff.1 ha).1
          refine ⟨v, ?_, h4.mono hle' (.inr (hoks e' (List.mem_of_getElem? he') a (List.mem_of_getElem? ha))), h5⟩
          show new[j * (c.ρ q).esz + k']? = some v
          rw [hget, if_neg ?_]
          · exact h3
          · rcases Nat.lt_or_gt_of_ne hj with hlt | hgt
            · have : (j + 1) * (c.ρ q).esz ≤ i * (c.ρ q).esz := Nat.mul_le_mul_right _ hlt
              rw [Nat.add_mul] at this; omega
            · have : (i + 1) * (c.ρ q).esz ≤ j * (c.ρ q).esz := Nat.mul_le_mul_right _ hgt
              rw [Nat.add_mul] at this; omega
      · intro e' he' a ha
        obtain ⟨j, hj⟩ := List.getElem?_of_mem he'
        rcases hgetE j e' hj with ⟨rfl, rfl⟩ | ⟨_, hj⟩
        · rw [hcells] at ha
          unfold splice at ha
          simp only [List.mem_append] at ha
          rcases ha with (ha | ha) | ha
          · exact hoks e (List.mem_of_getElem? he) a (List.mem_of_mem_take ha)
          · obtain ⟨m, hm⟩ := List.getElem?_of_mem ha
            have hml : m < (σ x).cells.size := by rw [← hcr.len]; exact (List.getElem?_eq_some_iff.1 hm).1
            exact (hcr.rel m a _ hm (Array.getElem?_eq_getElem hml)).2.2
          · exact hoks e (List.mem_of_getElem? he) a (List.mem_of_mem_drop ha)
        · exact hoks e' (List.mem_of_getElem? hj) a ha
    · obtain ⟨g1, ⟨⟨cu, hb, hs', hc⟩, hf, hpp, hse⟩, g3⟩ := hI.obj q z hz
      refine ⟨g1, ⟨⟨cu, ?_, hs', ?_⟩, hf, hpp, hse⟩, g3⟩
      · rw [hother _ (hne q z hq hz)]; exact hb
      · intro j e' he'
        obtain ⟨h1, h2⟩ := hc j e' he'
        exact ⟨h1, fun k' a ha => by obtain ⟨v, h3, h4, h5⟩ := h2 k' a ha; exact ⟨v, h3, h4.mono hle' (.inr (g3 e' (List.mem_of_getElem? he') a (List.mem_of_getElem? ha))), h5⟩⟩
  · intro q q' z z' hz hz' hqq hb
    rcases hM q z hz with ⟨h1, h2⟩ | ⟨hq, hzo⟩
    · rcases hM q' z' hz' with ⟨h3, h4⟩ | ⟨hq', hzo'⟩
      · exact absurd (h1.trans h3.symm) hqq
      · subst h1; exact absurd hb.symm (hne q' z' hq' hzo')
    · rcases hM q' z' hz' with ⟨h3, h4⟩ | ⟨hq', hzo'⟩
      · subst h3; exact absurd hb (hne q z hq hzo)
      · exact hI.sep q q' z z' hzo hzo' hqq hb
  · intro q z hz
    rcases hM q z hz with ⟨h1, h2⟩ | ⟨hq, hz⟩
    · subst h1; exact hstab
    · exact hI.stab q z hz
  · intro q z hz
    rcases hM q z hz with ⟨h1, h2⟩ | ⟨hq, hz⟩
    · subst h1; exact hI.low q y hH
    · exact hI.low q z hz
end
end Go.Av
