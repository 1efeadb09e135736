/- Appending in place; marking an object as spent. -/
import Derived.Test.YtioookhnoobpgaaAvMk2
namespace Go.Av

section
variable {c : Ctx} {H : Heap} {M : Nat → Prop}

theorem Inv.mark (hI : Inv c H M) {o : Nat} {y : Obj} (hy : H o = some y) : Inv c (upd H o ((H o).map Obj.mark)) M := by
  have key : ∀ p z, upd H o ((H o).map Obj.mark) p = some z → ∃ z', H p = some z' ∧ z.es = z'.es ∧ z.esz = z'.esz ∧ ((p = o ∧ z.spent = true ∧ z.solo = false) ∨ (p ≠ o ∧ z = z')) := by
    intro p z hz
    by_cases hp : p = o
    · subst hp; rw [upd_same, hy] at hz; cases hz; exact ⟨y, hy, rfl, rfl, .inl ⟨rfl, rfl, rfl⟩⟩
    · rw [upd_other _ _ hp] at hz; exact ⟨z, hz, rfl, rfl, .inr ⟨hp, rfl⟩⟩
  refine ⟨?_, ?_, ?_, hI.lt, hI.base, hI.own, ?_⟩
  · intro p z hz
    obtain ⟨z', hz', he, hs, _⟩ := key p z hz
    obtain ⟨h1, ⟨h2, h3, h4, h5⟩, h6⟩ := hI.obj p z' hz'
    refine ⟨h1, ⟨by rw [he]; exact h2, by rw [he]; exact h3, h4, by rw [hs]; exact h5⟩, by rw [he]; exact h6⟩
  · intro p p' z z' hz hz' hne hb
    obtain ⟨x, hx, he, hee, hc⟩ := key p z hz
    obtain ⟨x', hx', he', hee', hc'⟩ := key p' z' hz'
    obtain ⟨s1, s2⟩ := hI.sep p p' x x' hx hx' hne hb
    rcases hc with ⟨rfl, h1, h2⟩ | ⟨_, rfl⟩
    · exact ⟨h2, fun h => by rw [h1] at h; cases h⟩
    · refine ⟨s1, fun h => ?_⟩
      obtain ⟨t1, t2⟩ := s2 h
      rw [he', hee']
      rcases hc' with ⟨_, h1, _⟩ | ⟨_, rfl⟩
      · exact ⟨h1, t2⟩
      · exact ⟨t1, t2⟩
  · intro p z hz
    obtain ⟨z', hz', _⟩ := key p z hz
    exact hI.stab p z' hz'
  · intro p z hz
    obtain ⟨z', hz', _⟩ := key p z hz
    exact hI.low p z' hz'

/-- A new object in the block of an old one that is spent thereby. -/
theorem Inv.grow (hI : Inv c H M) {id o : Nat} (hid : ¬ M id) {y x : Obj} (hy : H o = some y) (hsp : y.spent = false) {cur new : Array Value}
    (hcur : c.w.heap[(c.ρ o).blk]? = some (.cells cur (c.ρ o).ety (0, 0))) (hnew : new.size = cur.size)
    (hkeep : ∀ j, j < y.es.length * (c.ρ o).esz → new[j]? = cur[j]?) (hes : x.esz = (c.ρ o).esz) (hfits : x.es.length ≤ (c.ρ o).cap) (hlen : y.es.length ≤ x.es.length)
    (hel : ∀ (i : Nat) e, x.es[i]? = some e → e.cells.length = (c.ρ o).esz ∧ ∀ (k : Nat) a, e.cells[k]? = some a → a.Ok M ∧ ∃ v, new[i * (c.ρ o).esz + k]? = some v ∧ VRel c false a v ∧ v.oneCell' = true) :
    c.Le M ⟨c.w.setRow (c.ρ o).blk new, upd c.ρ id (c.ρ o), c.Sa, c.So, c.B⟩ ∧
    Inv ⟨c.w.setRow (c.ρ o).blk new, upd c.ρ id (c.ρ o), c.Sa, c.So, c.B⟩ (upd (upd H o ((H o).map Obj.mark)) id (some { x with solo := false })) (fun q => M q ∨ q = id) ∧
    Fr c H (c.w.setRow (c.ρ o).blk new) := by
  have hI' := hI.mark hy
  have hoid : o ≠ id := fun e => hid (e ▸ (hI.obj o y hy).1)
  have hst := hI.stab o y hy
  have hrow : (c.w.setRow (c.ρ o).blk new).heap[(c.ρ o).blk]? = some (.cells new (c.ρ o).ety (0, 0)) := setRow_heap c.w _ cur new _ _ hcur
  have hother : ∀ b, b ≠ (c.ρ o).blk → (c.w.setRow (c.ρ o).blk new).heap[b]? = c.w.heap[b]? := fun b hb => setRow_other c.w _ b new hb
  have hle : c.Le M ⟨c.w.setRow (c.ρ o).blk new, upd c.ρ id (c.ρ o), c.Sa, c.So, c.B⟩ :=
    ⟨fun p hp => upd_other _ _ (fun e => hid (e ▸ hp)), fun b hb => hb, fun b hb => hb, fun b hb => hother b (fun e => by subst e; exact hb.elim hst.1 hst.2), rfl⟩
  have hρ : ∀ p, M p → upd c.ρ id (c.ρ o) p = c.ρ p := fun p hp => upd_other _ _ (fun e => hid (e ▸ hp))
  obtain ⟨hMo, ⟨⟨cur', hb', hsz', hc'⟩, hf', hp', hs'⟩, hok'⟩ := hI.obj o y hy
  rw [hcur] at hb'
  cases hb'
  have hM : ∀ p z, upd (upd H o ((H o).map Obj.mark)) id (some { x with solo := false }) p = some z →
      (p = id ∧ z = { x with solo := false }) ∨ (p ≠ id ∧ upd H o ((H o).map Obj.mark) p = some z) := by
    intro p z hz
    by_cases hp : p = id
    · subst hp; rw [upd_same] at hz; cases hz; exact .inl ⟨rfl, rfl⟩
    · rw [upd_other _ _ hp] at hz; exact .inr ⟨hp, hz⟩
  have hmk : upd H o ((H o).map Obj.mark) o = some y.mark := by rw [upd_same, hy]; rfl
  -- an object in the same block is as long as o at most
  have hshort : ∀ p z, upd H o ((H o).map Obj.mark) p = some z → (c.ρ p).blk = (c.ρ o).blk → z.spent = true ∧ z.es.length * z.esz ≤ y.es.length * y.esz ∧ z.solo = false := by
    intro p z hz hb
    by_cases hp : p = o
    · subst hp; rw [hmk] at hz; cases hz; exact ⟨rfl, Nat.le_refl _, rfl⟩
    · rw [upd_other _ _ hp] at hz
      obtain ⟨_, h1⟩ := hI.sep o p y z hy hz (fun e => hp e.symm) hb.symm
      obtain ⟨h2, h3⟩ := h1 hsp
      exact ⟨h2, h3, (hI.sep p o z y hz hy hp hb).1⟩
  refine ⟨hle, ⟨?_, ?_, ?_, ?_, by simpa using hI.base, hI.own, ?_⟩, ⟨rfl, rfl, rfl, by simp, fun b _ hb => hother b (fun e => hb o y hy e.symm)⟩⟩
  · intro p z hz
    rcases hM p z hz with ⟨rfl, rfl⟩ | ⟨hp, hz⟩
    · refine ⟨.inr rfl, ⟨⟨new, ?_, ?_, ?_⟩, ?_, ?_, ?_⟩, ?_⟩
      · simp only [upd_same]; exact hrow
      · simp only [upd_same]; rw [hnew]; exact hsz'
      · simp only [upd_same]
        intro i e he
        obtain ⟨h1, h2⟩ := hel i e he
        exact ⟨h1, fun k a ha => by obtain ⟨hok, v, hv, hr, h3⟩ := h2 k a ha; exact ⟨v, hv, hr.mono hle (.inr hok), h3⟩⟩
      · simp only [upd_same]; exact hfits
      · simp only [upd_same]; exact hp'
      · simp only [upd_same]; exact hes
      · intro e he a ha
        obtain ⟨i, hi⟩ := List.getElem?_of_mem he
        obtain ⟨k, hk⟩ := List.getElem?_of_mem ha
        exact ((hel i e hi).2 k a hk).1.mono (fun q hq => .inl hq)
    · obtain ⟨hm, ⟨⟨cu, hb, hs, hc⟩, hf, hpp, hse⟩, hok⟩ := hI'.obj p z hz
      have hmono : ∀ e ∈ z.es, ∀ (a : AV) v, a ∈ e.cells → VRel c false a v → VRel ⟨c.w.setRow (c.ρ o).blk new, upd c.ρ id (c.ρ o), c.Sa, c.So, c.B⟩ false a v :=
        fun e he a v ha hr => hr.mono hle (.inr (hok e he a ha))
      by_cases hblk : (c.ρ p).blk = (c.ρ o).blk
      · obtain ⟨_, hlen', _⟩ := hshort p z hz hblk
        rw [hblk, hcur] at hb
        simp only [Option.some.injEq, Obj.cells.injEq, and_true] at hb
        obtain ⟨rfl, hty⟩ := hb
        refine ⟨.inl hm, ⟨⟨new, ?_, ?_, ?_⟩, ?_, ?_, ?_⟩, fun e he a ha => (hok e he a ha).mono (fun q hq => .inl hq)⟩
        · simp only [hρ p hm, hblk]; rw [hrow, hty]
        · simp only [hρ p hm]; rw [hnew]; exact hs
        · simp only [hρ p hm]
          intro i e he
          obtain ⟨h1, h2⟩ := hc i e he
          refine ⟨h1, fun k a ha => ?_⟩
          obtain ⟨v, hv, hr, h3⟩ := h2 k a ha
          refine ⟨v, ?_, hmono e (List.mem_of_getElem? he) a v (List.mem_of_getElem? ha) hr, h3⟩
          have hi : i < z.es.length := (List.getElem?_eq_some_iff.1 he).1
          have hk : k < (c.ρ p).esz := by rw [← h1]; exact (List.getElem?_eq_some_iff.1 ha).1
          have h4 : (i + 1) * (c.ρ p).esz ≤ z.es.length * (c.ρ p).esz := Nat.mul_le_mul_right _ hi
          rw [Nat.add_mul] at h4
          rw [hse, hs'] at hlen'
          rw [hkeep _ (by omega)]
          exact hv
        · simp only [hρ p hm]; exact hf
        · simp only [hρ p hm]; exact hpp
        · simp only [hρ p hm]; exact hse
      · refine ⟨.inl hm, ⟨⟨cu, ?_, ?_, ?_⟩, ?_, ?_, ?_⟩, fun e he a ha => (hok e he a ha).mono (fun q hq => .inl hq)⟩
        · simp only [hρ p hm]; rw [hother _ hblk]; exact hb
        · simp only [hρ p hm]; exact hs
        · simp only [hρ p hm]
          intro i e he
          obtain ⟨h1, h2⟩ := hc i e he
          refine ⟨h1, fun k a ha => ?_⟩
          obtain ⟨v, hv, hr, h3⟩ := h2 k a ha
          exact ⟨v, hv, hmono e (List.mem_of_getElem? he) a v (List.mem_of_getElem? ha) hr, h3⟩
        · simp only [hρ p hm]; exact hf
        · simp only [hρ p hm]; exact hpp
        · simp only [hρ p hm]; exact hse
  · intro p p' z z' hz hz' hne hb
    rcases hM p z hz with ⟨rfl, rfl⟩ | ⟨hp, hzo⟩
    · rcases hM p' z' hz' with ⟨hp', _⟩ | ⟨hp', hz'⟩
      · exact absurd hp'.symm hne
      · simp only [upd_same, hρ p' (hI'.obj p' z' hz').1] at hb
        obtain ⟨h1, h2, _⟩ := hshort p' z' hz' hb.symm
        exact ⟨rfl, fun _ => ⟨h1, Nat.le_trans h2 (by rw [hs']; show _ ≤ x.es.length * x.esz; rw [hes]; exact Nat.mul_le_mul_right _ hlen)⟩⟩
    · rcases hM p' z' hz' with ⟨hp', hzx⟩ | ⟨hp', hz'⟩
      · subst hp'
        simp only [upd_same, hρ p (hI'.obj p z hzo).1] at hb
        obtain ⟨h1, _, h3⟩ := hshort p z hzo hb
        exact ⟨h3, fun h => by rw [h1] at h; cases h⟩
      · simp only [hρ p (hI'.obj p z hzo).1, hρ p' (hI'.obj p' z' hz').1] at hb
        exact hI'.sep p p' z z' hzo hz' hne hb
  · intro p z hz
    rcases hM p z hz with ⟨rfl, rfl⟩ | ⟨hp, hz⟩
    · simp only [upd_same]; exact hst
    · simp only [hρ p (hI'.obj p z hz).1]; exact hI'.stab p z hz
  · intro b hb
    simpa using hI.lt b hb
  · intro p z hz
    rcases hM p z hz with ⟨rfl, rfl⟩ | ⟨hp, hz⟩
    · simp only [upd_same]; exact hI.low o y hy
    · simp only [hρ p (hI'.obj p z hz).1]; exact hI'.low p z hz
end
end Go.Av
