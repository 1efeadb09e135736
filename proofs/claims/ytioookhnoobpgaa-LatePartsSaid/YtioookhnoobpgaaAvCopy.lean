/- Objects written in one go: copy. -/
import Derived.Test.YtioookhnoobpgaaAvScope
namespace Go.Av
section
variable {P : Program} {T : Ty} {c : Ctx} {H : Heap} {M : Nat → Prop} {ev : Operand → AV} {σ : Operand → Value}

/-- An object is given new contents. -/
theorem obj_write (hI : Inv c H M) {o : Nat} {y : Obj} (hH : H o = some y) (hs : y.solo = true) {cur new : Array Value} (hcb : c.w.heap[(c.ρ o).blk]? = some (.cells cur (c.ρ o).ety (0, 0)))
    (hnsz : new.size = cur.size) {es' : List AV} (hlen : es'.length ≤ (c.ρ o).cap)
    (hrel : ∀ (i : Nat) e, es'[i]? = some e → e.cells.length = (c.ρ o).esz ∧ ∀ (k : Nat) a, e.cells[k]? = some a → a.Ok M ∧ ∃ v, new[i * (c.ρ o).esz + k]? = some v ∧ VRel c false a v ∧ v.oneCell' = true) :
    let c' : Ctx := ⟨c.w.setRow (c.ρ o).blk new, c.ρ, c.Sa, c.So, c.B⟩
    c.Le M c' ∧ Inv c' (upd H o (some { y with es := es' })) M ∧ Fr c H c'.w ∧ OwnRel c H c' (upd H o (some { y with es := es' })) := by
  intro c'
  obtain ⟨hMo, ⟨⟨cur0, hcb0, hcs, hcc⟩, hfits, hpos', hsame⟩, hoks⟩ := hI.obj o y hH
  obtain rfl : cur0 = cur := by rw [hcb0] at hcb; cases hcb; rfl
  have hrow : (c.w.setRow (c.ρ o).blk new).heap[(c.ρ o).blk]? = some (.cells new (c.ρ o).ety (0, 0)) := setRow_heap c.w _ cur0 new _ _ hcb
  have hother : ∀ b, b ≠ (c.ρ o).blk → (c.w.setRow (c.ρ o).blk new).heap[b]? = c.w.heap[b]? := fun b hb => setRow_other c.w _ b new hb
  have hstab := hI.stab o y hH
  have hle' : c.Le M c' :=
    ⟨fun _ _ => rfl, fun b hb => hb, fun b hb => hb, fun b hb => hother b (fun e => by subst e; exact hb.elim hstab.1 hstab.2), rfl⟩
  have hM : ∀ q z, upd H o (some { y with es := es' }) q = some z → (q = o ∧ z = { y with es := es' }) ∨ (q ≠ o ∧ H q = some z) := by
    intro q z hz
    by_cases hq : q = o
    · subst hq; rw [upd_same] at hz; cases hz; exact .inl ⟨rfl, rfl⟩
    · rw [upd_other _ _ hq] at hz; exact .inr ⟨hq, hz⟩
  have hne : ∀ q z, q ≠ o → H q = some z → (c.ρ q).blk ≠ (c.ρ o).blk := by
    intro q z hq hz hb
    have := (hI.sep o q y z hH hz (fun e => hq e.symm) hb.symm).1
    rw [hs] at this; cases this
  refine ⟨hle', ⟨?_, ?_, ?_, fun b hb => by simpa [c'] using hI.lt b hb, by simpa [c'] using hI.base, hI.own, ?_⟩, ⟨rfl, rfl, rfl, by simp [c'], fun b _ hb => hother b (fun e => hb o y hH e.symm)⟩, fun q z hz => by
    rcases hM q z hz with ⟨h1, h2⟩ | ⟨_, hz⟩
    · subst h1; exact .inr ⟨q, y, hH, rfl⟩
    · exact .inr ⟨q, z, hz, rfl⟩⟩
  · intro q z hz
    rcases hM q z hz with ⟨rfl, rfl⟩ | ⟨hq, hz⟩
    · refine ⟨hMo, ⟨⟨new, hrow, by rw [hnsz]; exact hcs, fun i e he => ?_⟩, hlen, hpos', hsame⟩, fun e he a ha => ?_⟩
      · obtain ⟨h1, h2⟩ := hrel i e he
        refine ⟨h1, fun k a ha => ?_⟩
        obtain ⟨h3, v, h4, h5, h6⟩ := h2 k a ha
        exact ⟨v, h4, h5.mono hle' (.inr h3), h6⟩
      · obtain ⟨i, hi⟩ := List.getElem?_of_mem he
        obtain ⟨k, hk⟩ := List.getElem?_of_mem ha
        exact ((hrel i e hi).2 k a hk).1
    · obtain ⟨h1, ⟨⟨cur1, g1, g2, g3⟩, g4, g5, g6⟩, h3⟩ := hI.obj q z hz
      refine ⟨h1, ⟨⟨cur1, by show (c.w.setRow (c.ρ o).blk new).heap[(c.ρ q).blk]? = _; rw [hother _ (hne q z hq hz)]; exact g1, g2, fun i e he => ?_⟩, g4, g5, g6⟩, h3⟩
      obtain ⟨k1, k2⟩ := g3 i e he
      exact ⟨k1, fun k a ha => by obtain ⟨v, hv, hr, h7⟩ := k2 k a ha; exact ⟨v, hv, hr.mono hle' (.inr (h3 e (List.mem_of_getElem? he) a (List.mem_of_getElem? ha))), h7⟩⟩
  · intro q q' z z' hz hz' hqq hb
    rcases hM q z hz with ⟨rfl, rfl⟩ | ⟨hq, hz1⟩
    · rcases hM q' z' hz' with ⟨rfl, rfl⟩ | ⟨hq', hz'⟩
      · exact absurd rfl hqq
      · exact absurd hb.symm (hne q' z' hq' hz')
    · rcases hM q' z' hz' with ⟨rfl, rfl⟩ | ⟨hq', hz2⟩
      · exact absurd hb (hne q z hq hz1)
      · exact hI.sep q q' z z' hz1 hz2 hqq hb
  · intro q z hz
    rcases hM q z hz with ⟨rfl, rfl⟩ | ⟨_, hz⟩
    · exact hstab
    · exact hI.stab q z hz
  · intro q z hz
    rcases hM q z hz with ⟨rfl, rfl⟩ | ⟨_, hz⟩
    · exact hI.low q y hH
    · exact hI.low q z hz

/-- copy into an object: the elements that stand there, and the count. -/
theorem copy_ok (hT : TyOk P T) (hI : Inv c H M) (hE : ∀ x, VRel c false (ev x) (σ x)) {d x : Operand} {t t' : Nat} {o off len : Nat} {y : Obj} {xs : List AV} {te : TI} {ti : TI} {et : Nat} (ty : TypeId)
    (hd : ev d = .ref o off len) (hH : H o = some y) (hs : y.solo = true) (hle : off + len ≤ y.es.length) (hx : SrcR H (ev x) xs) (hn0 : min xs.length len ≠ 0)
    (ht : T t = some ti) (hk : ti.kind = .slice et) (hte : T et = some te) (hsz : ∀ e ∈ xs, e.cells.length = te.size) (hes : y.esz = te.size) :
    ∃ c', (Builtin.copy_ #[t, t'] ty #[σ d, σ x]).run P c.w = .ok (goInt (min xs.length len)) c'.w ∧ c.Le M c' ∧ c'.Sa = c.Sa ∧ c'.So = c.So ∧
      Inv c' (upd H o (some { y with es := splice y.es off (xs.take (min xs.length len)) })) M ∧ Fr c H c'.w ∧ OwnRel c H c' (upd H o (some { y with es := splice y.es off (xs.take (min xs.length len)) })) := by
  have hdv := hE d
  rw [hd] at hdv
  obtain ⟨hdv, _⟩ := hdv.ref_inv
  have hne : xs ≠ [] := fun h => by subst h; simp at hn0
  obtain ⟨b, so, cap, esz, hsv, hcells⟩ := src_ok hI hx (hE x) hne
  obtain ⟨hMo, ⟨⟨cur, hcb, hcs, hcc⟩, hfits, hpos', hsame⟩, hoks⟩ := hI.obj o y hH
  have hesz : esz = te.size := by
    obtain ⟨e, he⟩ := List.exists_mem_of_ne_nil xs hne
    obtain ⟨i, hi⟩ := List.getElem?_of_mem he
    rw [← (hcells i e hi).1, hsz e he]
  have hρ : (c.ρ o).esz = te.size := by rw [← hsame, hes]
  subst hesz
  have htake : ∀ (i : Nat) e, (xs.take (min xs.length len))[i]? = some e → e.cells.length = te.size ∧ EAt c M e b (so + i * te.size) := by
    intro i e he
    rw [List.getElem?_take] at he
    split at he
    · exact hcells i e he
    · cases he
  have hlt : (xs.take (min xs.length len)).length = min xs.length len := by simp
  obtain ⟨news, hnl, hnc, hn1, hnr⟩ := flat_ok (by omega) htake
  rw [hlt] at hnl
  have hbound : (off + min xs.length len) * (c.ρ o).esz ≤ (c.ρ o).cap * (c.ρ o).esz := Nat.mul_le_mul_right _ (by omega)
  rw [Nat.add_mul, hρ] at hbound
  have hl := run_loadCells_list (P := P) c.w ⟨b, so, none⟩ news hnc
  rw [hnl] at hl
  have hst := run_storeCells_at P (c.ρ o).blk (off * te.size) (c.ρ o).ety news 0 cur c.w hcb (by rw [hnl, hcs, hρ]; omega) hn1
  simp only [Nat.add_zero] at hst
  let new : Array Value := (cur.toList.take (off * te.size) ++ news ++ cur.toList.drop (off * te.size + news.length)).toArray
  have hrun : (Builtin.copy_ #[t, t'] ty #[σ d, σ x]).run P c.w = .ok (goInt (min xs.length len)) (c.w.setRow (c.ρ o).blk new) := by
    rw [hdv, hsv, hρ]
    obtain ⟨i, dd, hi, hu, _, _, hsi, _⟩ := tyInfo_parts (hT et te hte)
    have hu' := under_slice (hT t ti ht) hk
    have hmin : Nat.min xs.length len = min xs.length len := rfl
    rw [hsi] at hl hst
    simp [Builtin.copy_, run_underlying hu', Builtin.lenOf, Builtin.firstCells, Go.sizeOf, typeInfo, hi, hsi, hmin, hl, hst, new]
    exact congrArg goInt (by omega)
  have hnsz : new.size = cur.size := by
    simp only [new, List.size_toArray, List.length_append, List.length_take, List.length_drop, Array.length_toList, hnl]
    rw [hcs, hρ]; omega
  have hget : ∀ j, new[j]? = if off * te.size ≤ j ∧ j < off * te.size + min xs.length len * te.size then news[j - off * te.size]? else cur[j]? := by
    intro j
    simp only [new, List.append_assoc, List.getElem?_toArray]
    rw [List.getElem?_append, List.getElem?_append]
    simp only [List.length_take, Array.length_toList, Nat.min_eq_left (show off * te.size ≤ cur.size by rw [hcs, hρ]; omega)]
    by_cases h1 : j < off * te.size
    · rw [if_pos h1, if_neg (by omega), List.getElem?_take, if_pos h1]; simp
    · rw [if_neg h1]
      by_cases h2 : j - off * te.size < news.length
      · rw [if_pos h2, if_pos (by omega)]
      · rw [if_neg h2, if_neg (by omega), List.getElem?_drop]
        simp only [Array.getElem?_toList]
        congr 1; omega
  have hsp : off + (xs.take (min xs.length len)).length ≤ y.es.length := by rw [hlt]; omega
  have hw := obj_write hI hH hs hcb hnsz (es' := splice y.es off (xs.take (min xs.length len))) ?_ ?_
  · obtain ⟨g1, g2, g3, g4⟩ := hw
    exact ⟨_, hrun, g1, rfl, rfl, g2, g3, g4⟩
  · unfold splice
    simp only [List.length_append, List.length_take, List.length_drop]
    omega
  · intro i e he
    rw [getElem?_splice hsp, hlt] at he
    rw [hρ]
    by_cases h1 : off ≤ i ∧ i < off + min xs.length len
    · rw [if_pos h1] at he
      refine ⟨(htake _ e he).1, fun k a ha => ?_⟩
      obtain ⟨h3, v, h4, h5, h6⟩ := hnr _ e k a he ha
      have hk' : k < te.size := by rw [← (htake _ e he).1]; exact (List.getElem?_eq_some_iff.1 ha).1
      have hm1 : (i - off) * te.size + off * te.size = i * te.size := by rw [← Nat.add_mul]; congr 1; omega
      have hm2 : (i - off + 1) * te.size ≤ min xs.length len * te.size := Nat.mul_le_mul_right _ (by omega)
      rw [Nat.add_mul] at hm2
      refine ⟨h3, v, ?_, h5, h6⟩
      rw [hget, if_pos (by omega), ← h4]
      congr 1; omega
    · rw [if_neg h1] at he
      obtain ⟨g1, g2⟩ := hcc i e he
      rw [hρ] at g1
      refine ⟨g1, fun k a ha => ?_⟩
      obtain ⟨v, h3, h4, h5⟩ := g2 k a ha
      rw [hρ] at h3
      have hk' : k < te.size := by rw [← g1]; exact (List.getElem?_eq_some_iff.1 ha).1
      refine ⟨hoks e (List.mem_of_getElem? he) a (List.mem_of_getElem? ha), v, ?_, h4, h5⟩
      rw [hget, if_neg ?_]
      · exact h3
      · by_cases h2 : i < off
        · have : (i + 1) * te.size ≤ off * te.size := Nat.mul_le_mul_right _ h2
          rw [Nat.add_mul] at this; omega
        · have : (off + min xs.length len) * te.size ≤ i * te.size := Nat.mul_le_mul_right _ (by omega)
          rw [Nat.add_mul] at this; omega
end
end Go.Av
