/- The operations that make memory. -/
import Derived.Test.YtioookhnoobpgaaAvPuOk5
namespace Go.Av

def upd {α : Type} (f : Nat → α) (i : Nat) (v : α) : Nat → α := fun j => bif Nat.beq j i then v else f j

theorem upd_same {α : Type} (f : Nat → α) (i : Nat) (v : α) : upd f i v i = v := by simp [upd]
theorem upd_other {α : Type} (f : Nat → α) {i j : Nat} (v : α) (h : j ≠ i) : upd f i v j = f j := by
  have : Nat.beq j i = false := by rw [← Bool.not_eq_true, Nat.beq_eq]; exact h
  simp [upd, this]

/-- With a new block that holds a new object. -/
theorem Inv.addBlock {c : Ctx} {H : Heap} {M : Nat → Prop} (hI : Inv c H M) {id : Nat} (hid : ¬ M id) {w' : World} {cur : Array Value} {ety cap esz : Nat}
    (hw : w'.heap = c.w.heap.push (.cells cur ety)) (hos : w'.os = c.w.os) (htape : w'.tape = c.w.tape) (hout : w'.output = c.w.output) {x : Obj}
    (hsz : cur.size = cap * esz) (hpos : 0 < esz) (hesz : x.esz = esz) (hfits : x.es.length ≤ cap)
    (hel : ∀ (i : Nat) e, x.es[i]? = some e → e.cells.length = esz ∧ ∀ (k : Nat) a, e.cells[k]? = some a → a.Ok M ∧ ∃ v, cur[i * esz + k]? = some v ∧ VRel c false a v ∧ v.oneCell' = true) :
    c.Le M ⟨w', upd c.ρ id ⟨c.w.heap.size, cap, esz, ety⟩, c.Sa, c.So, c.B⟩ ∧ Inv ⟨w', upd c.ρ id ⟨c.w.heap.size, cap, esz, ety⟩, c.Sa, c.So, c.B⟩ (upd H id (some x)) (fun o => M o ∨ o = id) ∧ Fr c H w' := by
  have hold : ∀ b, b < c.w.heap.size → w'.heap[b]? = c.w.heap[b]? := by
    intro b hb
    rw [hw, Array.getElem?_push, if_neg (by omega)]
  have hnew : w'.heap[c.w.heap.size]? = some (.cells cur ety (0, 0)) := by rw [hw]; simp
  have hle : c.Le M ⟨w', upd c.ρ id ⟨c.w.heap.size, cap, esz, ety⟩, c.Sa, c.So, c.B⟩ :=
    ⟨fun o ho => upd_other _ _ (fun e => hid (e ▸ ho)), fun b hb => hb, fun b hb => hb, fun b hb => hold b (hI.lt b hb), rfl⟩
  have hρ : ∀ o, M o → upd c.ρ id ⟨c.w.heap.size, cap, esz, ety⟩ o = c.ρ o := fun o ho => upd_other _ _ (fun e => hid (e ▸ ho))
  have hblk : ∀ o y, H o = some y → (c.ρ o).blk < c.w.heap.size := by
    intro o y hy
    obtain ⟨_, ⟨⟨cur', hb, _⟩, _, _, _⟩, _⟩ := hI.obj o y hy
    exact (Array.getElem?_eq_some_iff.1 hb).1
  have hM : ∀ o y, upd H id (some x) o = some y → (o = id ∧ y = x) ∨ (o ≠ id ∧ H o = some y) := by
    intro o y hy
    by_cases ho : o = id
    · subst ho; rw [upd_same] at hy; cases hy; exact .inl ⟨rfl, rfl⟩
    · rw [upd_other _ _ ho] at hy; exact .inr ⟨ho, hy⟩
  refine ⟨hle, ⟨?_, ?_, ?_, ?_, by have := hI.base; simp only [hw, Array.size_push]; omega, hI.own, ?_⟩, ⟨hos, htape, hout, by rw [hw]; simp, fun b hb _ => hold b hb⟩⟩
  · intro o y hy
    rcases hM o y hy with ⟨rfl, rfl⟩ | ⟨ho, hy⟩
    · refine ⟨.inr rfl, ⟨⟨cur, ?_, ?_, ?_⟩, ?_, ?_, ?_⟩, ?_⟩
      · simp only [upd_same]; exact hnew
      · simp only [upd_same]; exact hsz
      · simp only [upd_same]
        intro i e he
        obtain ⟨h1, h2⟩ := hel i e he
        exact ⟨h1, fun k a ha => by obtain ⟨hok, v, hv, hr, h3⟩ := h2 k a ha; exact ⟨v, hv, hr.mono hle (.inr hok), h3⟩⟩
      · simp only [upd_same]; exact hfits
      · simp only [upd_same]; exact hpos
      · simp only [upd_same]; exact hesz
      · intro e he a ha
        obtain ⟨i, hi⟩ := List.getElem?_of_mem he
        obtain ⟨k, hk⟩ := List.getElem?_of_mem ha
        obtain ⟨hok, _⟩ := (hel i e hi).2 k a hk
        exact hok.mono (fun o ho => .inl ho)
    · obtain ⟨hm, ⟨⟨cur', hb, hs, hc⟩, hf, hp, hse⟩, hok⟩ := hI.obj o y hy
      refine ⟨.inl hm, ⟨⟨cur', ?_, ?_, ?_⟩, ?_, ?_, ?_⟩, fun e he a ha => (hok e he a ha).mono (fun o ho => .inl ho)⟩
      · simp only [hρ o hm]; rw [hold _ (hblk o y hy)]; exact hb
      · simp only [hρ o hm]; exact hs
      · simp only [hρ o hm]
        intro i e he
        obtain ⟨h1, h2⟩ := hc i e he
        exact ⟨h1, fun k a ha => by obtain ⟨v, hv, hr, h3⟩ := h2 k a ha; exact ⟨v, hv, hr.mono hle (.inr (hok e (List.mem_of_getElem? he) a (List.mem_of_getElem? ha))), h3⟩⟩
      · simp only [hρ o hm]; exact hf
      · simp only [hρ o hm]; exact hp
      · simp only [hρ o hm]; exact hse
  · intro o o' y y' hy hy' hne hb
    rcases hM o y hy with ⟨rfl, rfl⟩ | ⟨ho, hyo⟩
    · rcases hM o' y' hy' with ⟨rfl, rfl⟩ | ⟨ho', hy'⟩
      · exact absurd rfl hne
      · simp only [upd_same, hρ o' (hI.obj o' y' hy').1] at hb
        have := hblk o' y' hy'; omega
    · rcases hM o' y' hy' with ⟨ho', hyx⟩ | ⟨ho', hy'⟩
      · subst ho'
        simp only [upd_same, hρ o (hI.obj o y hyo).1] at hb
        have := hblk o y hyo; omega
      · simp only [hρ o (hI.obj o y hyo).1, hρ o' (hI.obj o' y' hy').1] at hb
        exact hI.sep o o' y y' hyo hy' hne hb
  · intro o y hy
    rcases hM o y hy with ⟨rfl, rfl⟩ | ⟨ho, hy⟩
    · simp only [upd_same]
      exact ⟨fun h => Nat.lt_irrefl _ (hI.lt _ (.inl h)), fun h => Nat.lt_irrefl _ (hI.lt _ (.inr h))⟩
    · simp only [hρ o (hI.obj o y hy).1]
      exact hI.stab o y hy
  · intro b hb
    have := hI.lt b hb
    simp only [hw, Array.size_push]; omega
  · intro o y hy
    rcases hM o y hy with ⟨rfl, rfl⟩ | ⟨ho, hy⟩
    · simp only [upd_same]; exact hI.base
    · simp only [hρ o (hI.obj o y hy).1]; exact hI.low o y hy
end Go.Av
