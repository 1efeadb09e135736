/- Append, and what it reads. -/
import Derived.Test.YtioookhnoobpgaaAvMk
namespace Go.Av

inductive SrcR (H : Heap) : AV → List AV → Prop
  | list {own es} : SrcR H (.list own es) es
  | nils : SrcR H .nils []
  | ref {o off len x} (hH : H o = some x) (hle : off + len ≤ x.es.length) : SrcR H (.ref o off len) ((x.es.drop off).take len)

section
variable {c : Ctx} {H : Heap} {M : Nat → Prop}

theorem src_len {a : AV} {xs : List AV} {v : Value} (h : SrcR H a xs) (hv : VRel c false a v) : ∃ p cap, v = .slice p xs.length cap := by
  cases h with
  | list => obtain ⟨p, cap, rfl, _⟩ := hv.list_inv; exact ⟨_, _, rfl⟩
  | nils => obtain ⟨p, rfl⟩ := hv.nils_inv; exact ⟨_, _, rfl⟩
  | @ref o off len x hH hle =>
    obtain ⟨rfl, _⟩ := hv.ref_inv
    have : ((x.es.drop off).take len).length = len := by simp; omega
    rw [this]
    exact ⟨_, _, rfl⟩

theorem src_ok (hI : Inv c H M) {a : AV} {xs : List AV} {v : Value} (h : SrcR H a xs) (hv : VRel c false a v) (hne : xs ≠ []) :
    ∃ b off cap esz, v = .slice (some ⟨b, off, none⟩) xs.length cap ∧ ∀ (i : Nat) e, xs[i]? = some e → e.cells.length = esz ∧ EAt c M e b (off + i * esz) := by
  cases h with
  | @list own es =>
    obtain ⟨p, cap, rfl, hcase⟩ := hv.list_inv
    rcases hcase with rfl | ⟨hcap, b, off, esz, rfl, hS, hsz, vf, hx⟩
    · exact absurd rfl hne
    · exact ⟨b, off, cap, esz, rfl, fun i e he => ⟨hsz i e he, fun k a ha => by obtain ⟨h1, h2, h3⟩ := hx i e k a he ha; exact ⟨h3.okDeep, _, h1, h3.shallow, h2⟩⟩⟩
  | nils => exact absurd rfl hne
  | @ref o off len x hH hle =>
    obtain ⟨rfl, _⟩ := hv.ref_inv
    have hlen : ((x.es.drop off).take len).length = len := by simp; omega
    obtain ⟨hM, ⟨⟨cur, hb, hsz, hc⟩, _, _, _⟩, hok⟩ := hI.obj o x hH
    refine ⟨_, _, _, (c.ρ o).esz, by rw [hlen], fun i e he => ?_⟩
    have he' : x.es[off + i]? = some e := by
      rw [List.getElem?_take] at he
      split at he
      · rwa [List.getElem?_drop] at he
      · cases he
    obtain ⟨h1, h2⟩ := hc _ e he'
    refine ⟨h1, fun k a ha => ?_⟩
    obtain ⟨v, h3, h4, h5⟩ := h2 k a ha
    refine ⟨hok e (List.mem_of_getElem? he') a (List.mem_of_getElem? ha), v, ?_, h4, h5⟩
    rw [cell_of_row _ _ _ _ _ _ hb, ← Nat.add_mul]
    exact h3

/-- The cells of elements, one behind the other, as they lie in memory. -/
theorem flat_ok {xs : List AV} {b off esz : Nat} (hpos : 0 < esz) (h : ∀ (i : Nat) e, xs[i]? = some e → e.cells.length = esz ∧ EAt c M e b (off + i * esz)) :
    ∃ news : List Value, news.length = xs.length * esz ∧ (∀ (j : Nat) v, news[j]? = some v → c.w.cell? ((⟨b, off, none⟩ : Addr).add j) = some v) ∧ (∀ v ∈ news, v.oneCell' = true) ∧
      ∀ (i : Nat) e (k : Nat) a, xs[i]? = some e → e.cells[k]? = some a → a.Ok M ∧ ∃ v, news[i * esz + k]? = some v ∧ VRel c false a v ∧ v.oneCell' = true := by
  have cell : ∀ j, j < xs.length * esz → ∃ v, c.w.cell? ⟨b, off + j, none⟩ = some v ∧ v.oneCell' = true := by
    intro j hj
    have hi : j / esz < xs.length := (Nat.div_lt_iff_lt_mul hpos).2 hj
    obtain ⟨h1, h2⟩ := h (j / esz) _ (List.getElem?_eq_getElem hi)
    have hk : j % esz < (xs[j / esz]).cells.length := by rw [h1]; exact Nat.mod_lt _ hpos
    obtain ⟨_, v, h3, _, h5⟩ := h2 (j % esz) _ (List.getElem?_eq_getElem hk)
    refine ⟨v, ?_, h5⟩
    rw [← h3]; congr 2
    have := Nat.div_add_mod j esz
    rw [Nat.mul_comm] at this; omega
  refine ⟨(List.range (xs.length * esz)).map fun j => (c.w.cell? ⟨b, off + j, none⟩).getD undef, by simp, ?_, ?_, ?_⟩
  · intro j v hv
    rw [List.getElem?_map] at hv
    by_cases hj : j < xs.length * esz
    · obtain ⟨u, hu, _⟩ := cell j hj
      simp [hj, hu] at hv
      rw [Addr.add_lit, hu, hv]
    · simp [hj] at hv
  · intro v hv
    simp only [List.mem_map, List.mem_range] at hv
    obtain ⟨j, hj, rfl⟩ := hv
    obtain ⟨u, hu, h1⟩ := cell j hj
    simpa [hu] using h1
  · intro i e k a he ha
    obtain ⟨h1, h2⟩ := h i e he
    obtain ⟨hok, v, h3, h4, h5⟩ := h2 k a ha
    have hi : i < xs.length := (List.getElem?_eq_some_iff.1 he).1
    have hk : k < esz := by rw [← h1]; exact (List.getElem?_eq_some_iff.1 ha).1
    have hlt : i * esz + k < xs.length * esz := by
      have : (i + 1) * esz ≤ xs.length * esz := Nat.mul_le_mul_right _ hi
      rw [Nat.add_mul] at this; omega
    refine ⟨hok, v, ?_, h4, h5⟩
    rw [List.getElem?_map]
    simp only [List.getElem?_range hlt, Option.map_some]
    rw [← Nat.add_assoc, h3]; rfl
end
end Go.Av
