/- The pure operations: soundness. -/
import Derived.Test.YtioookhnoobpgaaAvPuOk2
namespace Go.Av

section
variable {P : Program} {T : Ty} {c : Ctx} {H : Heap} {M : Nat → Prop} {ev : Operand → AV} {σ : Operand → Value}

theorem run_sliceBounds (hE : ∀ x, VRel c false (ev x) (σ x)) {lo hi : Option Operand} {b : Bool} {l h len cap : Nat} (hl : Bd ev lo 0 l) (hh : Bd ev hi len h) (hlh : l ≤ h) (hc : h ≤ cap) (w : World) :
    (Instr.sliceBounds b len cap (lo.map σ) (hi.map σ) none).run P w = .ok (l, h, cap) w := by
  have hh' : (match hi.map σ with
    | some v => Instr.sliceBound v cap (if b = true then .sliceAcap else .sliceAlen)
    | none => pure len).run P w = .ok h w := by
    rcases hh.run hE with ⟨rfl, rfl⟩ | ⟨x, k, z, rfl, hx, h0, rfl⟩
    · rfl
    · simp only [Option.map_some, hx, Instr.sliceBound, asIntOf, Sem.run_bind, Sem.run_pure, Result.andThen_ok]
      rw [if_pos ⟨h0, by omega⟩]
      rfl
  have hl' : (match lo.map σ with
    | some v => Instr.sliceBound v h .sliceB
    | none => pure 0).run P w = .ok l w := by
    rcases hl.run hE with ⟨rfl, rfl⟩ | ⟨x, k, z, rfl, hx, h0, rfl⟩
    · rfl
    · simp only [Option.map_some, hx, Instr.sliceBound, asIntOf, Sem.run_bind, Sem.run_pure, Result.andThen_ok]
      rw [if_pos ⟨h0, by omega⟩]
      rfl
  unfold Instr.sliceBounds
  simp only [Sem.run_bind, Sem.run_pure, Result.andThen_ok]
  cases hi with
  | none =>
    simp only [Option.map_none] at hh' ⊢
    have : h = len := by simpa using hh'.symm
    subst this
    cases lo with
    | none =>
      simp only [Option.map_none] at hl' ⊢
      have : l = 0 := by simpa using hl'.symm
      subst this
      simp
    | some x =>
      simp only [Option.map_some] at hl' ⊢
      simp [hl']
  | some x =>
    simp only [Option.map_some] at hh' ⊢
    cases lo with
    | none =>
      simp only [Option.map_none] at hl' ⊢
      have : l = 0 := by simpa using hl'.symm
      subst this
      simp [hh']
    | some x =>
      simp only [Option.map_some] at hl' ⊢
      simp [hh', hl']

theorem run_sliceBounds0 (hE : ∀ x, VRel c false (ev x) (σ x)) {hi mx : Operand} {b : Bool} {len cap : Nat} (hh : Bd ev (some hi) 0 0) (hm : Bd ev (some mx) 0 0) (w : World) :
    (Instr.sliceBounds b len cap none (some (σ hi)) (some (σ mx))).run P w = .ok (0, 0, 0) w := by
  rcases hh.run hE with ⟨h, _⟩ | ⟨x, k, z, hx', hx, h0, hz⟩
  · cases h
  cases hx'
  rcases hm.run hE with ⟨h, _⟩ | ⟨y, k', z', hy', hy, h0', hz'⟩
  · cases h
  cases hy'
  have e1 : z = 0 := by omega
  have e2 : z' = 0 := by omega
  subst e1 e2
  simp [Instr.sliceBounds, Instr.sliceBound, hx, hy, asIntOf]

theorem VRel.sub_list {c : Ctx} {own : Bool} {es : List AV} {p : Option Addr} {cap l h esz : Nat} (hr : VRel c false (.list own es) (.slice p es.length cap)) (hlh : l ≤ h) (hle : h ≤ es.length)
    (hsz : ∀ e ∈ es, e.cells.length = esz) :
    VRel c false (.list own ((es.drop l).take (h - l))) (.slice (if cap = l then p else p.map (·.add (l * esz))) (h - l) (cap - l)) := by
  obtain ⟨p', cap', heq, hcase⟩ := hr.list_inv
  cases heq
  have hlen : ((es.drop l).take (h - l)).length = h - l := by simp; omega
  by_cases h0 : h - l = 0
  · have : (es.drop l).take (h - l) = [] := by rw [h0]; simp
    rw [this, h0]
    exact .listNil
  · rcases hcase with rfl | ⟨hcap, b, off, esz', rfl, hS, hsz', vf, hv⟩
    · simp at hle; omega
    · have hesz : esz' = esz := by
        have hlt : l < es.length := by omega
        rw [← hsz' l _ (List.getElem?_eq_getElem hlt), hsz _ (List.getElem_mem hlt)]
      subst hesz
      rw [if_neg (by omega), Option.map_some, Addr.add_lit]
      have hget : ∀ (i : Nat) e, ((es.drop l).take (h - l))[i]? = some e → es[l + i]? = some e := by
        intro i e he
        rw [List.getElem?_take] at he
        split at he
        · rwa [List.getElem?_drop] at he
        · cases he
      refine .list (fun i k => vf (l + i) k) (fun hn => by rw [hn] at hlen; simp at hlen; omega) hS hlen.symm (by rw [hlen]; omega) (fun i e he => hsz' _ e (hget i e he)) ?_ ?_ ?_
      · intro i e k a he ha
        obtain ⟨h1, _⟩ := hv (l + i) e k a (hget i e he) ha
        rw [← h1]; congr 2; rw [Nat.add_mul]; omega
      · intro i e k a he ha
        exact (hv (l + i) e k a (hget i e he) ha).2.1
      · intro i e k a he ha
        exact (hv (l + i) e k a (hget i e he) ha).2.2

theorem VRel.list_cap {c : Ctx} {own : Bool} {es : List AV} {p : Option Addr} {n cap : Nat} (hr : VRel c false (.list own es) (.slice p n cap)) : n = es.length ∧ (es = [] ∨ es.length ≤ cap) := by
  obtain ⟨p', cap', heq, hcase⟩ := hr.list_inv
  cases heq
  exact ⟨rfl, hcase.imp id (·.1)⟩

theorem VRel.nth_list {c : Ctx} {own : Bool} {es : List AV} {p : Option Addr} {n cap i : Nat} {e : AV} (hr : VRel c false (.list own es) (.slice p n cap)) (he : es[i]? = some e) :
    ∃ a, p = some a ∧ VRel c false (.elem own e 0) (.pointer (some (a.add (i * e.cells.length)))) := by
  obtain ⟨p', cap', heq, hcase⟩ := hr.list_inv
  cases heq
  rcases hcase with rfl | ⟨hcap, b, off, esz', rfl, hS, hsz', vf, hv⟩
  · simp at he
  · refine ⟨_, rfl, ?_⟩
    rw [Addr.add_lit, hsz' i e he]
    refine .elem (b := b) (off := off + i * esz') (k := 0) (fun k => vf i k) hS ?_ ?_ ?_
    · intro k a ha; exact (hv i e k a he ha).1
    · intro k a ha; exact (hv i e k a he ha).2.1
    · intro k a ha; exact (hv i e k a he ha).2.2
end
end Go.Av
