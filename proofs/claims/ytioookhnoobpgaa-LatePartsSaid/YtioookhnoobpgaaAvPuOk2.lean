/- The pure operations: soundness. -/
import Derived.Test.YtioookhnoobpgaaAvPuOk
namespace Go.Av

section
variable {P : Program} {T : Ty} {c : Ctx} {H : Heap} {M : Nat → Prop} {ev : Operand → AV} {σ : Operand → Value}

theorem partA_ok (hT : TyOk P T) {t : Nat} {ti : TI} {cs : List AV} {vs : Array Value} {off : Nat} {a : AV} (ht : T t = some ti) (hr : VRel c false (.agg cs) (.agg vs)) (hk : (AV.agg cs).Ok M)
    (h : eqT.partA ti cs off = some a) (w : World) : (∃ v, (part t vs off).run P w = .ok v w ∧ VRel c false a v) ∧ a.Ok M := by
  cases hr with
  | agg hl h1 hr =>
  cases hk with
  | agg hk =>
  unfold eqT.partA at h
  split at h
  · rename_i hagg
    split at h
    · rename_i hle
      cases h
      refine ⟨⟨.agg (vs.extract off (off + ti.size)), by simp only [part, Sem.run_bind, run_isAgg_ty w (hT t ti ht), hagg, Result.andThen_ok, if_true, run_sizeOf_ty w (hT t ti ht), Sem.run_pure], .agg ?_ ?_ ?_⟩, .agg fun a ha => hk a (List.mem_of_mem_drop (List.mem_of_mem_take ha))⟩
      · simp; omega
      · intro v hv
        obtain ⟨i, hi, rfl⟩ := Array.getElem_of_mem hv
        simp only [Array.getElem_extract]
        exact h1 _ (Array.getElem_mem _)
      · intro i a v ha hv
        rw [List.getElem?_take] at ha
        split at ha
        · rw [List.getElem?_drop] at ha
          rw [Array.getElem?_extract] at hv
          split at hv
          · exact hr _ a v ha hv
          · cases hv
        · cases ha
    · cases h
  · rename_i hagg
    have hagg' : ti.kind.isAgg = false := by simpa using hagg
    have hlt : off < vs.size := by rw [← hl]; exact (List.getElem?_eq_some_iff.1 h).1
    refine ⟨⟨vs[off], ?_, hr off a _ h (Array.getElem?_eq_getElem hlt)⟩, hk a (List.mem_of_getElem? h)⟩
    simp only [part, Sem.run_bind, run_isAgg_ty w (hT t ti ht), hagg', Result.andThen_ok, Bool.false_eq_true, if_false, Array.getElem?_eq_getElem hlt, Sem.run_pure]

end
end Go.Av
