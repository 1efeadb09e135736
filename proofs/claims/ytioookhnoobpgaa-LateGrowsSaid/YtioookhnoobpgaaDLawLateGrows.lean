/- Printed by decomp.py: the law LateGrows, from its arguments as they lie. -/
import Derived.Test.YtioookhnoobpgaaDCert
import Derived.Test.YtioookhnoobpgaaPuLate3
import Derived.Test.YtioookhnoobpgaaAva
set_option linter.all false
namespace Go.Av.Try
open Go.Proofs Go.D
set_option maxRecDepth 100000
theorem shape4 {n : Nat} {a : AV} (h : Shape Try.prog (n + 1) 4 a) : ∃ x : Bool, a = (aB x) ∧ True := by
  unfold Shape at h
  simp only [Try.underlying4] at h
  obtain ⟨b, rfl⟩ := h
  exact ⟨b, rfl, trivial⟩

theorem shape2 {n : Nat} {a : AV} (h : Shape Try.prog (n + 1) 2 a) : ∃ x : Int, a = (aI .i64 x) ∧ wfI .i64 x := by
  unfold Shape at h
  simp only [Try.underlying2] at h
  obtain ⟨z, rfl, h⟩ := h
  exact ⟨z, rfl, h⟩

theorem shape47 {n : Nat} {a : AV} (h : Shape Try.prog (n + 2) 47 a) : ∃ x : GRecord, a = (enc_GRecord x) ∧ wf_GRecord x := by
  unfold Shape at h
  simp only [Try.underlying47] at h
  obtain ⟨l, rfl, g0⟩ := h
  obtain ⟨y0, r0, rfl, h0, g1⟩ := rels_cons g0
  obtain ⟨x0, rfl, w0⟩ := shape2 (n := n + 0) h0
  obtain ⟨y1, r1, rfl, h1, g2⟩ := rels_cons g1
  obtain ⟨x1, rfl, w1⟩ := shape2 (n := n + 0) h1
  obtain ⟨y2, r2, rfl, h2, g3⟩ := rels_cons g2
  obtain ⟨x2, rfl, w2⟩ := shape2 (n := n + 0) h2
  obtain rfl := rels_nil g3
  exact ⟨GRecord.mk x0 x1 x2, rfl, ⟨w0, w1, w2⟩⟩

theorem shape49 {n : Nat} {a : AV} (h : Shape Try.prog (n + 3) 49 a) : ∃ x : GEvent, a = (enc_GEvent x) ∧ wf_GEvent x := by
  unfold Shape at h
  simp only [Try.underlying49] at h
  obtain ⟨l, rfl, g0⟩ := h
  obtain ⟨y0, r0, rfl, h0, g1⟩ := rels_cons g0
  obtain ⟨x0, rfl, w0⟩ := shape4 (n := n + 1) h0
  obtain ⟨y1, r1, rfl, h1, g2⟩ := rels_cons g1
  obtain ⟨x1, rfl, w1⟩ := shape2 (n := n + 1) h1
  obtain ⟨y2, r2, rfl, h2, g3⟩ := rels_cons g2
  obtain ⟨x2, rfl, w2⟩ := shape47 (n := n + 0) h2
  obtain rfl := rels_nil g3
  exact ⟨GEvent.mk x0 x1 x2, rfl, ⟨w0, w1, w2⟩⟩

theorem shape33 {n : Nat} {a : AV} (h : Shape Try.prog (n + 4) 33 a) : ∃ x : (List GEvent), a = (AV.list false (List.map enc_GEvent x)) ∧ (List.length x ≤ maxLen ∧ ∀ y ∈ x, wf_GEvent y) := by
  unfold Shape at h
  simp only [Try.underlying33] at h
  obtain ⟨es, rfl, hl, hs⟩ := h
  obtain ⟨l, rfl, hw⟩ := shape_list fun x hx => shape49 (n := n) (hs x hx)
  exact ⟨l, rfl, by simpa using hl, hw⟩

theorem shape3 {n : Nat} {a : AV} (h : Shape Try.prog (n + 1) 3 a) : ∃ x : Int, a = (aI .i64 x) ∧ wfI .i64 x := by
  unfold Shape at h
  simp only [Try.underlying3] at h
  obtain ⟨z, rfl, h⟩ := h
  exact ⟨z, rfl, h⟩

theorem LateGrows_run (xs : List AV) (g0 : Rels (fun t a => Shape Try.prog 4 t a) [33, 3, 2] xs) : Pure Try.prog 7 xs (.sc (.bool true)) := by
  obtain ⟨y0, r0, rfl, h0, g1⟩ := rels_cons g0
  obtain ⟨x0, rfl, w0⟩ := shape33 (n := 0) h0
  obtain ⟨y1, r1, rfl, h1, g2⟩ := rels_cons g1
  obtain ⟨x1, rfl, w1⟩ := shape3 (n := 3) h1
  obtain ⟨y2, r2, rfl, h2, g3⟩ := rels_cons g2
  obtain ⟨x2, rfl, w2⟩ := shape2 (n := 3) h2
  obtain rfl := rels_nil g3
  exact law20_LateGrows_ok x0 x1 x2 true (law20_LateGrows_eq x0 x1 x2)
end Go.Av.Try
