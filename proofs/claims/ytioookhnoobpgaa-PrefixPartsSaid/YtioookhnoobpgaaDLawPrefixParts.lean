/- Printed by decomp.py: the law PrefixParts, from its arguments as they lie. -/
import Derived.Test.YtioookhnoobpgaaDCert
import Derived.Test.YtioookhnoobpgaaPuPrefix
import Derived.Test.YtioookhnoobpgaaAva
set_option linter.all false
namespace Go.Av.Try
open Go.Proofs Go.D
set_option maxRecDepth 100000
theorem shape2 {n : Nat} {a : AV} (h : Shape Try.prog (n + 1) 2 a) : ∃ x : Int, a = (aI .i64 x) ∧ wfI .i64 x := by
  unfold Shape at h
  simp only [Try.underlying2] at h
  obtain ⟨z, rfl, h⟩ := h
  exact ⟨z, rfl, h⟩

theorem shape59 {n : Nat} {a : AV} (h : Shape Try.prog (n + 2) 59 a) : ∃ x : GSpan, a = (enc_GSpan x) ∧ wf_GSpan x := by
  unfold Shape at h
  simp only [Try.underlying59] at h
  obtain ⟨l, rfl, g0⟩ := h
  obtain ⟨y0, r0, rfl, h0, g1⟩ := rels_cons g0
  obtain ⟨x0, rfl, w0⟩ := shape2 (n := n + 0) h0
  obtain ⟨y1, r1, rfl, h1, g2⟩ := rels_cons g1
  obtain ⟨x1, rfl, w1⟩ := shape2 (n := n + 0) h1
  obtain rfl := rels_nil g2
  exact ⟨GSpan.mk x0 x1, rfl, ⟨w0, w1⟩⟩

theorem shape60 {n : Nat} {a : AV} (h : Shape Try.prog (n + 2) 60 a) : ∃ x : (V2 Int), a = (encv_V2i64 x) ∧ wf_V2i64 x := by
  unfold Shape at h
  simp only [Try.underlying60] at h
  obtain ⟨l, rfl, hm, hs⟩ := h
  obtain ⟨y0, y1, rfl⟩ : ∃ y0 y1, l = [y0, y1] := by
    match l, hm with
    | [y0, y1], _ => exact ⟨y0, y1, rfl⟩
  obtain ⟨x0, rfl, w0⟩ := shape2 (n := n) (hs y0 (by simp))
  obtain ⟨x1, rfl, w1⟩ := shape2 (n := n) (hs y1 (by simp))
  exact ⟨V2.mk x0 x1, rfl, ⟨w0, w1⟩⟩

theorem shape62 {n : Nat} {a : AV} (h : Shape Try.prog (n + 3) 62 a) : ∃ x : GRow, a = (enc_GRow x) ∧ wf_GRow x := by
  unfold Shape at h
  simp only [Try.underlying62] at h
  obtain ⟨l, rfl, g0⟩ := h
  obtain ⟨y0, r0, rfl, h0, g1⟩ := rels_cons g0
  obtain ⟨x0, rfl, w0⟩ := shape2 (n := n + 1) h0
  obtain ⟨y1, r1, rfl, h1, g2⟩ := rels_cons g1
  obtain ⟨x1, rfl, w1⟩ := shape59 (n := n + 0) h1
  obtain ⟨y2, r2, rfl, h2, g3⟩ := rels_cons g2
  obtain ⟨x2, rfl, w2⟩ := shape60 (n := n + 0) h2
  obtain rfl := rels_nil g3
  exact ⟨GRow.mk x0 x1 x2, rfl, ⟨w0, w1, w2⟩⟩

theorem shape22 {n : Nat} {a : AV} (h : Shape Try.prog (n + 4) 22 a) : ∃ x : (List GRow), a = (AV.list false (List.map enc_GRow x)) ∧ (List.length x ≤ maxLen ∧ ∀ y ∈ x, wf_GRow y) := by
  unfold Shape at h
  simp only [Try.underlying22] at h
  obtain ⟨es, rfl, hl, hs⟩ := h
  obtain ⟨l, rfl, hw⟩ := shape_list fun x hx => shape62 (n := n) (hs x hx)
  exact ⟨l, rfl, by simpa using hl, hw⟩

theorem shape47 {n : Nat} {a : AV} (h : Shape Try.prog (n + 2) 47 a) : ∃ x : GRecord, a = (enc_GRecord x) ∧ wf_GRecord x := by
  unfold Shape at h
  simp only [Try.underlying47] at h
  obtain ⟨l, rfl, g0⟩ := h
  obtain ⟨y0, r0, rfl, h0, g1⟩ := rels_cons g0
  obtain ⟨x0, rfl, w0⟩ := shape2 (n := n + 0) h0
  obtain ⟨y1, r1, rfl, h1, g2⟩ := rels_cons g1
  obtain ⟨x1, rfl, w1⟩ := shape2 (n := n + 0) h1
  obtain ⟨y2, r2, rfl, h2, g3⟩ := rels_cons g2
  obtain ⟨x2, rfl, w2⟩ := shape2 (n := n + 0) h2
  obtain rfl := rels_nil g3
  exact ⟨GRecord.mk x0 x1 x2, rfl, ⟨w0, w1, w2⟩⟩

theorem shape23 {n : Nat} {a : AV} (h : Shape Try.prog (n + 3) 23 a) : ∃ x : (List GRecord), a = (AV.list false (List.map enc_GRecord x)) ∧ (List.length x ≤ maxLen ∧ ∀ y ∈ x, wf_GRecord y) := by
  unfold Shape at h
  simp only [Try.underlying23] at h
  obtain ⟨es, rfl, hl, hs⟩ := h
  obtain ⟨l, rfl, hw⟩ := shape_list fun x hx => shape47 (n := n) (hs x hx)
  exact ⟨l, rfl, by simpa using hl, hw⟩

theorem shape25 {n : Nat} {a : AV} (h : Shape Try.prog (n + 5) 25 a) : ∃ x : GOutputs, a = (enc_GOutputs false x) ∧ wf_GOutputs x := by
  unfold Shape at h
  simp only [Try.underlying25] at h
  obtain ⟨l, rfl, g0⟩ := h
  obtain ⟨y0, r0, rfl, h0, g1⟩ := rels_cons g0
  obtain ⟨x0, rfl, w0⟩ := shape22 (n := n + 0) h0
  obtain ⟨y1, r1, rfl, h1, g2⟩ := rels_cons g1
  obtain ⟨x1, rfl, w1⟩ := shape23 (n := n + 1) h1
  obtain rfl := rels_nil g2
  exact ⟨GOutputs.mk x0 x1, rfl, ⟨w0, w1⟩⟩

theorem PrefixParts_run (xs : List AV) (g0 : Rels (fun t a => Shape Try.prog 5 t a) [25, 25] xs) : Pure Try.prog 3 xs (.sc (.bool true)) := by
  obtain ⟨y0, r0, rfl, h0, g1⟩ := rels_cons g0
  obtain ⟨x0, rfl, w0⟩ := shape25 (n := 0) h0
  obtain ⟨y1, r1, rfl, h1, g2⟩ := rels_cons g1
  obtain ⟨x1, rfl, w1⟩ := shape25 (n := 0) h1
  obtain rfl := rels_nil g2
  exact law40_PrefixParts_ok x0 x1 true (law40_PrefixParts_eq x0 x1 w0 w1)
end Go.Av.Try
