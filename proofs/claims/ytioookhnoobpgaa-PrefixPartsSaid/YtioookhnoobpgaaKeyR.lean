/- The keys of the maps of prefix: rows and records (seat r1). -/
import Derived.Test.YtioookhnoobpgaaAvc
import Derived.Test.YtioookhnoobpgaaTabT
import Derived.Test.YtioookhnoobpgaaDTypes
set_option linter.all false
namespace Go.Av.Try
open Go.Proofs Go.D Go.WideMaps
set_option maxRecDepth 10000
theorem laidOut : laidOutB Try.prog = true := by kernel_rfl
theorem row62 : (62 : TypeId) < Try.prog.types.size := of_decide_eq_true (by kernel_rfl)
theorem wide62 : (match Try.prog.underlying 62 with | some (.array _ _) | some (.struct _) => true | _ => false) = true := by rw [Try.underlying62]
theorem law62 : KeyLaw Try.prog 62 := deep_law_laid laidOut (m := 4) (by omega) row62 (by kernel_rfl) wide62
theorem kt62 : Try.prog.keyType 62 = true := by kernel_rfl
theorem row47 : (47 : TypeId) < Try.prog.types.size := of_decide_eq_true (by kernel_rfl)
theorem wide47 : (match Try.prog.underlying 47 with | some (.array _ _) | some (.struct _) => true | _ => false) = true := by rw [Try.underlying47]
theorem law47 : KeyLaw Try.prog 47 := deep_law_laid laidOut (m := 4) (by omega) row47 (by kernel_rfl) wide47
theorem kt47 : Try.prog.keyType 47 = true := by kernel_rfl
theorem co2 : Try.prog.cellsOf 2 = 1 := by kernel_rfl
theorem co59 : Try.prog.cellsOf 59 = 2 := by kernel_rfl
theorem co60 : Try.prog.cellsOf 60 = 2 := by kernel_rfl
theorem co62 : Try.prog.cellsOf 62 = 5 := by kernel_rfl
theorem co47 : Try.prog.cellsOf 47 = 3 := by kernel_rfl
theorem size0 : ∃ d, Try.prog.types.size = d + 3 := ⟨Try.prog.types.size - 3, by have : 3 ≤ Try.prog.types.size := of_decide_eq_true (by kernel_rfl); omega⟩
def rowV (x : GRow) : Value := .agg [Value.int .i64 x.Key, .int .i64 x.Span.Start, .int .i64 x.Span.End, .int .i64 x.Values.e0, .int .i64 x.Values.e1].toArray
def recV (x : GRecord) : Value := .agg [Value.int .i64 x.Key, .int .i64 x.Time, .int .i64 x.Value].toArray
theorem rowV_inj (a b : GRow) (h : rowV a = rowV b) : a = b := by
  obtain ⟨a1, ⟨a2, a3⟩, ⟨a4, a5⟩⟩ := a
  obtain ⟨b1, ⟨b2, b3⟩, ⟨b4, b5⟩⟩ := b
  simp [rowV] at h
  obtain ⟨rfl, rfl, rfl, rfl, rfl⟩ := h
  rfl
theorem recV_inj (a b : GRecord) (h : recV a = recV b) : a = b := by
  obtain ⟨a1, a2, a3⟩ := a
  obtain ⟨b1, b2, b3⟩ := b
  simp [recV] at h
  obtain ⟨rfl, rfl, rfl⟩ := h
  rfl
theorem keyRow (x : GRow) (hw : wf_GRow x) : ∃ l, keyOf Try.prog 62 (rowV x) = some l := by
  obtain ⟨h1, ⟨h2, h3⟩, h4, h5⟩ := hw
  obtain ⟨d, hd⟩ := size0
  refine key_ex wide62 kt62 (by simp [Value.formed, Try.underlying62, co62]) ?_
  rw [hd]
  refine KL.struct Try.underlying62 (by rw [co62]; rfl) (by simp) (mX_cons ?_ (mX_cons ?_ (mX_cons ?_ mX_nil)))
  · simp only [co2]; exact KL.int Try.underlying2 h1
  · simp only [co59]
    refine KL.struct Try.underlying59 (by rw [co59]; rfl) (by simp) (mX_cons ?_ (mX_cons ?_ mX_nil))
    · simp only [co2]; exact KL.int Try.underlying2 h2
    · simp only [co2]; exact KL.int Try.underlying2 h3
  · simp only [co60]
    refine KL.arr Try.underlying60 (by rw [co60]; rfl) (mX_cons (a := 0) (l := [1]) ?_ (mX_cons ?_ mX_nil))
    · simp only [co2]; exact KL.int Try.underlying2 h4
    · simp only [co2]; exact KL.int Try.underlying2 h5
theorem keyRec (x : GRecord) (hw : wf_GRecord x) : ∃ l, keyOf Try.prog 47 (recV x) = some l := by
  obtain ⟨h1, h2, h3⟩ := hw
  obtain ⟨d, hd⟩ := size0
  refine key_ex wide47 kt47 (by simp [Value.formed, Try.underlying47, co47]) ?_
  rw [hd]
  refine KL.struct Try.underlying47 (by rw [co47]; rfl) (by simp) (mX_cons ?_ (mX_cons ?_ (mX_cons ?_ mX_nil)))
  · simp only [co2]; exact KL.int Try.underlying2 h1
  · simp only [co2]; exact KL.int Try.underlying2 h2
  · simp only [co2]; exact KL.int Try.underlying2 h3
end Go.Av.Try
