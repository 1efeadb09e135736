/- The keys of the maps of prefix: rows and records (seat r1). -/
import Derived.Test.YtoodllakhlkekaaGreatDoorTabX
import Derived.Test.YtoodllakhlkekaaGreatDoorDTypesO
set_option linter.all false

namespace Go.Av.Tryz
open Go.Proofs Go.D Go.WideMaps
set_option maxRecDepth 10000
theorem Xkc : laidOutB Tryz.prog = true := by kernel_rfl
theorem Xyb : (30 : TypeId) < Tryz.prog.types.size := of_decide_eq_true (by kernel_rfl)
theorem Xos : (match Tryz.prog.underlying 30 with | some (.array _ _) | some (.struct _) => true | _ => false) = true := by rw [Tryz.underlying30]
theorem Xrd : KeyLaw Tryz.prog 30 := deep_law_laid Xkc (m := 4) (by omega) Xyb (by kernel_rfl) Xos
theorem kt30 : Tryz.prog.keyType 30 = true := by kernel_rfl
theorem Xya : (35 : TypeId) < Tryz.prog.types.size := of_decide_eq_true (by kernel_rfl)
theorem Xor : (match Tryz.prog.underlying 35 with | some (.array _ _) | some (.struct _) => true | _ => false) = true := by rw [Tryz.underlying35]
theorem Xrc : KeyLaw Tryz.prog 35 := deep_law_laid Xkc (m := 4) (by omega) Xya (by kernel_rfl) Xor
theorem kt35 : Tryz.prog.keyType 35 = true := by kernel_rfl
theorem co2 : Tryz.prog.cellsOf 2 = 1 := by kernel_rfl
theorem co27 : Tryz.prog.cellsOf 27 = 2 := by kernel_rfl
theorem co28 : Tryz.prog.cellsOf 28 = 2 := by kernel_rfl
theorem co30 : Tryz.prog.cellsOf 30 = 5 := by kernel_rfl
theorem co35 : Tryz.prog.cellsOf 35 = 3 := by kernel_rfl
theorem Xtv : ∃ d, Tryz.prog.types.size = d + 3 := ⟨Tryz.prog.types.size - 3, by have : 3 <= Tryz.prog.types.size := of_decide_eq_true (by kernel_rfl); omega⟩
def Xeu (x : Xcf) : Value := .agg [Value.int .i64 x.Key, .int .i64 x.Span.Start, .int .i64 x.Span.End, .int .i64 x.Values.e0, .int .i64 x.Values.e1].toArray
def Xew (x : X0o) : Value := .agg [Value.int .i64 x.Key, .int .i64 x.Time, .int .i64 x.Value].toArray
theorem X2s (a b : Xcf) (h : Xeu a = Xeu b) : a = b := by
  obtain ⟨a1, ⟨a2, a3⟩, ⟨a4, a5⟩⟩ := a
  obtain ⟨b1, ⟨b2, b3⟩, ⟨b4, b5⟩⟩ := b
  simp [Xeu] at h
  obtain ⟨rfl, rfl, rfl, rfl, rfl⟩ := h
  rfl
theorem X2t (a b : X0o) (h : Xew a = Xew b) : a = b := by
  obtain ⟨a1, a2, a3⟩ := a
  obtain ⟨b1, b2, b3⟩ := b
  simp [Xew] at h
  obtain ⟨rfl, rfl, rfl⟩ := h
  rfl
theorem Xp8 (x : Xcf) (hw : X54 x) : ∃ l, keyOf Tryz.prog 30 (Xeu x) = some l := by
  obtain ⟨h1, ⟨h2, h3⟩, h4, h5⟩ := hw
  obtain ⟨d, hd⟩ := Xtv
  refine Xp6 Xos kt30 (by simp [Value.formed, Tryz.underlying30, co30]) ?_
  rw [hd]
  refine KL.struct Tryz.underlying30 (by rw [co30]; rfl) (by simp) (X2d ?_ (X2d ?_ (X2d ?_ Xe2)))
  · simp only [co2]; exact KL.int Tryz.underlying2 h1
  · simp only [co27]
    refine KL.struct Tryz.underlying27 (by rw [co27]; rfl) (by simp) (X2d ?_ (X2d ?_ Xe2))
    · simp only [co2]; exact KL.int Tryz.underlying2 h2
    · simp only [co2]; exact KL.int Tryz.underlying2 h3
  · simp only [co28]
    refine KL.arr Tryz.underlying28 (by rw [co28]; rfl) (X2d (a := 0) (l := [1]) ?_ (X2d ?_ Xe2))
    · simp only [co2]; exact KL.int Tryz.underlying2 h4
    · simp only [co2]; exact KL.int Tryz.underlying2 h5
theorem Xp9 (x : X0o) (hw : X1t x) : ∃ l, keyOf Tryz.prog 35 (Xew x) = some l := by
  obtain ⟨h1, h2, h3⟩ := hw
  obtain ⟨d, hd⟩ := Xtv
  refine Xp6 Xor kt35 (by simp [Value.formed, Tryz.underlying35, co35]) ?_
  rw [hd]
  refine KL.struct Tryz.underlying35 (by rw [co35]; rfl) (by simp) (X2d ?_ (X2d ?_ (X2d ?_ Xe2)))
  · simp only [co2]; exact KL.int Tryz.underlying2 h1
  · simp only [co2]; exact KL.int Tryz.underlying2 h2
  · simp only [co2]; exact KL.int Tryz.underlying2 h3
end Go.Av.Tryz
