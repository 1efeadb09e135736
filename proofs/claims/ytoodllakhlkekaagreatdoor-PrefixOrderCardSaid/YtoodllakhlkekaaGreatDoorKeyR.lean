/- The keys of the maps of prefix: rows and records (seat r1). -/
import Derived.Test.YtoodllakhlkekaaGreatDoorTabX
import Derived.Test.YtoodllakhlkekaaGreatDoorDTypesO
set_option linter.all false

namespace Go.Av.Tryz
open Go.Proofs Go.D Go.WideMaps
set_option maxRecDepth 10000
theorem Xhi : laidOutB Tryz.prog = true := by kernel_rfl
theorem Xwf : (30 : TypeId) < Tryz.prog.types.size := of_decide_eq_true (by kernel_rfl)
theorem Xo0 : (match Tryz.prog.underlying 30 with | some (.array _ _) | some (.struct _) => true | _ => false) = true := by rw [Tryz.underlying30]
theorem Xqf : KeyLaw Tryz.prog 30 := deep_law_laid Xhi (m := 4) (by omega) Xwf (by kernel_rfl) Xo0
theorem kt30 : Tryz.prog.keyType 30 = true := by kernel_rfl
theorem Xwe : (35 : TypeId) < Tryz.prog.types.size := of_decide_eq_true (by kernel_rfl)
theorem Xnz : (match Tryz.prog.underlying 35 with | some (.array _ _) | some (.struct _) => true | _ => false) = true := by rw [Tryz.underlying35]
theorem Xqe : KeyLaw Tryz.prog 35 := deep_law_laid Xhi (m := 4) (by omega) Xwe (by kernel_rfl) Xnz
theorem kt35 : Tryz.prog.keyType 35 = true := by kernel_rfl
theorem co2 : Tryz.prog.cellsOf 2 = 1 := by kernel_rfl
theorem Xyp : Tryz.prog.cellsOf 27 = 2 := by kernel_rfl
theorem Xyo : Tryz.prog.cellsOf 28 = 2 := by kernel_rfl
theorem Xyn : Tryz.prog.cellsOf 30 = 5 := by kernel_rfl
theorem Xym : Tryz.prog.cellsOf 35 = 3 := by kernel_rfl
theorem Xt2 : ∃ d, Tryz.prog.types.size = d + 3 := ⟨Tryz.prog.types.size - 3, by have : 3 <= Tryz.prog.types.size := of_decide_eq_true (by kernel_rfl); omega⟩
def Xde (x : X1v) : Value := .agg [Value.int .i64 x.Key, .int .i64 x.Span.Start, .int .i64 x.Span.End, .int .i64 x.Values.e0, .int .i64 x.Values.e1].toArray
def Xdg (x : Xk) : Value := .agg [Value.int .i64 x.Key, .int .i64 x.Time, .int .i64 x.Value].toArray
theorem X41 (a b : X1v) (h : Xde a = Xde b) : a = b := by
  obtain ⟨a1, ⟨a2, a3⟩, ⟨a4, a5⟩⟩ := a
  obtain ⟨b1, ⟨b2, b3⟩, ⟨b4, b5⟩⟩ := b
  simp [Xde] at h
  obtain ⟨rfl, rfl, rfl, rfl, rfl⟩ := h
  rfl
theorem X42 (a b : Xk) (h : Xdg a = Xdg b) : a = b := by
  obtain ⟨a1, a2, a3⟩ := a
  obtain ⟨b1, b2, b3⟩ := b
  simp [Xdg] at h
  obtain ⟨rfl, rfl, rfl⟩ := h
  rfl
theorem Xof (x : X1v) (hw : X3x x) : ∃ l, keyOf Tryz.prog 30 (Xde x) = some l := by
  obtain ⟨h1, ⟨h2, h3⟩, h4, h5⟩ := hw
  obtain ⟨d, hd⟩ := Xt2
  refine Xod Xo0 kt30 (by simp [Value.formed, Tryz.underlying30, Xyn]) ?_
  rw [hd]
  refine KL.struct Tryz.underlying30 (by rw [Xyn]; rfl) (by simp) (X3k ?_ (X3k ?_ (X3k ?_ Xcj)))
  · simp only [co2]; exact KL.int Tryz.underlying2 h1
  · simp only [Xyp]
    refine KL.struct Tryz.underlying27 (by rw [Xyp]; rfl) (by simp) (X3k ?_ (X3k ?_ Xcj))
    · simp only [co2]; exact KL.int Tryz.underlying2 h2
    · simp only [co2]; exact KL.int Tryz.underlying2 h3
  · simp only [Xyo]
    refine KL.arr Tryz.underlying28 (by rw [Xyo]; rfl) (X3k (a := 0) (l := [1]) ?_ (X3k ?_ Xcj))
    · simp only [co2]; exact KL.int Tryz.underlying2 h4
    · simp only [co2]; exact KL.int Tryz.underlying2 h5
theorem Xog (x : Xk) (hw : X1t x) : ∃ l, keyOf Tryz.prog 35 (Xdg x) = some l := by
  obtain ⟨h1, h2, h3⟩ := hw
  obtain ⟨d, hd⟩ := Xt2
  refine Xod Xnz kt35 (by simp [Value.formed, Tryz.underlying35, Xym]) ?_
  rw [hd]
  refine KL.struct Tryz.underlying35 (by rw [Xym]; rfl) (by simp) (X3k ?_ (X3k ?_ (X3k ?_ Xcj)))
  · simp only [co2]; exact KL.int Tryz.underlying2 h1
  · simp only [co2]; exact KL.int Tryz.underlying2 h2
  · simp only [co2]; exact KL.int Tryz.underlying2 h3
end Go.Av.Tryz
