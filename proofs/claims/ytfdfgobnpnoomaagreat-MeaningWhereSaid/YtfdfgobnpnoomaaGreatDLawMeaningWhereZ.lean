/- Printed by decomp.py: the law MeaningWhere, from its arguments as they lie. -/
import Derived.Test.YtfdfgobnpnoomaaGreatDCertZ
import Derived.Test.YtfdfgobnpnoomaaGreatPza
set_option linter.all false

namespace Go.Av.Tryz
open Go.Proofs Go.D
set_option maxRecDepth 100000
theorem Xr8 {n : Nat} {a : AV} (h : X4v Tryz.prog (n + 1) 5 a) : ∃ x : Int, a = (aI .u8 x) /\ wfI .u8 x := by
 unfold X4v at h
 simp only [Tryz.underlying5] at h
 obtain ⟨z, rfl, h⟩ := h
 exact ⟨z, rfl, h⟩
theorem Xiw {n : Nat} {a : AV} (h : X4v Tryz.prog (n + 1) 2 a) : ∃ x : Int, a = (aI .i64 x) /\ wfI .i64 x := by
 unfold X4v at h
 simp only [Tryz.underlying2] at h
 obtain ⟨z, rfl, h⟩ := h
 exact ⟨z, rfl, h⟩
theorem Xr9 {n : Nat} {a : AV} (h : X4v Tryz.prog (n + 1) 3 a) : ∃ x : Int, a = (aI .i64 x) /\ wfI .i64 x := by
 unfold X4v at h
 simp only [Tryz.underlying3] at h
 obtain ⟨z, rfl, h⟩ := h
 exact ⟨z, rfl, h⟩
theorem Xxf {n : Nat} {a : AV} (h : X4v Tryz.prog (n + 2) 108 a) : ∃ x : X00, a = (X1 x) /\ Xi8 x := by
 unfold X4v at h
 simp only [Tryz.underlying108] at h
 obtain ⟨l, rfl, g0⟩ := h
 obtain ⟨y0, r0, rfl, h0, g1⟩ := X1t g0
 obtain ⟨x0, rfl, w0⟩ := Xr8 (n := n + 0) h0
 obtain ⟨y1, r1, rfl, h1, g2⟩ := X1t g1
 obtain ⟨x1, rfl, w1⟩ := Xiw (n := n + 0) h1
 obtain ⟨y2, r2, rfl, h2, g3⟩ := X1t g2
 obtain ⟨x2, rfl, w2⟩ := Xr9 (n := n + 0) h2
 obtain ⟨y3, r3, rfl, h3, g4⟩ := X1t g3
 obtain ⟨x3, rfl, w3⟩ := Xr9 (n := n + 0) h3
 obtain ⟨y4, r4, rfl, h4, g5⟩ := X1t g4
 obtain ⟨x4, rfl, w4⟩ := Xr9 (n := n + 0) h4
 obtain rfl := Xe1 g5
 exact ⟨X00.mk x0 x1 x2 x3 x4, rfl, ⟨w0, w1, w2, w3, w4⟩⟩
theorem Xum {n : Nat} {a : AV} (h : X4v Tryz.prog (n + 3) 22 a) : ∃ x : (List X00), a = (AV.list false (List.map X1 x)) /\ (List.length x <= maxLen /\ ∀ y ∈ x, Xi8 y) := by
 unfold X4v at h
 simp only [Tryz.underlying22] at h
 obtain ⟨es, rfl, hl, hs⟩ := h
 obtain ⟨l, rfl, hw⟩ := Xe0 fun x hx => Xxf (n := n) (hs x hx)
 exact ⟨l, rfl, by simpa using hl, hw⟩
theorem Xzt {n : Nat} {a : AV} (h : X4v Tryz.prog (n + 2) 23 a) : ∃ x : (List Int), a = (AV.list false (List.map (aI .i64) x)) /\ (List.length x <= maxLen /\ ∀ y ∈ x, wfI .i64 y) := by
 unfold X4v at h
 simp only [Tryz.underlying23] at h
 obtain ⟨es, rfl, hl, hs⟩ := h
 obtain ⟨l, rfl, hw⟩ := Xe0 fun x hx => Xr9 (n := n) (hs x hx)
 exact ⟨l, rfl, by simpa using hl, hw⟩
theorem Xul {n : Nat} {a : AV} (h : X4v Tryz.prog (n + 1) 4 a) : ∃ x : Bool, a = (aB x) /\ True := by
 unfold X4v at h
 simp only [Tryz.underlying4] at h
 obtain ⟨b, rfl⟩ := h
 exact ⟨b, rfl, trivial⟩
theorem Xzs {n : Nat} {a : AV} (h : X4v Tryz.prog (n + 2) 25 a) : ∃ x : X0x, a = (X0g x) /\ Xl7 x := by
 unfold X4v at h
 simp only [Tryz.underlying25] at h
 obtain ⟨l, rfl, g0⟩ := h
 obtain ⟨y0, r0, rfl, h0, g1⟩ := X1t g0
 obtain ⟨x0, rfl, w0⟩ := Xr8 (n := n + 0) h0
 obtain ⟨y1, r1, rfl, h1, g2⟩ := X1t g1
 obtain ⟨x1, rfl, w1⟩ := Xiw (n := n + 0) h1
 obtain ⟨y2, r2, rfl, h2, g3⟩ := X1t g2
 obtain ⟨x2, rfl, w2⟩ := Xiw (n := n + 0) h2
 obtain rfl := Xe1 g3
 exact ⟨X0x.mk x0 x1 x2, rfl, ⟨w0, w1, w2⟩⟩
theorem Xzr {n : Nat} {a : AV} (h : X4v Tryz.prog (n + 4) 27 a) : ∃ x : Xp, a = (Xh false x) /\ Xiq x := by
 unfold X4v at h
 simp only [Tryz.underlying27] at h
 obtain ⟨l, rfl, g0⟩ := h
 obtain ⟨y0, r0, rfl, h0, g1⟩ := X1t g0
 obtain ⟨x0, rfl, w0⟩ := Xr8 (n := n + 2) h0
 obtain ⟨y1, r1, rfl, h1, g2⟩ := X1t g1
 obtain ⟨x1, rfl, w1⟩ := Xum (n := n + 0) h1
 obtain ⟨y2, r2, rfl, h2, g3⟩ := X1t g2
 obtain ⟨x2, rfl, w2⟩ := Xzt (n := n + 1) h2
 obtain ⟨y3, r3, rfl, h3, g4⟩ := X1t g3
 obtain ⟨x3, rfl, w3⟩ := Xul (n := n + 2) h3
 obtain ⟨y4, r4, rfl, h4, g5⟩ := X1t g4
 obtain ⟨x4, rfl, w4⟩ := Xum (n := n + 0) h4
 obtain ⟨y5, r5, rfl, h5, g6⟩ := X1t g5
 obtain ⟨x5, rfl, w5⟩ := Xzs (n := n + 1) h5
 obtain ⟨y6, r6, rfl, h6, g7⟩ := X1t g6
 obtain ⟨x6, rfl, w6⟩ := Xul (n := n + 2) h6
 obtain ⟨y7, r7, rfl, h7, g8⟩ := X1t g7
 obtain ⟨x7, rfl, w7⟩ := Xr8 (n := n + 2) h7
 obtain rfl := Xe1 g8
 exact ⟨Xp.mk x0 x1 x2 x3 x4 x5 x6 x7, rfl, ⟨w0, w1, w2, w3, w4, w5, w6, w7⟩⟩
theorem Xzp {n : Nat} {a : AV} (h : X4v Tryz.prog (n + 2) 55 a) : ∃ x : Xj, a = (X3 x) /\ Xl8 x := by
 unfold X4v at h
 simp only [Tryz.underlying55] at h
 obtain ⟨l, rfl, g0⟩ := h
 obtain ⟨y0, r0, rfl, h0, g1⟩ := X1t g0
 obtain ⟨x0, rfl, w0⟩ := Xiw (n := n + 0) h0
 obtain ⟨y1, r1, rfl, h1, g2⟩ := X1t g1
 obtain ⟨x1, rfl, w1⟩ := Xiw (n := n + 0) h1
 obtain ⟨y2, r2, rfl, h2, g3⟩ := X1t g2
 obtain ⟨x2, rfl, w2⟩ := Xiw (n := n + 0) h2
 obtain rfl := Xe1 g3
 exact ⟨Xj.mk x0 x1 x2, rfl, ⟨w0, w1, w2⟩⟩
theorem Xzo {n : Nat} {a : AV} (h : X4v Tryz.prog (n + 3) 57 a) : ∃ x : Xi, a = (X4 x) /\ Xir x := by
 unfold X4v at h
 simp only [Tryz.underlying57] at h
 obtain ⟨l, rfl, g0⟩ := h
 obtain ⟨y0, r0, rfl, h0, g1⟩ := X1t g0
 obtain ⟨x0, rfl, w0⟩ := Xul (n := n + 1) h0
 obtain ⟨y1, r1, rfl, h1, g2⟩ := X1t g1
 obtain ⟨x1, rfl, w1⟩ := Xiw (n := n + 1) h1
 obtain ⟨y2, r2, rfl, h2, g3⟩ := X1t g2
 obtain ⟨x2, rfl, w2⟩ := Xzp (n := n + 0) h2
 obtain rfl := Xe1 g3
 exact ⟨Xi.mk x0 x1 x2, rfl, ⟨w0, w1, w2⟩⟩
theorem Xzn {n : Nat} {a : AV} (h : X4v Tryz.prog (n + 4) 60 a) : ∃ x : (List Xi), a = (AV.list false (List.map X4 x)) /\ (List.length x <= maxLen /\ ∀ y ∈ x, Xir y) := by
 unfold X4v at h
 simp only [Tryz.underlying60] at h
 obtain ⟨es, rfl, hl, hs⟩ := h
 obtain ⟨l, rfl, hw⟩ := Xe0 fun x hx => Xzo (n := n) (hs x hx)
 exact ⟨l, rfl, by simpa using hl, hw⟩
theorem Xzq {n : Nat} {a : AV} (h : X4v Tryz.prog (n + 5) 28 a) : ∃ x : (List (List Xi)), a = (AV.list false (List.map (X3e false X4) x)) /\ (List.length x <= maxLen /\ ∀ y ∈ x, (List.length y <= maxLen /\ ∀ yy ∈ y, Xir yy)) := by
 unfold X4v at h
 simp only [Tryz.underlying28] at h
 obtain ⟨es, rfl, hl, hs⟩ := h
 obtain ⟨l, rfl, hw⟩ := Xe0 fun x hx => Xzn (n := n) (hs x hx)
 exact ⟨l, rfl, by simpa using hl, hw⟩
theorem MeaningWhere_run (xs : List AV) (g0 : Xqy (fun t a => X4v Tryz.prog 5 t a) [27, 28] xs) : X19 Tryz.prog 9 xs (.sc (.bool true)) := by
 obtain ⟨y0, r0, rfl, h0, g1⟩ := X1t g0
 obtain ⟨x0, rfl, w0⟩ := Xzr (n := 1) h0
 obtain ⟨y1, r1, rfl, h1, g2⟩ := X1t g1
 obtain ⟨x1, rfl, w1⟩ := Xzq (n := 0) h1
 obtain rfl := Xe1 g2
 exact Xdi x0 x1 true (Xdj x0 x1 w0 w1)
end Go.Av.Tryz
