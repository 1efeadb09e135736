/- What prefix.within answers. -/
import Derived.Test.YtoodllakhlkekaaGreatDoorKeyR
set_option linter.all false

namespace Go.D
noncomputable section
def X1c (a b : List Xcf) : Option Bool := (X4u (List.length a)).bind fun _ => (X4u (List.length b)).bind fun _ => (Xpr X54 a).bind fun _ => (Xpr X54 b).bind fun _ => some (X1l (X3c [] b) a)
def X0u (a b : List X0o) : Option Bool := (X4u (List.length a)).bind fun _ => (X4u (List.length b)).bind fun _ => (Xpr X1t a).bind fun _ => (Xpr X1t b).bind fun _ => some (X1l (X3c [] b) a)
end
end Go.D
namespace Go.Av.Tryz
open Go.Proofs Go.D
set_option maxRecDepth 10000
set_option maxHeartbeats 4000000
theorem tmD : X0w Tryz.prog Xeq.find /\ Tryz.prog.follows .mixedOrders = true := ⟨X1, by kernel_rfl⟩
theorem fn18 : X5g Tryz.prog 18 Tryz.f18 (X5 Tryz.f18) := ⟨Tryz.func18, by kernel_rfl, rfl⟩
theorem X3x {Q : X9 -> St -> Mu -> Prop} {μ : Mu} (b : Nat) (a l : List Xcf) (hl : List.length l <= 140737488355328) (hw : ∀ y ∈ l, X54 y) : ∀ (xs : List Xcf) (k : Nat) (hx : l.drop k = xs) (ks : List (Xcf × Int)) (hK : X7d Tryz.prog 30 (ks.map (kvE Xeu)))
    (C : X7d Tryz.prog 30 ((X3c ks xs).map (kvE Xeu)) -> Xd Tryz.prog 41 0 Q (.exit (.exit 0)) [] ⟨fr [(0, AV.list false (List.map X1j a)), (5, .sc (.map (some b)))], hp [], 0⟩ ((b, (X3c ks xs).map (kvE Xeu)) :: μ)),
    Xd Tryz.prog 41 0 Q (.loop (X73 0 (X5 Tryz.f18))) [] ⟨fr [(0, AV.list false (List.map X1j a)), (5, .sc (.map (some b))), (11, AV.list false (List.map X1j l)), (12, aI .i64 (List.length l : Int)), (13, aI .i64 (k : Int))], hp [], 0⟩ ((b, ks.map (kvE Xeu)) :: μ) := by
  intro xs
  induction xs with
  | nil =>
    intro k hx ks hK C
    have hk := X33 hx
    have hc : decide ((k : Int) < (List.length l : Int)) = false := decide_eq_false (by omega)
    refine Xd.round ?_
    refine X00 tmD 4000 [.br false] rfl (by repeat' first | refine And.intro ?_ ?_ | exact hc | exact X3b) ?_
    exact Xd.weakTo [] (C hK) rfl (by repeat' first | refine And.intro ?_ ?_ | exact wkA) (by repeat' first | refine And.intro ?_ ?_ | exact wkB)
  | cons x xs ih =>
    intro k hx ks hK C
    obtain ⟨hk, hg, hx1⟩ := X22 hx
    obtain ⟨lk, hlk⟩ := Xp8 x (hw x (List.mem_of_getElem? hg))
    have hc : decide ((k : Int) < (List.length l : Int)) = true := decide_eq_true (by omega)
    refine Xd.round ?_
    refine X00 tmD 4000 [.br true, .el (X1j x), .stop 5] rfl (by repeat' first | refine And.intro ?_ ?_ | exact hc | exact ixm hg | exact X3b) ?_
    refine Xd.drawnInc (kv := Xeu x) (z := .int .i64 0) (zn := X4j x ks) (xv := .int .i64 (IntKind.i64.wrap (X4j x ks + 1))) 2 tmD [] rfl rfl rfl rfl rfl (by repeat' first | refine And.intro ?_ ?_ | exact hc | exact X3b) rfl (by constructor <;> decide +kernel) rfl rfl rfl rfl rfl rfl rfl rfl rfl rfl rfl rfl rfl rfl rfl rfl rfl rfl rfl rfl Xrd (fun _ => rfl) rfl rfl rfl (by exact trivial) (by exact trivial) hlk hK (X4c X2s x ks) rfl (fun _ _ => ?_)
    have hK2 := hK.set (v := .int .i64 (IntKind.i64.wrap (X4j x ks + 1))) hlk
    rw [X31 X2s] at hK2
    rw [X31 X2s]
    refine X00 tmD 4000 [] rfl (by repeat' first | refine And.intro ?_ ?_ | exact hc | exact X3b) ?_
    exact Xd.weakTo [] (ih (k + 1) hx1 _ hK2 C) rfl (by repeat' first | refine And.intro ?_ ?_ | exact wkA) (by repeat' first | refine And.intro ?_ ?_ | exact wkB)
theorem X3w {Q : X9 -> St -> Mu -> Prop} {μ : Mu} (b : Nat) (l : List Xcf) (hl : List.length l <= 140737488355328) (hw : ∀ y ∈ l, X54 y) : ∀ (xs : List Xcf) (k : Nat) (hx : l.drop k = xs) (ks : List (Xcf × Int)) (hK : X7d Tryz.prog 30 (ks.map (kvE Xeu)))
    (C0 : X1l ks xs = true -> ∀ es, Xd Tryz.prog 41 0 Q (.exit (.exit 2)) [] ⟨fr [], hp [], 0⟩ ((b, es) :: μ)) (C1 : X1l ks xs = false -> ∀ es, Xd Tryz.prog 41 0 Q (.exit .ret) [] ⟨fr [(4, aB false)], hp [], 0⟩ ((b, es) :: μ)),
    Xd Tryz.prog 41 0 Q (.loop (X73 1 (X5 Tryz.f18))) [] ⟨fr [(5, .sc (.map (some b))), (24, AV.list false (List.map X1j l)), (25, aI .i64 (List.length l : Int)), (26, aI .i64 (k : Int))], hp [], 0⟩ ((b, ks.map (kvE Xeu)) :: μ) := by
  intro xs
  induction xs with
  | nil =>
    intro k hx ks hK C0 C1
    have hk := X33 hx
    have hc : decide ((k : Int) < (List.length l : Int)) = false := decide_eq_false (by omega)
    refine Xd.round ?_
    refine X00 tmD 4000 [.br false] rfl (by repeat' first | refine And.intro ?_ ?_ | exact hc | exact X3b) ?_
    exact Xd.weakTo [] (C0 rfl _) rfl (by repeat' first | refine And.intro ?_ ?_ | exact wkA) (by repeat' first | refine And.intro ?_ ?_ | exact wkB)
  | cons x xs ih =>
    intro k hx ks hK C0 C1
    obtain ⟨hk, hg, hx1⟩ := X22 hx
    obtain ⟨lk, hlk⟩ := Xp8 x (hw x (List.mem_of_getElem? hg))
    have hc : decide ((k : Int) < (List.length l : Int)) = true := decide_eq_true (by omega)
    refine Xd.round ?_
    refine X00 tmD 4000 [.br true, .el (X1j x), .stop 10] rfl (by repeat' first | refine And.intro ?_ ?_ | exact hc | exact ixm hg | exact X3b) ?_
    refine Xd.drawnInc (kv := Xeu x) (z := .int .i64 0) (zn := X4j x ks) (xv := .int .i64 (IntKind.i64.wrap (X4j x ks - 1))) 2 tmD [] rfl rfl rfl rfl rfl (by repeat' first | refine And.intro ?_ ?_ | exact hc | exact X3b) rfl (by constructor <;> decide +kernel) rfl rfl rfl rfl rfl rfl rfl rfl rfl rfl rfl rfl rfl rfl rfl rfl rfl rfl rfl rfl Xrd (fun _ => rfl) rfl rfl rfl (by exact trivial) (by exact trivial) hlk hK (X4c X2s x ks) rfl (fun _ _ => ?_)
    have hK2 := hK.set (v := .int .i64 (IntKind.i64.wrap (X4j x ks - 1))) hlk
    rw [X31 X2s] at hK2
    rw [X31 X2s]
    refine X00 tmD 4000 [] rfl (by repeat' first | refine And.intro ?_ ?_ | exact hc | exact X3b) ?_
    refine Xd.mapLook (kv := Xeu x) (z := .int .i64 0) X1 rfl rfl rfl rfl rfl Xrd (fun _ => rfl) rfl rfl rfl trivial trivial hlk hK2 ?_
    rw [X4c X2s]
    cases hs : decide (X4j x (X6z x (IntKind.i64.wrap (X4j x ks - 1)) ks) < 0) with
    | true =>
      refine X00 tmD 4000 [.br true] rfl (by repeat' first | refine And.intro ?_ ?_ | exact hs | exact X3b) ?_
      exact Xd.weakTo [] (C1 (by simp only [X1l, hs, cond_true]) _) rfl (by repeat' first | refine And.intro ?_ ?_ | exact wkA) (by repeat' first | refine And.intro ?_ ?_ | exact wkB)
    | false =>
      refine X00 tmD 4000 [.br false] rfl (by repeat' first | refine And.intro ?_ ?_ | exact hs | exact X3b) ?_
      have he : X1l ks (x :: xs) = X1l (X6z x (IntKind.i64.wrap (X4j x ks - 1)) ks) xs := by simp only [X1l, hs, cond_false]
      exact Xd.weakTo [] (ih (k + 1) hx1 _ hK2 (fun h => C0 (he.trans h)) (fun h => C1 (he.trans h))) rfl (by repeat' first | refine And.intro ?_ ?_ | exact wkA) (by repeat' first | refine And.intro ?_ ?_ | exact wkB)
theorem X3v (a0 : List Xcf) (a1 : List Xcf) (r : Bool) (h : X1c a0 a1 = some r) : Xe Tryz.prog 18 [(AV.list false (List.map X1j a0)), (AV.list false (List.map X1j a1))] (aB r) := by
  refine Xe.sym X1 fn18 (nt := 41) rfl rfl ?_ (X0e .list (X0e .list X2m))
  unfold X1c at h
  refine X7b h ?_
  clear h; intro u h1 h
  have q1 := X30 h1
  refine X7b h ?_
  clear h; intro u2 h2 h
  have q2 := X30 h2
  refine X7b h ?_
  clear h; intro u3 h3 h
  have w1 := X5x h3
  refine X7b h ?_
  clear h; intro u4 h4 h
  have w2 := X5x h4
  obtain rfl := Option.some.inj h
  refine X00 tmD 4000 [] rfl (by repeat' first | refine And.intro ?_ ?_ | exact X3b) ?_
  refine Xd.mapNew rfl rfl rfl fun b => ?_
  refine X00 tmD 4000 [] rfl (by repeat' first | refine And.intro ?_ ?_ | exact X3b) ?_
  refine Xd.weakTo [] (Xd.cut (X3x b a0 a1 q2 w2 a1 0 (by simp) [] X7d.nil (fun hK => ?_))) rfl (by repeat' first | refine And.intro ?_ ?_ | exact wkA) (by repeat' first | refine And.intro ?_ ?_ | exact wkB)
  refine Xd.glue ?_
  refine X00 tmD 4000 [] rfl (by repeat' first | refine And.intro ?_ ?_ | exact X3b) ?_
  refine Xd.weakTo [] (Xd.cut (X3w b a0 q1 w1 a0 0 (by simp) _ hK (fun hs es => ?_) (fun hs es => ?_))) rfl (by repeat' first | refine And.intro ?_ ?_ | exact wkA) (by repeat' first | refine And.intro ?_ ?_ | exact wkB)
  · refine Xd.glue ?_
    refine X00 tmD 4000 [] rfl (by repeat' first | refine And.intro ?_ ?_ | exact X3b) ?_
    refine X5f rfl ?_
    rw [hs]; exact .sc
  · refine Xd.glue ?_
    refine X00 tmD 4000 [] rfl (by repeat' first | refine And.intro ?_ ?_ | exact X3b) ?_
    refine X5f rfl ?_
    rw [hs]; exact .sc
def Xdz (l : List Xcf) : Bool := Nat.ble l.length 100000 && l.all fun x => (Lit.int .i64 x.Key).wf && ((Lit.int .i64 x.Span.Start).wf && ((Lit.int .i64 x.Span.End).wf && ((Lit.int .i64 x.Values.e0).wf && (Lit.int .i64 x.Values.e1).wf)))
theorem Xb8 {l : List Xcf} (h : Xdz l = true) : l.length <= 100000 /\ ∀ y ∈ l, X54 y := by
  unfold Xdz at h
  rw [Bool.and_eq_true, Nat.ble_eq] at h
  refine ⟨h.1, fun y hy => ?_⟩
  have := List.all_eq_true.1 h.2 y hy
  simp only [Bool.and_eq_true] at this
  exact ⟨this.1, ⟨this.2.1, this.2.2.1⟩, this.2.2.2.1, this.2.2.2.2⟩
theorem X0q (A B : List Xcf) {a b : List AV} {r : Bool} (hA : a = A.map X1j) (hB : b = B.map X1j) (h : (Xdz A && (Xdz B && (X1l (X3c [] B) A == r))) = true) : Xe Tryz.prog 18 [.list false a, .list false b] (aB r) := by
  subst hA hB
  simp only [Bool.and_eq_true, beq_iff_eq] at h
  obtain ⟨h1, h2, h3⟩ := h
  obtain ⟨l1, w1⟩ := Xb8 h1
  obtain ⟨l2, w2⟩ := Xb8 h2
  refine X3v A B r ?_
  unfold X1c
  rw [show X4u A.length = some () from if_pos (by omega), show X4u B.length = some () from if_pos (by omega), X9w w1, X9w w2, <- h3]
  rfl
theorem fn19 : X5g Tryz.prog 19 Tryz.f19 (X5 Tryz.f19) := ⟨Tryz.func19, by kernel_rfl, rfl⟩
theorem X2w {Q : X9 -> St -> Mu -> Prop} {μ : Mu} (b : Nat) (a l : List X0o) (hl : List.length l <= 140737488355328) (hw : ∀ y ∈ l, X1t y) : ∀ (xs : List X0o) (k : Nat) (hx : l.drop k = xs) (ks : List (X0o × Int)) (hK : X7d Tryz.prog 35 (ks.map (kvE Xew)))
    (C : X7d Tryz.prog 35 ((X3c ks xs).map (kvE Xew)) -> Xd Tryz.prog 41 0 Q (.exit (.exit 0)) [] ⟨fr [(0, AV.list false (List.map X0b a)), (5, .sc (.map (some b)))], hp [], 0⟩ ((b, (X3c ks xs).map (kvE Xew)) :: μ)),
    Xd Tryz.prog 41 0 Q (.loop (X73 0 (X5 Tryz.f19))) [] ⟨fr [(0, AV.list false (List.map X0b a)), (5, .sc (.map (some b))), (11, AV.list false (List.map X0b l)), (12, aI .i64 (List.length l : Int)), (13, aI .i64 (k : Int))], hp [], 0⟩ ((b, ks.map (kvE Xew)) :: μ) := by
  intro xs
  induction xs with
  | nil =>
    intro k hx ks hK C
    have hk := X33 hx
    have hc : decide ((k : Int) < (List.length l : Int)) = false := decide_eq_false (by omega)
    refine Xd.round ?_
    refine X00 tmD 4000 [.br false] rfl (by repeat' first | refine And.intro ?_ ?_ | exact hc | exact X3b) ?_
    exact Xd.weakTo [] (C hK) rfl (by repeat' first | refine And.intro ?_ ?_ | exact wkA) (by repeat' first | refine And.intro ?_ ?_ | exact wkB)
  | cons x xs ih =>
    intro k hx ks hK C
    obtain ⟨hk, hg, hx1⟩ := X22 hx
    obtain ⟨lk, hlk⟩ := Xp9 x (hw x (List.mem_of_getElem? hg))
    have hc : decide ((k : Int) < (List.length l : Int)) = true := decide_eq_true (by omega)
    refine Xd.round ?_
    refine X00 tmD 4000 [.br true, .el (X0b x), .stop 5] rfl (by repeat' first | refine And.intro ?_ ?_ | exact hc | exact ixm hg | exact X3b) ?_
    refine Xd.drawnInc (kv := Xew x) (z := .int .i64 0) (zn := X4j x ks) (xv := .int .i64 (IntKind.i64.wrap (X4j x ks + 1))) 2 tmD [] rfl rfl rfl rfl rfl (by repeat' first | refine And.intro ?_ ?_ | exact hc | exact X3b) rfl (by constructor <;> decide +kernel) rfl rfl rfl rfl rfl rfl rfl rfl rfl rfl rfl rfl rfl rfl rfl rfl rfl rfl rfl rfl Xrc (fun _ => rfl) rfl rfl rfl (by exact trivial) (by exact trivial) hlk hK (X4c X2t x ks) rfl (fun _ _ => ?_)
    have hK2 := hK.set (v := .int .i64 (IntKind.i64.wrap (X4j x ks + 1))) hlk
    rw [X31 X2t] at hK2
    rw [X31 X2t]
    refine X00 tmD 4000 [] rfl (by repeat' first | refine And.intro ?_ ?_ | exact hc | exact X3b) ?_
    exact Xd.weakTo [] (ih (k + 1) hx1 _ hK2 C) rfl (by repeat' first | refine And.intro ?_ ?_ | exact wkA) (by repeat' first | refine And.intro ?_ ?_ | exact wkB)
theorem X2v {Q : X9 -> St -> Mu -> Prop} {μ : Mu} (b : Nat) (l : List X0o) (hl : List.length l <= 140737488355328) (hw : ∀ y ∈ l, X1t y) : ∀ (xs : List X0o) (k : Nat) (hx : l.drop k = xs) (ks : List (X0o × Int)) (hK : X7d Tryz.prog 35 (ks.map (kvE Xew)))
    (C0 : X1l ks xs = true -> ∀ es, Xd Tryz.prog 41 0 Q (.exit (.exit 2)) [] ⟨fr [], hp [], 0⟩ ((b, es) :: μ)) (C1 : X1l ks xs = false -> ∀ es, Xd Tryz.prog 41 0 Q (.exit .ret) [] ⟨fr [(4, aB false)], hp [], 0⟩ ((b, es) :: μ)),
    Xd Tryz.prog 41 0 Q (.loop (X73 1 (X5 Tryz.f19))) [] ⟨fr [(5, .sc (.map (some b))), (24, AV.list false (List.map X0b l)), (25, aI .i64 (List.length l : Int)), (26, aI .i64 (k : Int))], hp [], 0⟩ ((b, ks.map (kvE Xew)) :: μ) := by
  intro xs
  induction xs with
  | nil =>
    intro k hx ks hK C0 C1
    have hk := X33 hx
    have hc : decide ((k : Int) < (List.length l : Int)) = false := decide_eq_false (by omega)
    refine Xd.round ?_
    refine X00 tmD 4000 [.br false] rfl (by repeat' first | refine And.intro ?_ ?_ | exact hc | exact X3b) ?_
    exact Xd.weakTo [] (C0 rfl _) rfl (by repeat' first | refine And.intro ?_ ?_ | exact wkA) (by repeat' first | refine And.intro ?_ ?_ | exact wkB)
  | cons x xs ih =>
    intro k hx ks hK C0 C1
    obtain ⟨hk, hg, hx1⟩ := X22 hx
    obtain ⟨lk, hlk⟩ := Xp9 x (hw x (List.mem_of_getElem? hg))
    have hc : decide ((k : Int) < (List.length l : Int)) = true := decide_eq_true (by omega)
    refine Xd.round ?_
    refine X00 tmD 4000 [.br true, .el (X0b x), .stop 10] rfl (by repeat' first | refine And.intro ?_ ?_ | exact hc | exact ixm hg | exact X3b) ?_
    refine Xd.drawnInc (kv := Xew x) (z := .int .i64 0) (zn := X4j x ks) (xv := .int .i64 (IntKind.i64.wrap (X4j x ks - 1))) 2 tmD [] rfl rfl rfl rfl rfl (by repeat' first | refine And.intro ?_ ?_ | exact hc | exact X3b) rfl (by constructor <;> decide +kernel) rfl rfl rfl rfl rfl rfl rfl rfl rfl rfl rfl rfl rfl rfl rfl rfl rfl rfl rfl rfl Xrc (fun _ => rfl) rfl rfl rfl (by exact trivial) (by exact trivial) hlk hK (X4c X2t x ks) rfl (fun _ _ => ?_)
    have hK2 := hK.set (v := .int .i64 (IntKind.i64.wrap (X4j x ks - 1))) hlk
    rw [X31 X2t] at hK2
    rw [X31 X2t]
    refine X00 tmD 4000 [] rfl (by repeat' first | refine And.intro ?_ ?_ | exact hc | exact X3b) ?_
    refine Xd.mapLook (kv := Xew x) (z := .int .i64 0) X1 rfl rfl rfl rfl rfl Xrc (fun _ => rfl) rfl rfl rfl trivial trivial hlk hK2 ?_
    rw [X4c X2t]
    cases hs : decide (X4j x (X6z x (IntKind.i64.wrap (X4j x ks - 1)) ks) < 0) with
    | true =>
      refine X00 tmD 4000 [.br true] rfl (by repeat' first | refine And.intro ?_ ?_ | exact hs | exact X3b) ?_
      exact Xd.weakTo [] (C1 (by simp only [X1l, hs, cond_true]) _) rfl (by repeat' first | refine And.intro ?_ ?_ | exact wkA) (by repeat' first | refine And.intro ?_ ?_ | exact wkB)
    | false =>
      refine X00 tmD 4000 [.br false] rfl (by repeat' first | refine And.intro ?_ ?_ | exact hs | exact X3b) ?_
      have he : X1l ks (x :: xs) = X1l (X6z x (IntKind.i64.wrap (X4j x ks - 1)) ks) xs := by simp only [X1l, hs, cond_false]
      exact Xd.weakTo [] (ih (k + 1) hx1 _ hK2 (fun h => C0 (he.trans h)) (fun h => C1 (he.trans h))) rfl (by repeat' first | refine And.intro ?_ ?_ | exact wkA) (by repeat' first | refine And.intro ?_ ?_ | exact wkB)
theorem X2u (a0 : List X0o) (a1 : List X0o) (r : Bool) (h : X0u a0 a1 = some r) : Xe Tryz.prog 19 [(AV.list false (List.map X0b a0)), (AV.list false (List.map X0b a1))] (aB r) := by
  refine Xe.sym X1 fn19 (nt := 41) rfl rfl ?_ (X0e .list (X0e .list X2m))
  unfold X0u at h
  refine X7b h ?_
  clear h; intro u h1 h
  have q1 := X30 h1
  refine X7b h ?_
  clear h; intro u2 h2 h
  have q2 := X30 h2
  refine X7b h ?_
  clear h; intro u3 h3 h
  have w1 := X5x h3
  refine X7b h ?_
  clear h; intro u4 h4 h
  have w2 := X5x h4
  obtain rfl := Option.some.inj h
  refine X00 tmD 4000 [] rfl (by repeat' first | refine And.intro ?_ ?_ | exact X3b) ?_
  refine Xd.mapNew rfl rfl rfl fun b => ?_
  refine X00 tmD 4000 [] rfl (by repeat' first | refine And.intro ?_ ?_ | exact X3b) ?_
  refine Xd.weakTo [] (Xd.cut (X2w b a0 a1 q2 w2 a1 0 (by simp) [] X7d.nil (fun hK => ?_))) rfl (by repeat' first | refine And.intro ?_ ?_ | exact wkA) (by repeat' first | refine And.intro ?_ ?_ | exact wkB)
  refine Xd.glue ?_
  refine X00 tmD 4000 [] rfl (by repeat' first | refine And.intro ?_ ?_ | exact X3b) ?_
  refine Xd.weakTo [] (Xd.cut (X2v b a0 q1 w1 a0 0 (by simp) _ hK (fun hs es => ?_) (fun hs es => ?_))) rfl (by repeat' first | refine And.intro ?_ ?_ | exact wkA) (by repeat' first | refine And.intro ?_ ?_ | exact wkB)
  · refine Xd.glue ?_
    refine X00 tmD 4000 [] rfl (by repeat' first | refine And.intro ?_ ?_ | exact X3b) ?_
    refine X5f rfl ?_
    rw [hs]; exact .sc
  · refine Xd.glue ?_
    refine X00 tmD 4000 [] rfl (by repeat' first | refine And.intro ?_ ?_ | exact X3b) ?_
    refine X5f rfl ?_
    rw [hs]; exact .sc
def X4r (l : List X0o) : Bool := Nat.ble l.length 100000 && l.all fun x => (Lit.int .i64 x.Key).wf && ((Lit.int .i64 x.Time).wf && (Lit.int .i64 x.Value).wf)
theorem X5l {l : List X0o} (h : X4r l = true) : l.length <= 100000 /\ ∀ y ∈ l, X1t y := by
  unfold X4r at h
  rw [Bool.and_eq_true, Nat.ble_eq] at h
  refine ⟨h.1, fun y hy => ?_⟩
  have := List.all_eq_true.1 h.2 y hy
  simp only [Bool.and_eq_true] at this
  exact ⟨this.1, this.2.1, this.2.2⟩
theorem X0z (A B : List X0o) {a b : List AV} {r : Bool} (hA : a = A.map X0b) (hB : b = B.map X0b) (h : (X4r A && (X4r B && (X1l (X3c [] B) A == r))) = true) : Xe Tryz.prog 19 [.list false a, .list false b] (aB r) := by
  subst hA hB
  simp only [Bool.and_eq_true, beq_iff_eq] at h
  obtain ⟨h1, h2, h3⟩ := h
  obtain ⟨l1, w1⟩ := X5l h1
  obtain ⟨l2, w2⟩ := X5l h2
  refine X2u A B r ?_
  unfold X0u
  rw [show X4u A.length = some () from if_pos (by omega), show X4u B.length = some () from if_pos (by omega), X9w w1, X9w w2, <- h3]
  rfl
end Go.Av.Tryz
