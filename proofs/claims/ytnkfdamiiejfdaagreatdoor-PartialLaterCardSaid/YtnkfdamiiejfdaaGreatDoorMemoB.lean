/- A closed run, in parts: the values that are named, and what the parts want. -/
import Derived.Test.YtnkfdamiiejfdaaGreatDoorOrdZ
set_option linter.all false

set_option maxRecDepth 1000000
namespace Go.Av.TryzM
open Go.Av Go.Av.X Go.Proofs Go.D Go.Av.Tryz
set_option maxHeartbeats 4000000
noncomputable section
def Xt (f : Nat) : Option (List AV -> Option AV) := bif Nat.beq f 366 then some ixG else none
theorem X_ok : Xx1 Tryz.prog Xt := by
  intro f g h
  unfold Xt at h
  cases hb : Nat.beq f 366 with
  | true => rw [hb, cond_true] at h; cases h; rw [Nat.eq_of_beq_eq_true hb]; exact X0cy Tryz.func366 (by kernel_rfl) (by kernel_rfl) (by kernel_rfl) (by kernel_rfl)
  | false =>
  rw [hb, cond_false] at h
  cases h
theorem tmI0 : X6c Tryz.prog Xkr.find /\ Tryz.prog.follows .mixedOrders = true := ⟨X2, by kernel_rfl⟩
instance tmI : TmD Tryz.prog Xkr.find := ⟨tmI0⟩
def X0t (l : List Int) : Option Int := (X3b (List.length l)).bind fun _ => some ((X5l [] l).length : Int)
theorem X03j : Tryz.prog.follows .mixedOrders = true := by kernel_rfl
def fG (l : List (Nat × Xny)) (f : Nat) : Option Xny := List.rec (motive := fun _ => Option Xny) none (fun p _ ih => Bool.rec (motive := fun _ => Option Xny) ih (some p.2) (Nat.beq p.1 f)) l
def AllG : List (Nat × Xny) -> Prop
  | [] => True
  | p :: l => AllM Tryz.prog p.1 p.2 /\ AllG l
theorem X0hr : ∀ l : List (Nat × Xny), AllG l -> Xud Tryz.prog (fG l) := by
  intro l
  induction l with
  | nil => intro _ f m h; cases h
  | cons p l ih =>
    intro h f m hf
    have hf : Bool.rec (motive := fun _ => Option Xny) (fG l f) (some p.2) (Nat.beq p.1 f) = some m := hf
    cases hb : Nat.beq p.1 f with
    | false => rw [hb] at hf; exact ih h.2 f m hf
    | true => rw [hb] at hf; cases hf; rw [<- Nat.eq_of_beq_eq_true hb]; exact X0af _ h.1
theorem oo : True := trivial
abbrev Q (f : Nat) (e : List AV × AV) : Prop := X15 Tryz.prog f e.1 e.2
theorem w {f : Nat} {e : List AV × AV} (l : List (Nat × Xny)) (h : AllG l) (r : Xul Xkr.find Xt X098.find 3000 (callM Xkr.find Xt X098.find (fG l) 3000 200) none f e.1 g8 0 (fun a H _ => wkO (cvF true (hpX H) 100 a) e.2 = true) = (true = true) := by kernel_rfl) : Q f e :=
  Xy0 X03j X_ok X2 X04h (X0hr l h) r
def qm (m : AV) (l : List (AV × AV)) : Xny := l.map fun p => ([m, p.1], p.2)
def Zi (n : Int) : AV := .sc (.int .i64 n)
def Zu (n : Int) : AV := .sc (.int .u8 n)
def Zt : AV := .sc (.bool true)
def Zf : AV := .sc (.bool false)
def Zl (l : List AV) : AV := .list false l
def Zo (l : List AV) : AV := .list true l
def Zle : AV := .list false []
def Zoe : AV := .list true []
def Za (l : List AV) : AV := .agg l
def Zs (l : List UInt8) : AV := .sc (.string ⟨⟨l⟩⟩)
def v0 : AV := Zs [116, 117, 109, 98, 108, 101]
def v1 : AV := Zs [115, 101, 108, 101, 99, 116, 32, 99, 111, 117, 110, 116, 40, 42, 41, 32, 102, 114, 111, 109, 32, 97, 32, 119, 105, 110, 100, 111, 119, 32, 116, 117, 109, 98, 108, 101, 32, 53]
def v2 : AV := Zl [Zi 0]
def v3 : AV := Za [Zu 1, Zle, v2, Zf, Zle, Zu 1, Zi 5, Zi 0, Zf, Zu 1]
def v4 : AV := Za [Zf, Zi 0, Zi 0, Zi 1, Zi 0]
def v5 : AV := Za [Zf, Zi 0, Zi 0, Zi 7, Zi 0]
def v6 : AV := Za [Zt, Zi 5, Zi 0, Zi 0, Zi 0]
def v7 : AV := Za [Zi 0, Zi 0, Zi 1, Zi 0, Zi 1]
def v8 : AV := Za [Zi 1, Zi 0, Zi 2, Zi 0, Zi 1]
def v9 : AV := Za [Zi 2, Zi 0, Zi 3, Zi 0, Zi 1]
def v10 : AV := Zo [Zi (-9223372036854775808)]
def v11 : AV := Zl [Za [Zu 1, Zi 0], Za [Zu 2, Zi 0], Za [Zu 4, Zi 0], Za [Zu 6, Zi 0]]
def v12 : AV := Zl [v7, v8, v9]
def v13 : AV := Za [v11, v12]
def v14 : AV := Zl [Zi (-9223372036854775808)]
def v15 : AV := Za [Zu 2, Zi 0, Zi 0, Zle, v14, Zle, Zle, Zle, Zle]
def v16 : AV := Za [Zu 4, Zi 0, Zi 0, Zle, v14, Zle, Zle, Zle, Zle]
def v17 : AV := Za [Zu 6, Zi 0, Zi 0, Zle, Zle, Zle, Zle, Zle, Zle]
def v18 : AV := Za [Zi 1, Zle]
def v19 : AV := Zl [v18, v18, v18]
def v20 : AV := Za [Zu 1, Zle, v2, Zf, Zle, Zu 1, Zi 5, Zi 0, Zf, Zu 1, v11, v12, Zl [Za [Zu 1, Zi 0, Zi 0, Zle, Zle, Zle, Zl [v4, v5, v6], Zle, Zle], v15, v16, v17], v19]
def v21 : AV := Zo [v18]
def v22 : AV := Zl [Zi 1]
def v23 : AV := Zl [Zi 2]
def v24 : AV := .tup [Zo [Zi 0], Zi 0]
def v25 : AV := Zl [Za [Zi 0, Zu 1, Zi 0, Zi 1, Zi 0, Zi 0, Zi 0, Zi 0, Zi 0, Zi 0, Zi 0]]
def v26 : AV := Za [Zu 1, Zle, v2, Zf, Zle, Zu 1, Zi 5, Zi 0, Zf, Zu 1, v11, v12, Zl [Za [Zu 1, Zi 0, Zi 0, v25, Zle, Zle, Zl [v5, v6], Zle, Zle], v15, v16, v17], v19]
def v27 : AV := Za [Zu 1, Zi 0, Zi 0, Zle, Zle, Zle, Zl [v5, v6], Zle, Zle]
def v28 : AV := Za [Zi 1, Zl [Za [Zu 1, Zi 0, Zi 1, Zi 0, Zi 0, Zi 0, Zi 0, Zi 0, Zi 0, Zi 0]]]
def v29 : AV := Za [Zu 1, Zle, v2, Zf, Zle, Zu 1, Zi 5, Zi 0, Zf, Zu 1, v11, v12, Zl [v27, v15, v16, v17], Zl [v28, v18, v18]]
def v30 : AV := .tup [Zo [Zi 0, Zi 1], Zi 0]
def v31 : AV := Za [Zu 2, Zi 0, Zi 0, v25, v14, Zle, Zle, Zle, Zle]
def v32 : AV := Za [Zu 1, Zle, v2, Zf, Zle, Zu 1, Zi 5, Zi 0, Zf, Zu 1, v11, v12, Zl [v27, v31, v16, v17], v19]
def v33 : AV := Zl [Za [Zi 0, Zu 1, Zi 0, Zi 7, Zi 0, Zi 0, Zi 0, Zi 0, Zi 0, Zi 0, Zi 0]]
def v34 : AV := Za [Zu 1, Zi 0, Zi 0, v33, Zle, Zle, Zl [v6], Zle, Zle]
def v35 : AV := Za [Zu 1, Zle, v2, Zf, Zle, Zu 1, Zi 5, Zi 0, Zf, Zu 1, v11, v12, Zl [v34, v31, v16, v17], v19]
def v36 : AV := Za [Zu 1, Zle, v2, Zf, Zle, Zu 1, Zi 5, Zi 0, Zf, Zu 1, v11, v12, Zl [v34, v15, v16, v17], Zl [v18, v28, v18]]
def v37 : AV := Za [Zi 0, Zi 0, Zi 5, Zi 1, Zi 0, Zi 0, Zi 0, Zi 0, Zi 0, Zi 0, Zi 0]
def v38 : AV := Za [Zu 4, Zi 0, Zi 0, Zle, v14, Zl [v37], Zle, Zle, Zle]
def v39 : AV := Za [Zu 1, Zle, v2, Zf, Zle, Zu 1, Zi 5, Zi 0, Zf, Zu 1, v11, v12, Zl [v34, v15, v38, v17], v19]
def v40 : AV := Za [Zu 1, Zi 0, Zi 0, Zle, Zle, Zle, Zl [v6], Zle, Zle]
def v41 : AV := Za [Zu 1, Zi 0, Zi 7, Zi 0, Zi 0, Zi 0, Zi 0, Zi 0, Zi 0, Zi 0]
def v42 : AV := Za [Zi 1, Zl [v41]]
def v43 : AV := Za [Zu 1, Zle, v2, Zf, Zle, Zu 1, Zi 5, Zi 0, Zf, Zu 1, v11, v12, Zl [v40, v15, v38, v17], Zl [v42, v18, v18]]
def v44 : AV := Za [Zu 2, Zi 0, Zi 0, v33, v14, Zle, Zle, Zle, Zle]
def v45 : AV := Za [Zu 1, Zle, v2, Zf, Zle, Zu 1, Zi 5, Zi 0, Zf, Zu 1, v11, v12, Zl [v40, v44, v38, v17], v19]
def v46 : AV := Zl [Za [Zi 0, Zu 2, Zi 0, Zi 0, Zi 0, Zi 5, Zi 0, Zi 0, Zi 0, Zi 0, Zi 0]]
def v47 : AV := Za [Zu 1, Zi 0, Zi 0, v46, Zle, Zle, Zle, Zle, Zle]
def v48 : AV := Za [Zu 1, Zle, v2, Zf, Zle, Zu 1, Zi 5, Zi 0, Zf, Zu 1, v11, v12, Zl [v47, v44, v38, v17], v19]
def v49 : AV := Za [Zu 1, Zle, v2, Zf, Zle, Zu 1, Zi 5, Zi 0, Zf, Zu 1, v11, v12, Zl [v47, v15, v38, v17], Zl [v18, v42, v18]]
def v50 : AV := Za [Zi 0, Zi 5, Zi 10, Zi 1, Zi 0, Zi 0, Zi 0, Zi 0, Zi 0, Zi 0, Zi 0]
def v51 : AV := Za [Zu 4, Zi 0, Zi 0, Zle, v14, Zl [v37, v50], Zle, Zle, Zle]
def v52 : AV := Za [Zu 1, Zle, v2, Zf, Zle, Zu 1, Zi 5, Zi 0, Zf, Zu 1, v11, v12, Zl [v47, v15, v51, v17], v19]
def v53 : AV := Za [Zu 1, Zi 0, Zi 0, Zle, Zle, Zle, Zle, Zle, Zle]
def v54 : AV := Za [Zu 2, Zi 0, Zi 0, Zi 0, Zi 5, Zi 0, Zi 0, Zi 0, Zi 0, Zi 0]
def v55 : AV := Za [Zi 1, Zl [v54]]
def v56 : AV := Za [Zu 1, Zle, v2, Zf, Zle, Zu 1, Zi 5, Zi 0, Zf, Zu 1, v11, v12, Zl [v53, v15, v51, v17], Zl [v55, v18, v18]]
def v57 : AV := Za [Zu 1, Zle, v2, Zf, Zle, Zu 1, Zi 5, Zi 0, Zf, Zu 1, v11, v12, Zl [v53, Za [Zu 2, Zi 0, Zi 0, v46, Zl [Zi 5], Zle, Zle, Zle, Zle], v51, v17], v19]
def v58 : AV := Za [Zu 2, Zi 0, Zi 0, Zle, Zl [Zi 5], Zle, Zle, Zle, Zle]
def v59 : AV := Za [Zu 1, Zle, v2, Zf, Zle, Zu 1, Zi 5, Zi 0, Zf, Zu 1, v11, v12, Zl [v53, v58, v51, v17], Zl [v18, v55, v18]]
def v60 : AV := Za [Zu 4, Zi 0, Zi 0, Zl [Za [Zi 0, Zu 3, Zi 0, Zi 0, Zi 0, Zi 0, Zi 0, Zi 0, Zi 5, Zi 1, Zi 0]], Zl [Zi 5], Zl [v50], Zle, Zle, Zle]
def v61 : AV := Za [Zu 1, Zle, v2, Zf, Zle, Zu 1, Zi 5, Zi 0, Zf, Zu 1, v11, v12, Zl [v53, v58, v60, v17], v19]
def v62 : AV := Za [Zu 4, Zi 0, Zi 0, Zle, Zl [Zi 5], Zl [v50], Zle, Zle, Zle]
def v63 : AV := Za [Zi 1, Zl [Za [Zu 3, Zi 0, Zi 0, Zi 0, Zi 0, Zi 0, Zi 0, Zi 5, Zi 1, Zi 0]]]
def v64 : AV := Za [Zu 1, Zle, v2, Zf, Zle, Zu 1, Zi 5, Zi 0, Zf, Zu 1, v11, v12, Zl [v53, v58, v62, v17], Zl [v18, v18, v63]]
def v65 : AV := Za [Zu 1, Zle, v2, Zf, Zle, Zu 1, Zi 5, Zi 0, Zf, Zu 1, v11, v12, Zl [v53, v58, v62, Za [Zu 6, Zi 0, Zi 0, Zle, Zle, Zle, Zle, Zl [Za [Zi 0, Zi 0, Zi 5, Zi 1, Zi 0]], Zle]], v19]
theorem fn54 : Xc9 Tryz.prog 54 Tryz.f54 (X10 Tryz.f54) := ⟨Tryz.func54, by kernel_rfl, rfl⟩
theorem Xwx : X15 Tryz.prog 54 [.list false []] .nils := by
  refine X15.sym X2 fn54 (nt := 8) rfl rfl ?_ okM
  refine X0f [] ?_
  refine X5.eqNil X2 (may := true) rfl rfl rfl rfl rfl rfl trivial (by simp [X64]) fun b2 qb2 => ?_
  cases b2
  · exact X8 [.br false, .ne false] (k := fi)
  · exact X8 [.br true] (k := fi)
theorem fn75 : Xc9 Tryz.prog 75 Tryz.f75 (X10 Tryz.f75) := ⟨Tryz.func75, by kernel_rfl, rfl⟩
theorem Xww : X15 Tryz.prog 75 [.list false []] .nils := by
  refine X15.sym X2 fn75 (nt := 8) rfl rfl ?_ okM
  refine X0f [] ?_
  refine X5.eqNil X2 (may := true) rfl rfl rfl rfl rfl rfl trivial (by simp [X64]) fun b2 qb2 => ?_
  cases b2
  · exact X8 [.br false, .ne false] (k := fi)
  · exact X8 [.br true] (k := fi)
theorem fn77 : Xc9 Tryz.prog 77 Tryz.f77 (X10 Tryz.f77) := ⟨Tryz.func77, by kernel_rfl, rfl⟩
theorem Xwv : X15 Tryz.prog 77 [.list false []] .nils := by
  refine X15.sym X2 fn77 (nt := 8) rfl rfl ?_ okM
  refine X0f [] ?_
  refine X5.eqNil X2 (may := true) rfl rfl rfl rfl rfl rfl trivial (by simp [X64]) fun b2 qb2 => ?_
  cases b2
  · exact X8 [.br false, .ne false] (k := fi)
  · exact X8 [.br true] (k := fi)
theorem X0hk : Xc9 Tryz.prog 105 Tryz.f105 (X10 Tryz.f105) := ⟨Tryz.func105, by kernel_rfl, rfl⟩
theorem Xsq : X15 Tryz.prog 105 [.list false []] .nils := by
  refine X15.sym X2 X0hk (nt := 8) rfl rfl ?_ okM
  refine X0f [] ?_
  refine X5.eqNil X2 (may := true) rfl rfl rfl rfl rfl rfl trivial (by simp [X64]) fun b2 qb2 => ?_
  cases b2
  · exact X8 [.br false, .ne false] (k := fi)
  · exact X8 [.br true] (k := fi)
theorem X0h3 : Xc9 Tryz.prog 168 Tryz.f168 (X10 Tryz.f168) := ⟨Tryz.func168, by kernel_rfl, rfl⟩
theorem Xsp : X15 Tryz.prog 168 [.list false []] .nils := by
  refine X15.sym X2 X0h3 (nt := 8) rfl rfl ?_ okM
  refine X0f [] ?_
  refine X5.eqNil X2 (may := true) rfl rfl rfl rfl rfl rfl trivial (by simp [X64]) fun b2 qb2 => ?_
  cases b2
  · exact X8 [.br false, .ne false] (k := fi)
  · exact X8 [.br true] (k := fi)
theorem X0h2 : Xc9 Tryz.prog 175 Tryz.f175 (X10 Tryz.f175) := ⟨Tryz.func175, by kernel_rfl, rfl⟩
theorem Xso : X15 Tryz.prog 175 [.list false []] .nils := by
  refine X15.sym X2 X0h2 (nt := 8) rfl rfl ?_ okM
  refine X0f [] ?_
  refine X5.eqNil X2 (may := true) rfl rfl rfl rfl rfl rfl trivial (by simp [X64]) fun b2 qb2 => ?_
  cases b2
  · exact X8 [.br false, .ne false] (k := fi)
  · exact X8 [.br true] (k := fi)
theorem X0h1 : Xc9 Tryz.prog 176 Tryz.f176 (X10 Tryz.f176) := ⟨Tryz.func176, by kernel_rfl, rfl⟩
theorem Xsn : X15 Tryz.prog 176 [.list false []] .nils := by
  refine X15.sym X2 X0h1 (nt := 8) rfl rfl ?_ okM
  refine X0f [] ?_
  refine X5.eqNil X2 (may := true) rfl rfl rfl rfl rfl rfl trivial (by simp [X64]) fun b2 qb2 => ?_
  cases b2
  · exact X8 [.br false, .ne false] (k := fi)
  · exact X8 [.br true] (k := fi)
theorem X0h0 : Xc9 Tryz.prog 177 Tryz.f177 (X10 Tryz.f177) := ⟨Tryz.func177, by kernel_rfl, rfl⟩
theorem Xsm : X15 Tryz.prog 177 [.list false []] .nils := by
  refine X15.sym X2 X0h0 (nt := 8) rfl rfl ?_ okM
  refine X0f [] ?_
  refine X5.eqNil X2 (may := true) rfl rfl rfl rfl rfl rfl trivial (by simp [X64]) fun b2 qb2 => ?_
  cases b2
  · exact X8 [.br false, .ne false] (k := fi)
  · exact X8 [.br true] (k := fi)
theorem Xjr (z : Int) : ∀ (ks : List Int), Xe3 (.int .i64 z) (.bool true) (ks.map Xb3) = (Xd2 ks z).map Xb3 := by
  intro ks
  unfold Xd2
  induction ks with
  | nil => simp [Xe3, Xb3]
  | cons a r ih =>
    simp only [List.map_cons, Xb3, Xe3]
    by_cases h : a = z
    · subst h; simp [Xb3]
    · have h1 : ¬ (Value.int .i64 a = Value.int .i64 z) := by simpa using h
      rw [if_neg h1]
      have ih' : Xe3 (.int .i64 z) (.bool true) (r.map Xb3) = (if z ∈ r then r else r ++ [z]).map Xb3 := ih
      rw [ih']
      have h2 : ¬ z = a := fun e => h e.symm
      by_cases hz : z ∈ r <;> simp [hz, h2, Xb3]
theorem wkA {P : Prop} (h : P := by
  first
    | exact trivial
    | rfl
    | exact .sc
    | exact .list
    | exact .nils
    | assumption
    | (refine congrArg (fun z => AV.sc (Value.int IntKind.i64 z)) ?_; first | rfl | omega | assumption | (simp; done) | (simp; omega))
    | (simp [AV.ren, *]; done)) : P := h
theorem X099 : Xc9 Tryz.prog 146 Tryz.f146 (X10 Tryz.f146) := ⟨Tryz.func146, by kernel_rfl, rfl⟩
theorem tmD : X6c Tryz.prog Xkr.find /\ Tryz.prog.follows .mixedOrders = true := ⟨X2, by kernel_rfl⟩
theorem X4e {Q : Xl -> St -> Mu -> Prop} {μ : Mu} (b : Nat) (l : List Int) (hl : List.length l <= 140737488355328) : ∀ (xs : List Int) (k : Nat) (hx : l.drop k = xs) (ks : List Int)
    (C : X5 Tryz.prog 18 0 Q (.exit (.exit 0)) [] ⟨fr [(3, .sc (.map (some b)))], hp [], 0⟩ ((b, (X5l ks xs).map Xb3) :: μ)),
    X5 Tryz.prog 18 0 Q (.loop (X5b 0 (X10 Tryz.f146))) [] ⟨fr [(3, .sc (.map (some b))), (7, AV.list false (List.map (aI .i64) l)), (8, aI .i64 (List.length l : Int)), (9, aI .i64 (k : Int))], hp [], 0⟩ ((b, ks.map Xb3) :: μ) := by
  intro xs
  induction xs with
  | nil =>
    intro k hx ks C
    have hk := X2n hx
    have hc : decide ((k : Int) < (List.length l : Int)) = false := decide_eq_false (by omega)
    refine X5.round ?_
    refine Xcj tmD 4000 [.br false] rfl (by repeat' first | refine And.intro ?_ ?_ | exact hc | exact oblA) ?_
    exact X5.weakTo [] C rfl (by repeat' first | refine And.intro ?_ ?_ | exact wkA) trivial
  | cons x xs ih =>
    intro k hx ks C
    obtain ⟨hk, hg, hx1⟩ := X1w hx
    have hc : decide ((k : Int) < (List.length l : Int)) = true := decide_eq_true (by omega)
    refine X5.round ?_
    refine Xcj tmD 4000 [.br true, .el (aI .i64 x)] rfl (by repeat' first | refine And.intro ?_ ?_ | exact hc | exact ixm hg | exact oblA) ?_
    refine X5.mapUpd (d := .int .i64) X2 rfl rfl rfl rfl rfl Tryz.underlying2 rfl rfl rfl trivial trivial trivial rfl (by
      intro p hp; obtain ⟨z, _, rfl⟩ := List.mem_map.1 hp; rfl) ?_
    rw [Xjr]
    refine Xcj tmD 4000 [] rfl (by repeat' first | refine And.intro ?_ ?_ | exact oblA) ?_
    exact X5.weakTo [] (ih (k + 1) hx1 (Xd2 ks x) C) rfl (by repeat' first | refine And.intro ?_ ?_ | exact wkA) trivial
theorem X2t (a0 : (List Int)) (r : Int) (h : X0t a0 = some r) : X15 Tryz.prog 146 [(AV.list false (List.map (aI .i64) a0))] (aI .i64 r) := by
  refine X15.sym X2 X099 (nt := 18) rfl rfl ?_ (X13 .list X70)
  unfold X0t at h
  refine X0aa h ?_
  clear h; intro u h1 h
  have q1 := X05 h1
  obtain rfl := Option.some.inj h
  refine Xcj tmD 4000 [] rfl (by repeat' first | refine And.intro ?_ ?_ | exact oblA) ?_
  refine X5.mapNew rfl rfl rfl fun b => ?_
  refine Xcj tmD 4000 [] rfl (by repeat' first | refine And.intro ?_ ?_ | exact oblA) ?_
  refine X5.weakTo [] (X5.cut (X4e b a0 q1 a0 0 (by simp) [] ?_)) rfl (by repeat' first | refine And.intro ?_ ?_ | exact wkA) trivial
  refine X5.glue ?_
  refine Xcj tmD 4000 [] rfl (by repeat' first | refine And.intro ?_ ?_ | exact oblA) ?_
  refine X5.mapLen X2 rfl rfl rfl rfl rfl rfl trivial ?_
  rw [List.length_map]
  refine Xcj tmD 4000 [] rfl (by repeat' first | refine And.intro ?_ ?_ | exact oblA) ?_
  refine Xsd rfl ?_
  exact .sc
theorem Xwo (l : List Int) (h : List.length l <= 1000) : X15 Tryz.prog 146 [.list false (l.map (aI .i64))] (aI .i64 ((X5l [] l).length : Int)) := X2t l _ (by unfold X0t X3b; rw [if_pos (by omega)]; rfl)
def e0 : List AV × AV := ([Zs [99, 111, 117, 110, 116]], Zt)
def e1 : List AV × AV := ([Zs [97]], Zt)
def e2 : List AV × AV := ([v0], Zt)
def e3 : List AV × AV := ([v1], .tup [Zo [Za [Zu 2, Zs [115, 101, 108, 101, 99, 116], Zi 0], Za [Zu 2, Zs [99, 111, 117, 110, 116], Zi 7], Za [Zu 3, Zs [40], Zi 12], Za [Zu 3, Zs [42], Zi 13], Za [Zu 3, Zs [41], Zi 14], Za [Zu 2, Zs [102, 114, 111, 109], Zi 16], Za [Zu 2, Zs [97], Zi 21], Za [Zu 2, Zs [119, 105, 110, 100, 111, 119], Zi 23], Za [Zu 2, v0, Zi 30], Za [Zu 1, Zs [53], Zi 37]], Zi 38, Zi 0])
def e4 : List AV × AV := ([v1], .tup [v3, Zi 38, Zi 0])
def e5 : List AV × AV := ([v2], Zi 1)
def e6 : List AV × AV := ([Zle], .nils)
def e7 : List AV × AV := ([v3, Zl [Zl [v4, v5, v6]], Zi 2, Zi 1], .tup [Za [Zu 1, Zoe, Zo [Zi 0], Zf, Zoe, Zu 1, Zi 5, Zi 0, Zf, Zu 1, Zo [Za [Zu 1, Zi 0], Za [Zu 2, Zi 0], Za [Zu 4, Zi 0], Za [Zu 6, Zi 0]], Zo [v7, v8, v9], Zo [Za [Zu 1, Zi 0, Zi 0, Zoe, Zoe, Zoe, Zo [v4, v5, v6], Zoe, Zoe], Za [Zu 2, Zi 0, Zi 0, Zoe, v10, Zoe, Zoe, Zoe, Zoe], Za [Zu 4, Zi 0, Zi 0, Zoe, v10, Zoe, Zoe, Zoe, Zoe], Za [Zu 6, Zi 0, Zi 0, Zoe, Zoe, Zoe, Zoe, Zoe, Zoe]], Zo [Za [Zi 1, Zoe], Za [Zi 1, Zoe], Za [Zi 1, Zoe]]], Zi 0])
def e8 : List AV × AV := ([v13], Zo [Zi 0, Zi 1, Zi 2, Zi 3])
def e9 : List AV × AV := ([v13, Zi 0], Zle)
def e10 : List AV × AV := ([v13, Zi 0], Zo [Zi 0])
def e11 : List AV × AV := ([v13, Zi 1], Zo [Zi 0])
def e12 : List AV × AV := ([v13, Zi 1], Zo [Zi 1])
def e13 : List AV × AV := ([v13, Zi 2], Zo [Zi 1])
def e14 : List AV × AV := ([v13, Zi 2], Zo [Zi 2])
def e15 : List AV × AV := ([v13, Zi 3], Zo [Zi 2])
def e16 : List AV × AV := ([v13, Zi 3], Zle)
def e17 : List AV × AV := ([v20], Zi 0)
def e18 : List AV × AV := ([Zle], .nils)
def e19 : List AV × AV := ([Zle], .nils)
def e20 : List AV × AV := ([Zle], .nils)
def e21 : List AV × AV := ([Zle], .nils)
def e22 : List AV × AV := ([Zle], .nils)
def e23 : List AV × AV := ([Zle], .nils)
def e24 : List AV × AV := ([Zle], .nils)
def e25 : List AV × AV := ([v20, Zle], .tup [v20, Zi 0, Zi 0])
def e26 : List AV × AV := ([v20, Zle], Zle)
def e27 : List AV × AV := ([v20, v2], v21)
def e28 : List AV × AV := ([v20, v22], v21)
def e29 : List AV × AV := ([v20, v23], v21)
def e30 : List AV × AV := ([v20], v24)
def e31 : List AV × AV := ([v20, Zi 0], .tup [v26, Zt])
def e32 : List AV × AV := ([v26], Zi 0)
def e33 : List AV × AV := ([v26, Zle], Zle)
def e34 : List AV × AV := ([v26, v2], v21)
def e35 : List AV × AV := ([v26, v22], v21)
def e36 : List AV × AV := ([v26, v23], v21)
def e37 : List AV × AV := ([v26], v24)
def e38 : List AV × AV := ([v26, Zi 0], .tup [v29, Zt])
def e39 : List AV × AV := ([v29], Zi 0)
def e40 : List AV × AV := ([v29, Zle], Zle)
def e41 : List AV × AV := ([v29, v2], Zo [v28])
def e42 : List AV × AV := ([v29, v22], v21)
def e43 : List AV × AV := ([v29, v23], v21)
def e44 : List AV × AV := ([v29], v30)
def e45 : List AV × AV := ([v29, Zi 1, Zi 0, Zi 0], .tup [v32, Zi 0])
def e46 : List AV × AV := ([v32], Zi 0)
def e47 : List AV × AV := ([v32, Zle], Zle)
def e48 : List AV × AV := ([v32, v2], v21)
def e49 : List AV × AV := ([v32, v22], v21)
def e50 : List AV × AV := ([v32, v23], v21)
def e51 : List AV × AV := ([v32], v30)
def e52 : List AV × AV := ([v32, Zi 0], .tup [v35, Zt])
def e53 : List AV × AV := ([v35], Zi 0)
def e54 : List AV × AV := ([v35, Zle], Zle)
def e55 : List AV × AV := ([v35, v2], v21)
def e56 : List AV × AV := ([v35, v22], v21)
def e57 : List AV × AV := ([v35, v23], v21)
def e58 : List AV × AV := ([v35], v30)
def e59 : List AV × AV := ([v35, Zi 1], .tup [v36, Zt])
def e60 : List AV × AV := ([v36], Zi 0)
def e61 : List AV × AV := ([v36, Zle], Zle)
def e62 : List AV × AV := ([v36, v2], v21)
def e63 : List AV × AV := ([v36, v22], Zo [v28])
def e64 : List AV × AV := ([v36, v23], v21)
def e65 : List AV × AV := ([v36], .tup [Zo [Zi 0, Zi 2], Zi 0])
def e66 : List AV × AV := ([v36, Zi 2, Zi 0, Zi 0], .tup [v39, Zi 0])
def e67 : List AV × AV := ([v39], Zi 0)
def e68 : List AV × AV := ([v39, Zle], Zle)
def e69 : List AV × AV := ([v39, v2], v21)
def e70 : List AV × AV := ([v39, v22], v21)
def e71 : List AV × AV := ([v39, v23], v21)
def e72 : List AV × AV := ([v39], v24)
def e73 : List AV × AV := ([v39, Zi 0], .tup [v43, Zt])
def e74 : List AV × AV := ([v43], Zi 0)
def e75 : List AV × AV := ([v43, Zle], Zle)
def e76 : List AV × AV := ([v43, v2], Zo [v42])
def e77 : List AV × AV := ([v43, v22], v21)
def e78 : List AV × AV := ([v43, v23], v21)
def e79 : List AV × AV := ([v43], v30)
def e80 : List AV × AV := ([v43, Zi 1, Zi 0, Zi 0], .tup [v45, Zi 0])
def e81 : List AV × AV := ([v45], Zi 0)
def e82 : List AV × AV := ([v45, Zle], Zle)
def e83 : List AV × AV := ([v45, v2], v21)
def e84 : List AV × AV := ([v45, v22], v21)
def e85 : List AV × AV := ([v45, v23], v21)
def e86 : List AV × AV := ([v45], v30)
def e87 : List AV × AV := ([v45, Zi 0], .tup [v48, Zt])
def e88 : List AV × AV := ([v48], Zi 0)
def e89 : List AV × AV := ([v48, Zle], Zle)
def e90 : List AV × AV := ([v48, v2], v21)
def e91 : List AV × AV := ([v48, v22], v21)
def e92 : List AV × AV := ([v48, v23], v21)
def e93 : List AV × AV := ([v48], v30)
def e94 : List AV × AV := ([v48, Zi 1], .tup [v49, Zt])
def e95 : List AV × AV := ([v49], Zi 0)
def e96 : List AV × AV := ([v49, Zle], Zle)
def e97 : List AV × AV := ([v49, v2], v21)
def e98 : List AV × AV := ([v49, v22], Zo [v42])
def e99 : List AV × AV := ([v49, v23], v21)
def e100 : List AV × AV := ([v49], .tup [Zo [Zi 0, Zi 2], Zi 0])
def e101 : List AV × AV := ([v3, v38, Zi 0, v41], .tup [v51, Zi 0])
def e102 : List AV × AV := ([v49, Zi 2, Zi 0, Zi 0], .tup [v52, Zi 0])
def e103 : List AV × AV := ([v52], Zi 0)
def e104 : List AV × AV := ([v52, Zle], Zle)
def e105 : List AV × AV := ([v52, v2], v21)
def e106 : List AV × AV := ([v52, v22], v21)
def e107 : List AV × AV := ([v52, v23], v21)
def e108 : List AV × AV := ([v52], v24)
def e109 : List AV × AV := ([v52, Zi 0], .tup [v56, Zt])
def e110 : List AV × AV := ([v56], Zi 0)
def e111 : List AV × AV := ([v56, Zle], Zle)
def e112 : List AV × AV := ([v56, v2], Zo [v55])
def e113 : List AV × AV := ([v56, v22], v21)
def e114 : List AV × AV := ([v56, v23], v21)
def e115 : List AV × AV := ([v56], .tup [Zo [Zi 1], Zi 0])
def e116 : List AV × AV := ([v56, Zi 1, Zi 0, Zi 0], .tup [v57, Zi 0])
def e117 : List AV × AV := ([v57], Zi 0)
def e118 : List AV × AV := ([v57, Zle], Zle)
def e119 : List AV × AV := ([v57, v2], v21)
def e120 : List AV × AV := ([v57, v22], v21)
def e121 : List AV × AV := ([v57, v23], v21)
def e122 : List AV × AV := ([v57], .tup [Zo [Zi 1], Zi 0])
def e123 : List AV × AV := ([v57, Zi 1], .tup [v59, Zt])
def e124 : List AV × AV := ([v59], Zi 0)
def e125 : List AV × AV := ([v59, Zle], Zle)
def e126 : List AV × AV := ([v59, v2], v21)
def e127 : List AV × AV := ([v59, v22], Zo [v55])
def e128 : List AV × AV := ([v59, v23], v21)
def e129 : List AV × AV := ([v59], .tup [Zo [Zi 2], Zi 0])
def e130 : List AV × AV := ([v3, v51, Zi 0, v54], .tup [v60, Zi 0])
def e131 : List AV × AV := ([v59, Zi 2, Zi 0, Zi 0], .tup [v61, Zi 0])
def e132 : List AV × AV := ([v59, Zi 2], .tup [v61, Zi 0])
def e133 : List AV × AV := ([v61], Zi 0)
def e134 : List AV × AV := ([v61, Zle], Zle)
def e135 : List AV × AV := ([v61, v2], v21)
def e136 : List AV × AV := ([v61, v22], v21)
def e137 : List AV × AV := ([v61, v23], v21)
def e138 : List AV × AV := ([v61], .tup [Zo [Zi 2], Zi 0])
def e139 : List AV × AV := ([v61, Zi 2], .tup [v64, Zt])
def e140 : List AV × AV := ([v64], Zi 0)
def e141 : List AV × AV := ([v64, Zle], Zle)
def e142 : List AV × AV := ([v64, v2], v21)
def e143 : List AV × AV := ([v64, v22], v21)
def e144 : List AV × AV := ([v64, v23], Zo [v63])
def e145 : List AV × AV := ([v64], .tup [Zo [Zi 3], Zi 0])
def e146 : List AV × AV := ([v64, Zi 3, Zi 0, Zi 0], .tup [v65, Zi 0])
def e147 : List AV × AV := ([v65], Zi 0)
def e148 : List AV × AV := ([v65, Zle], Zle)
def e149 : List AV × AV := ([v65, v2], v21)
def e150 : List AV × AV := ([v65, v22], v21)
def e151 : List AV × AV := ([v65, v23], v21)
def e152 : List AV × AV := ([v65], .tup [Zle, Zi 0])
def e153 : List AV × AV := ([v20], .tup [v65, Zi 17, Zi 0])
def e154 : List AV × AV := ([], Zt)
theorem m5 : Q 146 e5 := Xwo [0] (by simp)
theorem m6 : Q 105 e6 := Xsq
theorem m8 : Q 131 e8 := Xl8.ok ⟨[⟨(1), (0)⟩, ⟨(2), (0)⟩, ⟨(4), (0)⟩, ⟨(6), (0)⟩], [⟨(0), (0), (1), (0), (1)⟩, ⟨(1), (0), (2), (0), (1)⟩, ⟨(2), (0), (3), (0), (1)⟩]⟩ [0, 1, 2, 3] (by kernel_rfl)
theorem m18 : Q 175 e18 := Xso
theorem m19 : Q 176 e19 := Xsn
theorem m20 : Q 54 e20 := Xwx
theorem m21 : Q 75 e21 := Xww
theorem m22 : Q 77 e22 := Xwv
theorem m23 : Q 168 e23 := Xsp
theorem m24 : Q 177 e24 := Xsm
end
end Go.Av.TryzM
