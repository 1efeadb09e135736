/- A closed run, in parts: the values that are named, and what the parts want. -/
import Derived.Test.YtomaojndejpfgaaGreatDoorTabX
import Derived.Test.YtomaojndejpfgaaGreatDoorGlX
import Derived.Test.YtomaojndejpfgaaGreatDoorBldE
set_option linter.all false

set_option maxRecDepth 1000000
namespace Go.Av.TryzM
open Go.Av Go.Av.X Go.Proofs Go.D Go.Av.Tryz
set_option maxHeartbeats 4000000
noncomputable section
def Xt (f : Nat) : Option (List AV -> Option AV) := bif Nat.beq f 217 then some ixG else none
theorem X_ok : Xu2 Tryz.prog Xt := by
  intro f g h
  unfold Xt at h
  cases hb : Nat.beq f 217 with
  | true => rw [hb, cond_true] at h; cases h; rw [Nat.eq_of_beq_eq_true hb]; exact X0ev Tryz.func217 (by kernel_rfl) (by kernel_rfl) (by kernel_rfl) (by kernel_rfl)
  | false =>
  rw [hb, cond_false] at h
  cases h
theorem tmI0 : X71 Tryz.prog Xlu.find /\ Tryz.prog.follows .mixedOrders = true := ⟨Xf, by kernel_rfl⟩
instance tmI : TmD Tryz.prog Xlu.find := ⟨tmI0⟩
def X0x (l : List Int) : Option Int := (X3t (List.length l)).bind fun _ => some ((X5u [] l).length : Int)
theorem Xfv : Tryz.prog.follows .mixedOrders = true := by kernel_rfl
def fG (l : List (Nat × Xix)) (f : Nat) : Option Xix := List.rec (motive := fun _ => Option Xix) none (fun p _ ih => Bool.rec (motive := fun _ => Option Xix) ih (some p.2) (Nat.beq p.1 f)) l
def AllG : List (Nat × Xix) -> Prop
  | [] => True
  | p :: l => AllM Tryz.prog p.1 p.2 /\ AllG l
theorem X0fo : ∀ l : List (Nat × Xix), AllG l -> Xlp Tryz.prog (fG l) := by
  intro l
  induction l with
  | nil => intro _ f m h; cases h
  | cons p l ih =>
    intro h f m hf
    have hf : Bool.rec (motive := fun _ => Option Xix) (fG l f) (some p.2) (Nat.beq p.1 f) = some m := hf
    cases hb : Nat.beq p.1 f with
    | false => rw [hb] at hf; exact ih h.2 f m hf
    | true => rw [hb] at hf; cases hf; rw [<- Nat.eq_of_beq_eq_true hb]; exact X02o _ h.1
theorem oo : True := trivial
abbrev Q (f : Nat) (e : List AV × AV) : Prop := X76 Tryz.prog f e.1 e.2
theorem w {f : Nat} {e : List AV × AV} (l : List (Nat × Xix)) (h : AllG l) (r : Xs1 Xlu.find Xt X019.find 3000 (callM Xlu.find Xt X019.find (fG l) 3000 200) none f e.1 g8 0 (fun a H _ => wkO (cvF true (hpX H) 100 a) e.2 = true) = (true = true) := by kernel_rfl) : Q f e :=
  Xk5 Xfv X_ok Xf Xgb (X0fo l h) r
def qm (m : AV) (l : List (AV × AV)) : Xix := l.map fun p => ([m, p.1], p.2)
def runL (f : Nat) (l : Xix) : Prop := List.rec (motive := fun _ => Prop) (true = true) (fun p _ ih => Xs1 Xlu.find Xt X019.find 3000 (callM Xlu.find Xt X019.find (fG []) 3000 200) none f p.1 g8 0 (fun a H _ => Bool.rec (motive := fun _ => Prop) False ih (wkO (cvF true (hpX H) 100 a) p.2))) l
theorem wq0 {f : Nat} : ∀ l : Xix, runL f l -> AllM Tryz.prog f l := by
  intro l
  induction l with
  | nil => intro _; trivial
  | cons p l ih =>
    intro h
    have ok := Xvp (fuel := 3000) Xfv X_ok Xf Xgb (X0fo [] trivial) 200
    obtain ⟨r', H', n', h1, h2⟩ := (Xnt (fuel := 3000) Xfv X_ok Xf Xgb ok.1 ok.2).1 _ _ _ _ _ h
    rw [Xl2] at h1
    have h2 : Bool.rec (motive := fun _ => Prop) False (runL f l) (wkO (cvF true (hpX H') 100 r') p.2) := h2
    cases hw : wkO (cvF true (hpX H') 100 r') p.2 with
    | false => rw [hw] at h2; exact h2.elim
    | true =>
      rw [hw] at h2
      obtain ⟨a', e1, e2⟩ := X074 hw
      exact ⟨X76.weaken (X76.of_hc h1 (Xgf _ _ _ e1)) e2, ih h2⟩
theorem wq {f : Nat} {l : Xix} (h : runL f l = (true = true) := by kernel_rfl) : AllM Tryz.prog f l := wq0 l (cast h.symm rfl)
def Zi (n : Int) : AV := .sc (.int .i64 n)
def Zu (n : Int) : AV := .sc (.int .u8 n)
def Zt : AV := .sc (.bool true)
def Zf : AV := .sc (.bool false)
def Zl (l : List AV) : AV := .list false l
def Zo (l : List AV) : AV := .list true l
def Zle : AV := .list false []
def Za (l : List AV) : AV := .agg l
def Zs (l : List UInt8) : AV := .sc (.string ⟨⟨l⟩⟩)
theorem X0kf : Xlp Tryz.prog (Tab.leaf : Tab Xix).find := Xn9 trivial
def v0 : AV := Zs [115, 101, 108, 101, 99, 116, 32, 115, 117, 109, 40, 118, 32, 43, 32, 40, 50, 32, 42, 32, 51, 41, 41, 32, 102, 114, 111, 109, 32, 97, 32, 119, 104, 101, 114, 101, 32, 49, 32, 60, 32, 50, 32, 119, 105, 110, 100, 111, 119, 32, 115, 108, 105, 100, 101, 32, 53, 32, 101, 118, 101, 114, 121, 32, 53]
def v1 : AV := Zs [115, 101, 108, 101, 99, 116]
def v2 : AV := Za [Zu 2, v1, Zi 0]
def v3 : AV := Za [Zu 2, Zs [115, 117, 109], Zi 7]
def v4 : AV := Za [Zu 3, Zs [40], Zi 10]
def v5 : AV := Za [Zu 2, Zs [118], Zi 11]
def v6 : AV := Za [Zu 3, Zs [43], Zi 13]
def v7 : AV := Zs [102, 114, 111, 109]
def v8 : AV := Za [Zu 2, Zs [119, 104, 101, 114, 101], Zi 31]
def v9 : AV := Zs [119, 105, 110, 100, 111, 119]
def v10 : AV := Za [Zu 2, Zs [115, 108, 105, 100, 101], Zi 50]
def v11 : AV := Za [Zu 2, Zs [101, 118, 101, 114, 121], Zi 58]
def v12 : AV := Za [Zu 4, Zi 0, Zi 0, Zi 0, Zi 11]
def v13 : AV := Za [Zu 1, Zi 2, Zi 0, Zi 0, Zi 16]
def v14 : AV := Za [Zu 1, Zi 3, Zi 0, Zi 0, Zi 20]
def v15 : AV := Zl [v13, v14, Za [Zu 7, Zi 0, Zi 0, Zi 1, Zi 18]]
def v16 : AV := Za [Zu 7, Zi 0, Zi 1, Zi 2, Zi 18]
def v17 : AV := Za [Zu 8, Zi 0, Zi 0, Zi 3, Zi 13]
def v18 : AV := Zl [v2, v3, v4, v5, v6, Za [Zu 3, Zs [40], Zi 15], Za [Zu 1, Zs [50], Zi 16], Za [Zu 3, Zs [42], Zi 18], Za [Zu 1, Zs [51], Zi 20], Za [Zu 3, Zs [41], Zi 21], Za [Zu 3, Zs [41], Zi 22], Za [Zu 2, v7, Zi 24], Za [Zu 2, Zs [97], Zi 29], v8, Za [Zu 1, Zs [49], Zi 37], Za [Zu 3, Zs [60], Zi 39], Za [Zu 1, Zs [50], Zi 41], Za [Zu 2, v9, Zi 43], v10, Za [Zu 1, Zs [53], Zi 56], v11, Za [Zu 1, Zs [53], Zi 64]]
def v19 : AV := Za [Zu 1, Zi 1, Zi 0, Zi 0, Zi 37]
def v20 : AV := Za [Zu 1, Zi 2, Zi 0, Zi 0, Zi 41]
def v21 : AV := Za [Zu 12, Zi 0, Zi 0, Zi 1, Zi 39]
def v22 : AV := Zl [v12, v13, v14, v16, v17]
def v23 : AV := Zl [v19, v20, v21]
def v24 : AV := Za [Zu 2, v22, Zl [Zi 0], Zf, v23, Zu 2, Zi 5, Zi 5, Zf, Zu 1]
def v25 : AV := Za [Zu 1, Zi 6, Zi 0, Zi 0, Zi 18]
def v26 : AV := Za [Zu 8, Zi 0, Zi 0, Zi 1, Zi 13]
def v27 : AV := .tup [Zo [v12, v25, v26], Zi 0]
def v28 : AV := Za [Zu 1, Zi 0, Zi 0, Zi 0, Zi 39]
def v29 : AV := Za [Zu 16, Zi 0, Zi 0, Zi 1, Zi 39]
def v30 : AV := Zl [v12, v25, v26]
def v31 : AV := Za [Zu 2, v30, Zl [Zi 0], Zf, Zle, Zu 1, Zi 5, Zi 0, Zf, Zu 1]
def v32 : AV := Zs [116, 117, 109, 98, 108, 101]
def v33 : AV := Zs [115, 101, 108, 101, 99, 116, 32, 115, 117, 109, 40, 118, 32, 43, 32, 54, 41, 32, 102, 114, 111, 109, 32, 97, 32, 119, 105, 110, 100, 111, 119, 32, 116, 117, 109, 98, 108, 101, 32, 53]
theorem fn68 : Xiy Tryz.prog 68 Tryz.f68 (X1l Tryz.f68) := ⟨Tryz.func68, by kernel_rfl, rfl⟩
theorem Xxw : X76 Tryz.prog 68 [.list false []] .nils := by
  refine X76.sym Xf fn68 (nt := 8) rfl rfl ?_ okM
  refine X0q [] ?_
  refine X7.eqNil Xf (may := true) rfl rfl rfl rfl rfl rfl trivial (by simp [X6n]) fun b2 qb2 => ?_
  cases b2
  · exact X8 [.br false, .ne false] (k := fi)
  · exact X8 [.br true] (k := fi)
theorem Xkt (z : Int) : ∀ (ks : List Int), Xlx (.int .i64 z) (.bool true) (ks.map Xbi) = (Xdl ks z).map Xbi := by
  intro ks
  unfold Xdl
  induction ks with
  | nil => simp [Xlx, Xbi]
  | cons a r ih =>
    simp only [List.map_cons, Xbi, Xlx]
    by_cases h : a = z
    · subst h; simp [Xbi]
    · have h1 : ¬ (Value.int .i64 a = Value.int .i64 z) := by simpa using h
      rw [if_neg h1]
      have ih' : Xlx (.int .i64 z) (.bool true) (r.map Xbi) = (if z ∈ r then r else r ++ [z]).map Xbi := ih
      rw [ih']
      have h2 : ¬ z = a := fun e => h e.symm
      by_cases hz : z ∈ r <;> simp [hz, h2, Xbi]
theorem wkA {P : Prop} (h : P := by
  first
    | exact trivial
    | rfl
    | exact .sc
    | exact .list
    | exact .nils
    | assumption
    | (refine congrArg (fun z => AV.sc (Value.int IntKind.i64 z)) ?_; first | rfl | omega | assumption | (simp; done) | (simp; omega))
    | (simp [AV.ren, *]; done)) : P := h
theorem X0b4 : Xiy Tryz.prog 104 Tryz.f104 (X1l Tryz.f104) := ⟨Tryz.func104, by kernel_rfl, rfl⟩
theorem tmD : X71 Tryz.prog Xlu.find /\ Tryz.prog.follows .mixedOrders = true := ⟨Xf, by kernel_rfl⟩
theorem X4c {Q : Xr -> St -> Mu -> Prop} {μ : Mu} (b : Nat) (l : List Int) (hl : List.length l <= 140737488355328) : ∀ (xs : List Int) (k : Nat) (hx : l.drop k = xs) (ks : List Int)
    (C : X7 Tryz.prog 18 0 Q (.exit (.exit 0)) [] ⟨fr [(3, .sc (.map (some b)))], hp [], 0⟩ ((b, (X5u ks xs).map Xbi) :: μ)),
    X7 Tryz.prog 18 0 Q (.loop (X64 0 (X1l Tryz.f104))) [] ⟨fr [(3, .sc (.map (some b))), (7, AV.list false (List.map (aI .i64) l)), (8, aI .i64 (List.length l : Int)), (9, aI .i64 (k : Int))], hp [], 0⟩ ((b, ks.map Xbi) :: μ) := by
  intro xs
  induction xs with
  | nil =>
    intro k hx ks C
    have hk := drop_nil hx
    have hc : decide ((k : Int) < (List.length l : Int)) = false := decide_eq_false (by omega)
    refine X7.round ?_
    refine Xcj tmD 4000 [.br false] rfl (by repeat' first | refine And.intro ?_ ?_ | exact hc | exact oblA) ?_
    exact X7.weakTo [] C rfl (by repeat' first | refine And.intro ?_ ?_ | exact wkA) trivial
  | cons x xs ih =>
    intro k hx ks C
    obtain ⟨hk, hg, hx1⟩ := drop_cons hx
    have hc : decide ((k : Int) < (List.length l : Int)) = true := decide_eq_true (by omega)
    refine X7.round ?_
    refine Xcj tmD 4000 [.br true, .el (aI .i64 x)] rfl (by repeat' first | refine And.intro ?_ ?_ | exact hc | exact ixm hg | exact oblA) ?_
    refine X7.mapUpd (d := .int .i64) Xf rfl rfl rfl rfl rfl Tryz.underlying2 rfl rfl rfl trivial trivial trivial rfl (by
      intro p hp; obtain ⟨z, _, rfl⟩ := List.mem_map.1 hp; rfl) ?_
    rw [Xkt]
    refine Xcj tmD 4000 [] rfl (by repeat' first | refine And.intro ?_ ?_ | exact oblA) ?_
    exact X7.weakTo [] (ih (k + 1) hx1 (Xdl ks x) C) rfl (by repeat' first | refine And.intro ?_ ?_ | exact wkA) trivial
theorem X2v (a0 : (List Int)) (r : Int) (h : X0x a0 = some r) : X76 Tryz.prog 104 [(AV.list false (List.map (aI .i64) a0))] (aI .i64 r) := by
  refine X76.sym Xf X0b4 (nt := 18) rfl rfl ?_ (X14 .list X74)
  unfold X0x at h
  refine X0c4 h ?_
  clear h; intro u h1 h
  have q1 := X0e h1
  obtain rfl := Option.some.inj h
  refine Xcj tmD 4000 [] rfl (by repeat' first | refine And.intro ?_ ?_ | exact oblA) ?_
  refine X7.mapNew rfl rfl rfl fun b => ?_
  refine Xcj tmD 4000 [] rfl (by repeat' first | refine And.intro ?_ ?_ | exact oblA) ?_
  refine X7.weakTo [] (X7.cut (X4c b a0 q1 a0 0 (by simp) [] ?_)) rfl (by repeat' first | refine And.intro ?_ ?_ | exact wkA) trivial
  refine X7.glue ?_
  refine Xcj tmD 4000 [] rfl (by repeat' first | refine And.intro ?_ ?_ | exact oblA) ?_
  refine X7.mapLen Xf rfl rfl rfl rfl rfl rfl trivial ?_
  rw [List.length_map]
  refine Xcj tmD 4000 [] rfl (by repeat' first | refine And.intro ?_ ?_ | exact oblA) ?_
  refine Xtq rfl ?_
  exact .sc
theorem Xxs (l : List Int) (h : List.length l <= 1000) : X76 Tryz.prog 104 [.list false (l.map (aI .i64))] (aI .i64 ((X5u [] l).length : Int)) := X2v l _ (by unfold X0x X3t; rw [if_pos (by omega)]; rfl)
def e0 : List AV × AV := ([Zs [115, 117, 109]], Zt)
def e1 : List AV × AV := ([Zs [118]], Zt)
def e2 : List AV × AV := ([Zs [97]], Zt)
def e3 : List AV × AV := ([Zs [115, 108, 105, 100, 101]], Zt)
def e4 : List AV × AV := ([Zs [101, 118, 101, 114, 121]], Zt)
def e5 : List AV × AV := ([v0], .tup [Zo [v2, v3, v4, v5, v6, Za [Zu 3, Zs [40], Zi 15], Za [Zu 1, Zs [50], Zi 16], Za [Zu 3, Zs [42], Zi 18], Za [Zu 1, Zs [51], Zi 20], Za [Zu 3, Zs [41], Zi 21], Za [Zu 3, Zs [41], Zi 22], Za [Zu 2, v7, Zi 24], Za [Zu 2, Zs [97], Zi 29], v8, Za [Zu 1, Zs [49], Zi 37], Za [Zu 3, Zs [60], Zi 39], Za [Zu 1, Zs [50], Zi 41], Za [Zu 2, v9, Zi 43], v10, Za [Zu 1, Zs [53], Zi 56], v11, Za [Zu 1, Zs [53], Zi 64]], Zi 65, Zi 0])
def e6 : List AV × AV := ([Zu 8, Zi 0, Zi 13, Zl [Zl [v12], v15]], .tup [Zo [v12, v13, v14, v16, v17], Zi 0])
def e7 : List AV × AV := ([v18, Zi 3], .tup [Zo [v12, v13, v14, v16, v17], Zi 10, Zi 0])
def e8 : List AV × AV := ([v18, Zi 14], .tup [Zo [v19, v20, v21], Zi 17, Zi 0])
def e9 : List AV × AV := ([v0], .tup [v24, Zi 65, Zi 0])
def e10 : List AV × AV := ([Zl [Zi 0]], Zi 1)
def e11 : List AV × AV := ([v24], .tup [Zi 0, Zi 0])
def e12 : List AV × AV := ([v22], .tup [Zi 0, Zf, Zi 0])
def e13 : List AV × AV := ([v15], .tup [Zi 6, Zt, Zi 0])
def e14 : List AV × AV := ([v22], v27)
def e15 : List AV × AV := ([v23], .tup [Zi 1, Zt, Zi 0])
def e16 : List AV × AV := ([v23], .tup [Zo [v28, v28, v29], Zi 0])
def e17 : List AV × AV := ([Za [Zu 2, v30, Zl [Zi 0], Zf, Zl [v28, v28, v29], Zu 2, Zi 5, Zi 5, Zf, Zu 1]], .tup [Zi 0, Zi 0])
def e18 : List AV × AV := ([Zl [v28, v28, v29]], .tup [Zi 1, Zt, Zi 0])
def e19 : List AV × AV := ([Zle], .nils)
def e20 : List AV × AV := ([v30], v27)
def e21 : List AV × AV := ([v31, Zi 1], .tup [v31, Zf, Zi 0])
def e22 : List AV × AV := ([v24], .tup [v31, Zi 0])
def e23 : List AV × AV := ([v30], .tup [Zs [118, 32, 43, 32, 54], Zi 0])
def e24 : List AV × AV := ([Zl [v1, Zs [115, 117, 109, 40, 118, 32, 43, 32, 54, 41], v7, Zs [97], v9, v32, Zs [53]], Zs [32]], v33)
def e25 : List AV × AV := ([v32], Zt)
def e26 : List AV × AV := ([v33], .tup [Zo [v2, v3, v4, v5, v6, Za [Zu 1, Zs [54], Zi 15], Za [Zu 3, Zs [41], Zi 16], Za [Zu 2, v7, Zi 18], Za [Zu 2, Zs [97], Zi 23], Za [Zu 2, v9, Zi 25], Za [Zu 2, v32, Zi 32], Za [Zu 1, Zs [53], Zi 39]], Zi 40, Zi 0])
def e27 : List AV × AV := ([], Zt)
theorem m10 : Q 104 e10 := Xxs [0] (by simp)
theorem m19 : Q 68 e19 := Xxw
section
attribute [local instance] Go.Proofs.Tryz.gl0
theorem X0e6 : Xu2 Tryz.prog (fun _ => none) := fun _ _ h => by cases h
theorem X0e7 : Xlp Tryz.prog (Tab.leaf : Tab Xix).find := Xn9 trivial
theorem tx_6 : ∀ w, Calls Tryz.prog 45 #[.int .i64 (6)] w fun e w2 => e = .returned (.string ⟨⟨[54]⟩⟩) /\ Go.RowKit.Below w.heap.size w w2 := fun w => Go.Proofs.Tryz.num_at (Xk5 Xfv X0e6 Xf Xgb X0e7 (fuel := 3000) (d := 200) (by kernel_rfl)) w
end
def X02v : List Go.Proofs.Tryz.Nd := [(4, 0, 0, 0, 11), (1, 6, 0, 0, 18), (8, 0, 0, 1, 13)]
theorem X0k6 : X76 Tryz.prog 65 [.list false (X02v.map Go.Proofs.Tryz.ndA)] (.sc (.int .i64 0)) := Xk5 Xfv X_ok Xf Xgb X0kf (fuel := 3000) (d := 200) (by kernel_rfl)
theorem X0b0 : Go.Proofs.Tryz.WrOk X02v (0) 6 [118] := Go.Proofs.Tryz.wr_val (i := 0) (k := 4) (by decide) rfl (by decide) rfl
theorem X0az : Go.Proofs.Tryz.WrOk X02v (1) 7 [54] := Go.Proofs.Tryz.wr_num (i := 1) (s := ⟨⟨[54]⟩⟩) (by decide) rfl tx_6
theorem X0ay : Go.Proofs.Tryz.WrOk X02v (2) 0 [118, 32, 43, 32, 54] := Go.Proofs.Tryz.wr_8 (i := 2) (by decide) rfl (by decide) X0b0 X0az
theorem m23 : Q 43 e23 := Go.Proofs.Tryz.expr_at (l := X02v) rfl (by decide) (by decide) X0k6 rfl X0ay (by decide)
theorem m24 : Q 46 e24 := Go.Proofs.Tryz.join_at (xs := [⟨⟨[115, 101, 108, 101, 99, 116]⟩⟩, ⟨⟨[115, 117, 109, 40, 118, 32, 43, 32, 54, 41]⟩⟩, ⟨⟨[102, 114, 111, 109]⟩⟩, ⟨⟨[97]⟩⟩, ⟨⟨[119, 105, 110, 100, 111, 119]⟩⟩, ⟨⟨[116, 117, 109, 98, 108, 101]⟩⟩, ⟨⟨[53]⟩⟩]) (sep := ⟨⟨[32]⟩⟩) rfl (by simp) (by decide) (by kernel_rfl) (by decide)
end
end Go.Av.TryzM
