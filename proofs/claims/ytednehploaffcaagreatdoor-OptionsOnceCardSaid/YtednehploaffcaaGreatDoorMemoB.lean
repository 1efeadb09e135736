/- A closed run, in parts: the values that are named, and what the parts want. -/
import Derived.Test.YtednehploaffcaaGreatDoorAvd
import Derived.Test.YtednehploaffcaaGreatDoorTabX
import Derived.Test.YtednehploaffcaaGreatDoorGlX
set_option linter.all false

set_option maxRecDepth 1000000
namespace Go.Av.TryzM
open Go.Av Go.Av.X Go.Proofs Go.D Go.Av.Tryz
set_option maxHeartbeats 4000000
noncomputable section
def Xt (f : Nat) : Option (List AV -> Option AV) := bif Nat.beq f 174 then some ixG else none
theorem X_ok : Xvd Tryz.prog Xt := by
  intro f g h
  unfold Xt at h
  cases hb : Nat.beq f 174 with
  | true => rw [hb, cond_true] at h; cases h; rw [Nat.eq_of_beq_eq_true hb]; exact X0bc Tryz.func174 (by kernel_rfl) (by kernel_rfl) (by kernel_rfl) (by kernel_rfl)
  | false =>
  rw [hb, cond_false] at h
  cases h
theorem tmI0 : X7a Tryz.prog Xlr.find /\ Tryz.prog.follows .mixedOrders = true := ⟨Xh, by kernel_rfl⟩
instance tmI : TmD Tryz.prog Xlr.find := ⟨tmI0⟩
def X1d (l : List Int) : Option Int := (X4s (List.length l)).bind fun _ => some ((X5x [] l).length : Int)
theorem Xo4 : Tryz.prog.follows .mixedOrders = true := by kernel_rfl
def fG (l : List (Nat × Xlo)) (f : Nat) : Option Xlo := List.rec (motive := fun _ => Option Xlo) none (fun p _ ih => Bool.rec (motive := fun _ => Option Xlo) ih (some p.2) (Nat.beq p.1 f)) l
def AllG : List (Nat × Xlo) -> Prop
  | [] => True
  | p :: l => AllM Tryz.prog p.1 p.2 /\ AllG l
theorem X0c1 : ∀ l : List (Nat × Xlo), AllG l -> Xty Tryz.prog (fG l) := by
  intro l
  induction l with
  | nil => intro _ f m h; cases h
  | cons p l ih =>
    intro h f m hf
    have hf : Bool.rec (motive := fun _ => Option Xlo) (fG l f) (some p.2) (Nat.beq p.1 f) = some m := hf
    cases hb : Nat.beq p.1 f with
    | false => rw [hb] at hf; exact ih h.2 f m hf
    | true => rw [hb] at hf; cases hf; rw [<- Nat.eq_of_beq_eq_true hb]; exact X08r _ h.1
theorem oo : True := trivial
abbrev Q (f : Nat) (e : List AV × AV) : Prop := X8t Tryz.prog f e.1 e.2
theorem w {f : Nat} {e : List AV × AV} (l : List (Nat × Xlo)) (h : AllG l) (r : Xrm Xlr.find Xt Xy8.find 3000 (callM Xlr.find Xt Xy8.find (fG l) 3000 200) none f e.1 g8 0 (fun a H _ => wkO (cvF true (hpX H) 100 a) e.2 = true) = (true = true) := by kernel_rfl) : Q f e :=
  Xwd Xo4 X_ok Xh Xov (X0c1 l h) r
def qm (m : AV) (l : List (AV × AV)) : Xlo := l.map fun p => ([m, p.1], p.2)
def runL (f : Nat) (l : Xlo) : Prop := List.rec (motive := fun _ => Prop) (true = true) (fun p _ ih => Xrm Xlr.find Xt Xy8.find 3000 (callM Xlr.find Xt Xy8.find (fG []) 3000 200) none f p.1 g8 0 (fun a H _ => Bool.rec (motive := fun _ => Prop) False ih (wkO (cvF true (hpX H) 100 a) p.2))) l
theorem wq0 {f : Nat} : ∀ l : Xlo, runL f l -> AllM Tryz.prog f l := by
  intro l
  induction l with
  | nil => intro _; trivial
  | cons p l ih =>
    intro h
    have ok := Xtu (fuel := 3000) Xo4 X_ok Xh Xov (X0c1 [] trivial) 200
    obtain ⟨r', H', n', h1, h2⟩ := (Xns (fuel := 3000) Xo4 X_ok Xh Xov ok.1 ok.2).1 _ _ _ _ _ h
    rw [Xl4] at h1
    have h2 : Bool.rec (motive := fun _ => Prop) False (runL f l) (wkO (cvF true (hpX H') 100 r') p.2) := h2
    cases hw : wkO (cvF true (hpX H') 100 r') p.2 with
    | false => rw [hw] at h2; exact h2.elim
    | true =>
      rw [hw] at h2
      obtain ⟨a', e1, e2⟩ := X03j hw
      exact ⟨X8t.weaken (X8t.of_hc h1 (Xgq _ _ _ e1)) e2, ih h2⟩
theorem wq {f : Nat} {l : Xlo} (h : runL f l = (true = true) := by kernel_rfl) : AllM Tryz.prog f l := wq0 l (cast h.symm rfl)
def Zi (n : Int) : AV := .sc (.int .i64 n)
def Zu (n : Int) : AV := .sc (.int .u8 n)
def Zt : AV := .sc (.bool true)
def Zf : AV := .sc (.bool false)
def Zl (l : List AV) : AV := .list false l
def Zo (l : List AV) : AV := .list true l
def Zle : AV := .list false []
def Zoe : AV := .list true []
def Za (l : List AV) : AV := .agg l
def Zs (l : List UInt8) : AV := .sc (.string ⟨⟨l⟩⟩)
def v0 : AV := Zs [115, 101, 108, 101, 99, 116, 32, 99, 111, 117, 110, 116, 40, 42, 41, 32, 102, 114, 111, 109, 32, 97, 32, 119, 104, 101, 114, 101, 32, 50, 32, 62, 32, 49, 32, 119, 105, 110, 100, 111, 119, 32, 115, 108, 105, 100, 101, 32, 52, 32, 101, 118, 101, 114, 121, 32, 52]
def v1 : AV := Za [Zu 2, Zs [115, 101, 108, 101, 99, 116], Zi 0]
def v2 : AV := Za [Zu 2, Zs [99, 111, 117, 110, 116], Zi 7]
def v3 : AV := Za [Zu 3, Zs [40], Zi 12]
def v4 : AV := Za [Zu 3, Zs [42], Zi 13]
def v5 : AV := Za [Zu 3, Zs [41], Zi 14]
def v6 : AV := Za [Zu 2, Zs [102, 114, 111, 109], Zi 16]
def v7 : AV := Za [Zu 2, Zs [97], Zi 21]
def v8 : AV := Za [Zu 2, Zs [119, 104, 101, 114, 101], Zi 23]
def v9 : AV := Zs [119, 105, 110, 100, 111, 119]
def v10 : AV := Za [Zu 2, Zs [115, 108, 105, 100, 101], Zi 42]
def v11 : AV := Za [Zu 2, Zs [101, 118, 101, 114, 121], Zi 50]
def v12 : AV := Za [Zu 1, Zi 2, Zi 0, Zi 0, Zi 29]
def v13 : AV := Za [Zu 1, Zi 1, Zi 0, Zi 0, Zi 33]
def v14 : AV := Za [Zu 14, Zi 0, Zi 0, Zi 1, Zi 31]
def v15 : AV := Zl [v12, v13, v14]
def v16 : AV := Za [Zu 1, Zle, Zl [Zi 0], Zf, v15, Zu 2, Zi 4, Zi 4, Zf, Zu 1]
def v17 : AV := Zs [116, 117, 109, 98, 108, 101]
def v18 : AV := Zs [115, 101, 108, 101, 99, 116, 32, 99, 111, 117, 110, 116, 40, 42, 41, 32, 102, 114, 111, 109, 32, 97, 32, 119, 105, 110, 100, 111, 119, 32, 116, 117, 109, 98, 108, 101, 32, 52]
def v19 : AV := Za [Zu 1, Zle, Zl [Zi 0], Zf, Zle, Zu 1, Zi 4, Zi 0, Zf, Zu 1]
def v20 : AV := Za [Zu 1, Zi 0, Zi 0, Zi 0, Zi 31]
def v21 : AV := Za [Zu 16, Zi 0, Zi 0, Zi 1, Zi 31]
def v22 : AV := Za [Zf, Zi 0, Zi 0, Zi 1, Zi 0]
def v23 : AV := Zo [Za [Zu 1, Zi 0], Za [Zu 2, Zi 0], Za [Zu 4, Zi 0], Za [Zu 6, Zi 0]]
def v24 : AV := Za [Zi 0, Zi 0, Zi 1, Zi 0, Zi 2]
def v25 : AV := Za [Zi 1, Zi 0, Zi 2, Zi 0, Zi 2]
def v26 : AV := Za [Zi 2, Zi 0, Zi 3, Zi 0, Zi 2]
def v27 : AV := Zo [Zi (-9223372036854775808)]
def v28 : AV := Zo [Za [Zu 1, Zi 0, Zi 0, Zoe, Zoe, Zoe, Zo [v22], Zoe, Zoe], Za [Zu 2, Zi 0, Zi 0, Zoe, v27, Zoe, Zoe, Zoe, Zoe], Za [Zu 4, Zi 0, Zi 0, Zoe, v27, Zoe, Zoe, Zoe, Zoe], Za [Zu 6, Zi 0, Zi 0, Zoe, Zoe, Zoe, Zoe, Zoe, Zoe]]
def v29 : AV := Zo [Za [Zi 2, Zoe], Za [Zi 2, Zoe], Za [Zi 2, Zoe]]
theorem fn19 : Xmg Tryz.prog 19 Tryz.f19 (X1g Tryz.f19) := ⟨Tryz.func19, by kernel_rfl, rfl⟩
theorem Xv7 : X8t Tryz.prog 19 [.list false []] .nils := by
  refine X8t.sym Xh fn19 (nt := 8) rfl rfl ?_ okM
  refine X1j [] ?_
  refine X9.eqNil Xh (may := true) rfl rfl rfl rfl rfl rfl trivial (by simp [X6y]) fun b2 qb2 => ?_
  cases b2
  · exact X8 [.br false, .ne false] (k := fi)
  · exact X8 [.br true] (k := fi)
theorem Xky (z : Int) : ∀ (ks : List Int), Xlu (.int .i64 z) (.bool true) (ks.map Xbk) = (Xdu ks z).map Xbk := by
  intro ks
  unfold Xdu
  induction ks with
  | nil => simp [Xlu, Xbk]
  | cons a r ih =>
    simp only [List.map_cons, Xbk, Xlu]
    by_cases h : a = z
    · subst h; simp [Xbk]
    · have h1 : ¬ (Value.int .i64 a = Value.int .i64 z) := by simpa using h
      rw [if_neg h1]
      have ih' : Xlu (.int .i64 z) (.bool true) (r.map Xbk) = (if z ∈ r then r else r ++ [z]).map Xbk := ih
      rw [ih']
      have h2 : ¬ z = a := fun e => h e.symm
      by_cases hz : z ∈ r <;> simp [hz, h2, Xbk]
theorem wkA {P : Prop} (h : P := by
  first
    | exact trivial
    | rfl
    | exact .sc
    | exact .list
    | exact .nils
    | assumption
    | (refine congrArg (fun z => AV.sc (Value.int IntKind.i64 z)) ?_; first | rfl | omega | assumption | (simp; done) | (simp; omega))
    | (simp [AV.ren, *]; done)) : P := h
theorem fn92 : Xmg Tryz.prog 92 Tryz.f92 (X1g Tryz.f92) := ⟨Tryz.func92, by kernel_rfl, rfl⟩
theorem tmD : X7a Tryz.prog Xlr.find /\ Tryz.prog.follows .mixedOrders = true := ⟨Xh, by kernel_rfl⟩
theorem X4o {Q : Xp -> St -> Mu -> Prop} {μ : Mu} (b : Nat) (l : List Int) (hl : List.length l <= 140737488355328) : ∀ (xs : List Int) (k : Nat) (hx : l.drop k = xs) (ks : List Int)
    (C : X9 Tryz.prog 18 0 Q (.exit (.exit 0)) [] ⟨fr [(3, .sc (.map (some b)))], hp [], 0⟩ ((b, (X5x ks xs).map Xbk) :: μ)),
    X9 Tryz.prog 18 0 Q (.loop (X3l 0 (X1g Tryz.f92))) [] ⟨fr [(3, .sc (.map (some b))), (7, AV.list false (List.map (aI .i64) l)), (8, aI .i64 (List.length l : Int)), (9, aI .i64 (k : Int))], hp [], 0⟩ ((b, ks.map Xbk) :: μ) := by
  intro xs
  induction xs with
  | nil =>
    intro k hx ks C
    have hk := drop_nil hx
    have hc : decide ((k : Int) < (List.length l : Int)) = false := decide_eq_false (by omega)
    refine X9.round ?_
    refine Xcu tmD 4000 [.br false] rfl (by repeat' first | refine And.intro ?_ ?_ | exact hc | exact oblA) ?_
    exact X9.weakTo [] C rfl (by repeat' first | refine And.intro ?_ ?_ | exact wkA) trivial
  | cons x xs ih =>
    intro k hx ks C
    obtain ⟨hk, hg, hx1⟩ := drop_cons hx
    have hc : decide ((k : Int) < (List.length l : Int)) = true := decide_eq_true (by omega)
    refine X9.round ?_
    refine Xcu tmD 4000 [.br true, .el (aI .i64 x)] rfl (by repeat' first | refine And.intro ?_ ?_ | exact hc | exact ixm hg | exact oblA) ?_
    refine X9.mapUpd (d := .int .i64) Xh rfl rfl rfl rfl rfl Tryz.underlying2 rfl rfl rfl trivial trivial trivial rfl (by
      intro p hp; obtain ⟨z, _, rfl⟩ := List.mem_map.1 hp; rfl) ?_
    rw [Xky]
    refine Xcu tmD 4000 [] rfl (by repeat' first | refine And.intro ?_ ?_ | exact oblA) ?_
    exact X9.weakTo [] (ih (k + 1) hx1 (Xdu ks x) C) rfl (by repeat' first | refine And.intro ?_ ?_ | exact wkA) trivial
theorem X33 (a0 : (List Int)) (r : Int) (h : X1d a0 = some r) : X8t Tryz.prog 92 [(AV.list false (List.map (aI .i64) a0))] (aI .i64 r) := by
  refine X8t.sym Xh fn92 (nt := 18) rfl rfl ?_ (Xg .list X3d)
  unfold X1d at h
  refine X08k h ?_
  clear h; intro u h1 h
  have q1 := X1b h1
  obtain rfl := Option.some.inj h
  refine Xcu tmD 4000 [] rfl (by repeat' first | refine And.intro ?_ ?_ | exact oblA) ?_
  refine X9.mapNew rfl rfl rfl fun b => ?_
  refine Xcu tmD 4000 [] rfl (by repeat' first | refine And.intro ?_ ?_ | exact oblA) ?_
  refine X9.weakTo [] (X9.cut (X4o b a0 q1 a0 0 (by simp) [] ?_)) rfl (by repeat' first | refine And.intro ?_ ?_ | exact wkA) trivial
  refine X9.glue ?_
  refine Xcu tmD 4000 [] rfl (by repeat' first | refine And.intro ?_ ?_ | exact oblA) ?_
  refine X9.mapLen Xh rfl rfl rfl rfl rfl rfl trivial ?_
  rw [List.length_map]
  refine Xcu tmD 4000 [] rfl (by repeat' first | refine And.intro ?_ ?_ | exact oblA) ?_
  refine Xs4 rfl ?_
  exact .sc
theorem Xym (l : List Int) (h : List.length l <= 1000) : X8t Tryz.prog 92 [.list false (l.map (aI .i64))] (aI .i64 ((X5x [] l).length : Int)) := X33 l _ (by unfold X1d X4s; rw [if_pos (by omega)]; rfl)
def e0 : List AV × AV := ([Zs [99, 111, 117, 110, 116]], Zt)
def e1 : List AV × AV := ([Zs [97]], Zt)
def e2 : List AV × AV := ([Zs [115, 108, 105, 100, 101]], Zt)
def e3 : List AV × AV := ([Zs [101, 118, 101, 114, 121]], Zt)
def e4 : List AV × AV := ([v0], .tup [Zo [v1, v2, v3, v4, v5, v6, v7, v8, Za [Zu 1, Zs [50], Zi 29], Za [Zu 3, Zs [62], Zi 31], Za [Zu 1, Zs [49], Zi 33], Za [Zu 2, v9, Zi 35], v10, Za [Zu 1, Zs [52], Zi 48], v11, Za [Zu 1, Zs [52], Zi 56]], Zi 57, Zi 0])
def e5 : List AV × AV := ([Zl [v1, v2, v3, v4, v5, v6, v7, v8, Za [Zu 1, Zs [50], Zi 29], Za [Zu 3, Zs [62], Zi 31], Za [Zu 1, Zs [49], Zi 33], Za [Zu 2, v9, Zi 35], v10, Za [Zu 1, Zs [52], Zi 48], v11, Za [Zu 1, Zs [52], Zi 56]], Zi 8], .tup [Zo [v12, v13, v14], Zi 11, Zi 0])
def e6 : List AV × AV := ([v0], .tup [v16, Zi 57, Zi 0])
def e7 : List AV × AV := ([Zl [Zi 0]], Zi 1)
def e8 : List AV × AV := ([v17], Zt)
def e9 : List AV × AV := ([v18], .tup [Zo [v1, v2, v3, v4, v5, v6, v7, Za [Zu 2, v9, Zi 23], Za [Zu 2, v17, Zi 30], Za [Zu 1, Zs [52], Zi 37]], Zi 38, Zi 0])
def e10 : List AV × AV := ([v18], .tup [v19, Zi 38, Zi 0])
def e11 : List AV × AV := ([Zle], .nils)
def e12 : List AV × AV := ([v15], .tup [Zi 1, Zt, Zi 0])
def e13 : List AV × AV := ([v15], .tup [Zo [v20, v20, v21], Zi 0])
def e14 : List AV × AV := ([v16, Zi 1], .tup [Za [Zu 1, Zle, Zl [Zi 0], Zf, Zl [v20, v20, v21], Zu 2, Zi 4, Zi 4, Zf, Zu 1], Zt, Zi 0])
def e15 : List AV × AV := ([Zl [v20, v20, v21]], .tup [Zi 1, Zt, Zi 0])
def e16 : List AV × AV := ([v16], .tup [v19, Zi 0])
def e17 : List AV × AV := ([v19, Zl [Zl [v22]], Zi 1, Zi 2], .tup [Za [Zu 1, Zoe, Zo [Zi 0], Zf, Zoe, Zu 1, Zi 4, Zi 0, Zf, Zu 1, v23, Zo [v24, v25, v26], v28, v29], Zi 0])
def e18 : List AV × AV := ([Za [Zl [Zu 1, Zu 2, Zu 3, Zu 4, Zu 6, Zu 7, Zu 9], Zu 1, Zle, Zl [Zi 0], Zf, v15, Zu 2, Zi 4, Zi 4, Zf, Zu 1], Zi 1, Zi 2], .tup [Za [Zl [Za [Zu 1, Zi 0], Za [Zu 2, Zi 0], Za [Zu 4, Zi 0], Za [Zu 6, Zi 0]], Zl [v24, v25, v26]], Zi 0])
def e19 : List AV × AV := ([v16, Zl [Zl [v22]], Zi 1, Zi 2], .tup [Za [Zu 1, Zoe, Zo [Zi 0], Zf, Zo [v12, v13, v14], Zu 2, Zi 4, Zi 4, Zf, Zu 1, v23, Zo [v24, v25, v26], v28, v29], Zi 0])
def e20 : List AV × AV := ([], Zt)
theorem m7 : Q 92 e7 := Xym [0] (by simp)
theorem m11 : Q 19 e11 := Xv7
end
end Go.Av.TryzM
