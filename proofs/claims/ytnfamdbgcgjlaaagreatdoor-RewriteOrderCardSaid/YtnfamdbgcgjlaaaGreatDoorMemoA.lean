/- A closed run, in parts: what each part answers. -/
import Derived.Test.YtnfamdbgcgjlaaaGreatDoorTabX
import Derived.Test.YtnfamdbgcgjlaaaGreatDoorGlX
import Derived.Test.YtnfamdbgcgjlaaaGreatDoorBldE
set_option linter.all false

set_option maxRecDepth 1000000
namespace Go.Av.TryzM
open Go.Av Go.Av.X Go.Proofs Go.D Go.Av.Tryz
set_option maxHeartbeats 4000000
section
attribute [local instance] Go.Proofs.Tryz.gl0
theorem X011 : Xkq Tryz.prog (fun _ => none) := fun _ _ h => by cases h
theorem X012 : Xat Tryz.prog (Tab.leaf : Tab Xji).find := X6w trivial
theorem X15 : Tryz.prog.follows .mixedOrders = true := by kernel_rfl
theorem tx_6 : ∀ w, Calls Tryz.prog 28 #[.int .i64 (6)] w fun e w2 => e = .returned (.string ⟨⟨[54]⟩⟩) /\ Go.RowKit.Below w.heap.size w w2 := fun w => Go.Proofs.Tryz.num_at (X0o X15 X011 X7 X17 X012 (fuel := 3000) (d := 200) (by kernel_rfl)) w
end
noncomputable def Xt (f : Nat) : Option (List AV -> Option AV) := bif Nat.beq f 155 then some ixG else none
theorem Xds : Xkq Tryz.prog Xt := by
  intro f g h
  unfold Xt at h
  cases hb : Nat.beq f 155 with
  | true => rw [hb, cond_true] at h; cases h; rw [Nat.eq_of_beq_eq_true hb]; exact X01s Tryz.func155 (by kernel_rfl) (by kernel_rfl) (by kernel_rfl) (by kernel_rfl)
  | false =>
  rw [hb, cond_false] at h
  cases h
theorem tmI0 : X5e Tryz.prog Xmc.find /\ Tryz.prog.follows .mixedOrders = true := ⟨X7, by kernel_rfl⟩
instance tmI : TmD Tryz.prog Xmc.find := ⟨tmI0⟩
def X0m (l : List Int) : Option Int := (X6e (List.length l)).bind fun _ => some ((X47 [] l).length : Int)
theorem X063 : Xat Tryz.prog (Tab.leaf : Tab Xji).find := X6w trivial
noncomputable def v0 : AV := .sc (.string ⟨⟨[115, 101, 108, 101, 99, 116, 32, 115, 117, 109, 40, 118, 32, 43, 32, 40, 50, 32, 42, 32, 51, 41, 41, 32, 102, 114, 111, 109, 32, 97, 32, 119, 104, 101, 114, 101, 32, 49, 32, 60, 32, 50, 32, 119, 105, 110, 100, 111, 119, 32, 115, 108, 105, 100, 101, 32, 53, 32, 101, 118, 101, 114, 121, 32, 53]⟩⟩)
noncomputable def v1 : AV := .agg [.sc (.int .u8 2), .sc (.string ⟨⟨[115, 101, 108, 101, 99, 116]⟩⟩), .sc (.int .i64 0)]
noncomputable def v2 : AV := .agg [.sc (.int .u8 2), .sc (.string ⟨⟨[115, 117, 109]⟩⟩), .sc (.int .i64 7)]
noncomputable def v3 : AV := .agg [.sc (.int .u8 2), .sc (.string ⟨⟨[102, 114, 111, 109]⟩⟩), .sc (.int .i64 24)]
noncomputable def v4 : AV := .agg [.sc (.int .u8 2), .sc (.string ⟨⟨[119, 104, 101, 114, 101]⟩⟩), .sc (.int .i64 31)]
noncomputable def v5 : AV := .agg [.sc (.int .u8 2), .sc (.string ⟨⟨[119, 105, 110, 100, 111, 119]⟩⟩), .sc (.int .i64 43)]
noncomputable def v6 : AV := .agg [.sc (.int .u8 2), .sc (.string ⟨⟨[115, 108, 105, 100, 101]⟩⟩), .sc (.int .i64 50)]
noncomputable def v7 : AV := .agg [.sc (.int .u8 2), .sc (.string ⟨⟨[101, 118, 101, 114, 121]⟩⟩), .sc (.int .i64 58)]
noncomputable def v8 : AV := .agg [.sc (.int .u8 4), .sc (.int .i64 0), .sc (.int .i64 0), .sc (.int .i64 0), .sc (.int .i64 11)]
noncomputable def v9 : AV := .agg [.sc (.int .u8 1), .sc (.int .i64 2), .sc (.int .i64 0), .sc (.int .i64 0), .sc (.int .i64 16)]
noncomputable def v10 : AV := .agg [.sc (.int .u8 1), .sc (.int .i64 3), .sc (.int .i64 0), .sc (.int .i64 0), .sc (.int .i64 20)]
noncomputable def v11 : AV := .list false [v9, v10, .agg [.sc (.int .u8 7), .sc (.int .i64 0), .sc (.int .i64 0), .sc (.int .i64 1), .sc (.int .i64 18)]]
noncomputable def v12 : AV := .agg [.sc (.int .u8 7), .sc (.int .i64 0), .sc (.int .i64 1), .sc (.int .i64 2), .sc (.int .i64 18)]
noncomputable def v13 : AV := .agg [.sc (.int .u8 8), .sc (.int .i64 0), .sc (.int .i64 0), .sc (.int .i64 3), .sc (.int .i64 13)]
noncomputable def v14 : AV := .list true [v8, v9, v10, v12, v13]
noncomputable def v15 : AV := .list false [v1, v2, .agg [.sc (.int .u8 3), .sc (.string ⟨⟨[40]⟩⟩), .sc (.int .i64 10)], .agg [.sc (.int .u8 2), .sc (.string ⟨⟨[118]⟩⟩), .sc (.int .i64 11)], .agg [.sc (.int .u8 3), .sc (.string ⟨⟨[43]⟩⟩), .sc (.int .i64 13)], .agg [.sc (.int .u8 3), .sc (.string ⟨⟨[40]⟩⟩), .sc (.int .i64 15)], .agg [.sc (.int .u8 1), .sc (.string ⟨⟨[50]⟩⟩), .sc (.int .i64 16)], .agg [.sc (.int .u8 3), .sc (.string ⟨⟨[42]⟩⟩), .sc (.int .i64 18)], .agg [.sc (.int .u8 1), .sc (.string ⟨⟨[51]⟩⟩), .sc (.int .i64 20)], .agg [.sc (.int .u8 3), .sc (.string ⟨⟨[41]⟩⟩), .sc (.int .i64 21)], .agg [.sc (.int .u8 3), .sc (.string ⟨⟨[41]⟩⟩), .sc (.int .i64 22)], v3, .agg [.sc (.int .u8 2), .sc (.string ⟨⟨[97]⟩⟩), .sc (.int .i64 29)], v4, .agg [.sc (.int .u8 1), .sc (.string ⟨⟨[49]⟩⟩), .sc (.int .i64 37)], .agg [.sc (.int .u8 3), .sc (.string ⟨⟨[60]⟩⟩), .sc (.int .i64 39)], .agg [.sc (.int .u8 1), .sc (.string ⟨⟨[50]⟩⟩), .sc (.int .i64 41)], v5, v6, .agg [.sc (.int .u8 1), .sc (.string ⟨⟨[53]⟩⟩), .sc (.int .i64 56)], v7, .agg [.sc (.int .u8 1), .sc (.string ⟨⟨[53]⟩⟩), .sc (.int .i64 64)]]
noncomputable def v16 : AV := .agg [.sc (.int .u8 1), .sc (.int .i64 1), .sc (.int .i64 0), .sc (.int .i64 0), .sc (.int .i64 37)]
noncomputable def v17 : AV := .agg [.sc (.int .u8 1), .sc (.int .i64 2), .sc (.int .i64 0), .sc (.int .i64 0), .sc (.int .i64 41)]
noncomputable def v18 : AV := .agg [.sc (.int .u8 12), .sc (.int .i64 0), .sc (.int .i64 0), .sc (.int .i64 1), .sc (.int .i64 39)]
noncomputable def v19 : AV := .list true [v16, v17, v18]
noncomputable def v20 : AV := .list false [v8, v9, v10, v12, v13]
noncomputable def v21 : AV := .list false [v16, v17, v18]
noncomputable def v22 : AV := .agg [.sc (.int .u8 2), v20, .list false [.sc (.int .i64 0)], .sc (.bool false), v21, .sc (.int .u8 2), .sc (.int .i64 5), .sc (.int .i64 5), .sc (.bool false), .sc (.int .u8 1)]
noncomputable def v23 : AV := .agg [.sc (.int .u8 1), .sc (.int .i64 6), .sc (.int .i64 0), .sc (.int .i64 0), .sc (.int .i64 18)]
noncomputable def v24 : AV := .agg [.sc (.int .u8 8), .sc (.int .i64 0), .sc (.int .i64 0), .sc (.int .i64 1), .sc (.int .i64 13)]
noncomputable def v25 : AV := .list true [v8, v23, v24]
noncomputable def v26 : AV := .tup [v25, .sc (.int .i64 0)]
noncomputable def v27 : AV := .agg [.sc (.int .u8 1), .sc (.int .i64 0), .sc (.int .i64 0), .sc (.int .i64 0), .sc (.int .i64 39)]
noncomputable def v28 : AV := .agg [.sc (.int .u8 16), .sc (.int .i64 0), .sc (.int .i64 0), .sc (.int .i64 1), .sc (.int .i64 39)]
noncomputable def v29 : AV := .list false [v8, v23, v24]
noncomputable def v30 : AV := .list false [v27, v27, v28]
noncomputable def v31 : AV := .agg [.sc (.int .u8 2), v25, .list true [.sc (.int .i64 0)], .sc (.bool false), .list true [], .sc (.int .u8 1), .sc (.int .i64 5), .sc (.int .i64 0), .sc (.bool false), .sc (.int .u8 1)]
noncomputable def v32 : AV := .sc (.string ⟨⟨[115, 101, 108, 101, 99, 116, 32, 115, 117, 109, 40, 118, 32, 43, 32, 54, 41, 32, 102, 114, 111, 109, 32, 97, 32, 119, 105, 110, 100, 111, 119, 32, 116, 117, 109, 98, 108, 101, 32, 53]⟩⟩)
noncomputable def a_m0 : List AV := [.sc (.string ⟨⟨[115, 117, 109]⟩⟩)]
noncomputable def r_m0 : AV := .sc (.bool true)
noncomputable def a_m1 : List AV := [.sc (.string ⟨⟨[118]⟩⟩)]
noncomputable def r_m1 : AV := .sc (.bool true)
noncomputable def a_m2 : List AV := [.sc (.string ⟨⟨[97]⟩⟩)]
noncomputable def r_m2 : AV := .sc (.bool true)
noncomputable def a_m3 : List AV := [.sc (.string ⟨⟨[115, 108, 105, 100, 101]⟩⟩)]
noncomputable def r_m3 : AV := .sc (.bool true)
noncomputable def a_m4 : List AV := [.sc (.string ⟨⟨[101, 118, 101, 114, 121]⟩⟩)]
noncomputable def r_m4 : AV := .sc (.bool true)
noncomputable def a_m5 : List AV := [v0]
noncomputable def r_m5 : AV := .tup [.list true [v1, v2, .agg [.sc (.int .u8 3), .sc (.string ⟨⟨[40]⟩⟩), .sc (.int .i64 10)], .agg [.sc (.int .u8 2), .sc (.string ⟨⟨[118]⟩⟩), .sc (.int .i64 11)], .agg [.sc (.int .u8 3), .sc (.string ⟨⟨[43]⟩⟩), .sc (.int .i64 13)], .agg [.sc (.int .u8 3), .sc (.string ⟨⟨[40]⟩⟩), .sc (.int .i64 15)], .agg [.sc (.int .u8 1), .sc (.string ⟨⟨[50]⟩⟩), .sc (.int .i64 16)], .agg [.sc (.int .u8 3), .sc (.string ⟨⟨[42]⟩⟩), .sc (.int .i64 18)], .agg [.sc (.int .u8 1), .sc (.string ⟨⟨[51]⟩⟩), .sc (.int .i64 20)], .agg [.sc (.int .u8 3), .sc (.string ⟨⟨[41]⟩⟩), .sc (.int .i64 21)], .agg [.sc (.int .u8 3), .sc (.string ⟨⟨[41]⟩⟩), .sc (.int .i64 22)], v3, .agg [.sc (.int .u8 2), .sc (.string ⟨⟨[97]⟩⟩), .sc (.int .i64 29)], v4, .agg [.sc (.int .u8 1), .sc (.string ⟨⟨[49]⟩⟩), .sc (.int .i64 37)], .agg [.sc (.int .u8 3), .sc (.string ⟨⟨[60]⟩⟩), .sc (.int .i64 39)], .agg [.sc (.int .u8 1), .sc (.string ⟨⟨[50]⟩⟩), .sc (.int .i64 41)], v5, v6, .agg [.sc (.int .u8 1), .sc (.string ⟨⟨[53]⟩⟩), .sc (.int .i64 56)], v7, .agg [.sc (.int .u8 1), .sc (.string ⟨⟨[53]⟩⟩), .sc (.int .i64 64)]], .sc (.int .i64 65), .sc (.int .i64 0)]
noncomputable def a_m6 : List AV := [.sc (.int .u8 8), .sc (.int .i64 0), .sc (.int .i64 13), .list false [.list false [v8], v11]]
noncomputable def r_m6 : AV := .tup [v14, .sc (.int .i64 0)]
noncomputable def a_m7 : List AV := [v15, .sc (.int .i64 3)]
noncomputable def r_m7 : AV := .tup [v14, .sc (.int .i64 10), .sc (.int .i64 0)]
noncomputable def a_m8 : List AV := [v15, .sc (.int .i64 14)]
noncomputable def r_m8 : AV := .tup [v19, .sc (.int .i64 17), .sc (.int .i64 0)]
noncomputable def a_m9 : List AV := [v0]
noncomputable def r_m9 : AV := .tup [.agg [.sc (.int .u8 2), v14, .list true [.sc (.int .i64 0)], .sc (.bool false), v19, .sc (.int .u8 2), .sc (.int .i64 5), .sc (.int .i64 5), .sc (.bool false), .sc (.int .u8 1)], .sc (.int .i64 65), .sc (.int .i64 0)]
noncomputable def Xqv : List AV := [.list false [.sc (.int .i64 0)]]
noncomputable def Xoc : AV := .sc (.int .i64 1)
noncomputable def Xug : List AV := [v22]
noncomputable def Xsd : AV := .tup [.sc (.int .i64 0), .sc (.int .i64 0)]
noncomputable def Xuf : List AV := [v20]
noncomputable def Xsc : AV := .tup [.sc (.int .i64 0), .sc (.bool false), .sc (.int .i64 0)]
noncomputable def Xue : List AV := [v11]
noncomputable def Xsb : AV := .tup [.sc (.int .i64 6), .sc (.bool true), .sc (.int .i64 0)]
noncomputable def Xza : List AV := [v20]
noncomputable def Xx0 : AV := v26
noncomputable def Xud : List AV := [v21]
noncomputable def Xsa : AV := .tup [.sc (.int .i64 1), .sc (.bool true), .sc (.int .i64 0)]
noncomputable def Xz9 : List AV := [v21]
noncomputable def Xwz : AV := .tup [.list true [v27, v27, v28], .sc (.int .i64 0)]
noncomputable def Xuc : List AV := [.agg [.sc (.int .u8 2), v29, .list false [.sc (.int .i64 0)], .sc (.bool false), v30, .sc (.int .u8 2), .sc (.int .i64 5), .sc (.int .i64 5), .sc (.bool false), .sc (.int .u8 1)]]
noncomputable def Xs9 : AV := .tup [.sc (.int .i64 0), .sc (.int .i64 0)]
noncomputable def Xub : List AV := [v30]
noncomputable def Xs8 : AV := .tup [.sc (.int .i64 1), .sc (.bool true), .sc (.int .i64 0)]
noncomputable def Xqu : List AV := [.list false []]
noncomputable def Xob : AV := .nils
noncomputable def Xua : List AV := [v29]
noncomputable def Xs7 : AV := v26
noncomputable def Xz8 : List AV := [.agg [.sc (.int .u8 2), v29, .list false [.sc (.int .i64 0)], .sc (.bool false), .list false [], .sc (.int .u8 1), .sc (.int .i64 5), .sc (.int .i64 0), .sc (.bool false), .sc (.int .u8 1)], .sc (.int .i64 1)]
noncomputable def Xwy : AV := .tup [v31, .sc (.bool false), .sc (.int .i64 0)]
noncomputable def X02o : List AV := [v22]
noncomputable def X00i : AV := .tup [v31, .sc (.int .i64 0)]
noncomputable def Xqt : List AV := [v29]
noncomputable def Xoa : AV := .tup [.sc (.string ⟨⟨[118, 32, 43, 32, 54]⟩⟩), .sc (.int .i64 0)]
noncomputable def Xqs : List AV := [.list false [.sc (.string ⟨⟨[115, 101, 108, 101, 99, 116]⟩⟩), .sc (.string ⟨⟨[115, 117, 109, 40, 118, 32, 43, 32, 54, 41]⟩⟩), .sc (.string ⟨⟨[102, 114, 111, 109]⟩⟩), .sc (.string ⟨⟨[97]⟩⟩), .sc (.string ⟨⟨[119, 105, 110, 100, 111, 119]⟩⟩), .sc (.string ⟨⟨[116, 117, 109, 98, 108, 101]⟩⟩), .sc (.string ⟨⟨[53]⟩⟩)], .sc (.string ⟨⟨[32]⟩⟩)]
noncomputable def Xo9 : AV := v32
noncomputable def Xu9 : List AV := [.sc (.string ⟨⟨[116, 117, 109, 98, 108, 101]⟩⟩)]
noncomputable def Xs6 : AV := .sc (.bool true)
noncomputable def Xz7 : List AV := [v32]
noncomputable def Xwx : AV := .tup [.list true [v1, v2, .agg [.sc (.int .u8 3), .sc (.string ⟨⟨[40]⟩⟩), .sc (.int .i64 10)], .agg [.sc (.int .u8 2), .sc (.string ⟨⟨[118]⟩⟩), .sc (.int .i64 11)], .agg [.sc (.int .u8 3), .sc (.string ⟨⟨[43]⟩⟩), .sc (.int .i64 13)], .agg [.sc (.int .u8 1), .sc (.string ⟨⟨[54]⟩⟩), .sc (.int .i64 15)], .agg [.sc (.int .u8 3), .sc (.string ⟨⟨[41]⟩⟩), .sc (.int .i64 16)], .agg [.sc (.int .u8 2), .sc (.string ⟨⟨[102, 114, 111, 109]⟩⟩), .sc (.int .i64 18)], .agg [.sc (.int .u8 2), .sc (.string ⟨⟨[97]⟩⟩), .sc (.int .i64 23)], .agg [.sc (.int .u8 2), .sc (.string ⟨⟨[119, 105, 110, 100, 111, 119]⟩⟩), .sc (.int .i64 25)], .agg [.sc (.int .u8 2), .sc (.string ⟨⟨[116, 117, 109, 98, 108, 101]⟩⟩), .sc (.int .i64 32)], .agg [.sc (.int .u8 1), .sc (.string ⟨⟨[53]⟩⟩), .sc (.int .i64 39)]], .sc (.int .i64 40), .sc (.int .i64 0)]
noncomputable def X061 : List AV := []
noncomputable def X041 : AV := .sc (.bool true)
theorem fn62 : X2m Tryz.prog 62 Tryz.f62 (X3 Tryz.f62) := ⟨Tryz.func62, by kernel_rfl, rfl⟩
theorem Xn3 : X06 Tryz.prog 62 [.list false []] .nils := by
  refine X06.sym X7 fn62 (nt := 8) rfl rfl ?_ okM
  refine X34 [] ?_
  refine X4.eqNil X7 (may := true) rfl rfl rfl rfl rfl rfl trivial (by simp [X6d]) fun b2 qb2 => ?_
  cases b2
  · exact Xd [.br false, .ne false] (k := fi)
  · exact Xd [.br true] (k := fi)
theorem Xf1 (z : Int) : ∀ (ks : List Int), Xih (.int .i64 z) (.bool true) (ks.map X8f) = (Xa5 ks z).map X8f := by
  intro ks
  unfold Xa5
  induction ks with
  | nil => simp [Xih, X8f]
  | cons a r ih =>
    simp only [List.map_cons, X8f, Xih]
    by_cases h : a = z
    · subst h; simp [X8f]
    · have h1 : ¬ (Value.int .i64 a = Value.int .i64 z) := by simpa using h
      rw [if_neg h1]
      have ih' : Xih (.int .i64 z) (.bool true) (r.map X8f) = (if z ∈ r then r else r ++ [z]).map X8f := ih
      rw [ih']
      have h2 : ¬ z = a := fun e => h e.symm
      by_cases hz : z ∈ r <;> simp [hz, h2, X8f]
theorem wkA {P : Prop} (h : P := by
  first
    | exact trivial
    | rfl
    | exact .sc
    | exact .list
    | exact .nils
    | assumption
    | (refine congrArg (fun z => AV.sc (Value.int IntKind.i64 z)) ?_; first | rfl | omega | assumption | (simp; done) | (simp; omega))
    | (simp [AV.ren, *]; done)) : P := h
theorem fn73 : X2m Tryz.prog 73 Tryz.f73 (X3 Tryz.f73) := ⟨Tryz.func73, by kernel_rfl, rfl⟩
theorem tmD : X5e Tryz.prog Xmc.find /\ Tryz.prog.follows .mixedOrders = true := ⟨X7, by kernel_rfl⟩
theorem X3e {Q : Xi -> St -> Mu -> Prop} {μ : Mu} (b : Nat) (l : List Int) (hl : List.length l <= 140737488355328) : ∀ (xs : List Int) (k : Nat) (hx : l.drop k = xs) (ks : List Int)
    (C : X4 Tryz.prog 18 0 Q (.exit (.exit 0)) [] ⟨fr [(3, .sc (.map (some b)))], hp [], 0⟩ ((b, (X47 ks xs).map X8f) :: μ)),
    X4 Tryz.prog 18 0 Q (.loop (X7j 0 (X3 Tryz.f73))) [] ⟨fr [(3, .sc (.map (some b))), (7, AV.list false (List.map (aI .i64) l)), (8, aI .i64 (List.length l : Int)), (9, aI .i64 (k : Int))], hp [], 0⟩ ((b, ks.map X8f) :: μ) := by
  intro xs
  induction xs with
  | nil =>
    intro k hx ks C
    have hk := drop_nil hx
    have hc : decide ((k : Int) < (List.length l : Int)) = false := decide_eq_false (by omega)
    refine X4.round ?_
    refine X9k tmD 4000 [.br false] rfl (by repeat' first | refine And.intro ?_ ?_ | exact hc | exact Xrf) ?_
    exact X4.weakTo [] C rfl (by repeat' first | refine And.intro ?_ ?_ | exact wkA) trivial
  | cons x xs ih =>
    intro k hx ks C
    obtain ⟨hk, hg, hx1⟩ := drop_cons hx
    have hc : decide ((k : Int) < (List.length l : Int)) = true := decide_eq_true (by omega)
    refine X4.round ?_
    refine X9k tmD 4000 [.br true, .el (aI .i64 x)] rfl (by repeat' first | refine And.intro ?_ ?_ | exact hc | exact ixm hg | exact Xrf) ?_
    refine X4.mapUpd (d := .int .i64) X7 rfl rfl rfl rfl rfl Tryz.underlying2 rfl rfl rfl trivial trivial trivial rfl (by
      intro p hp; obtain ⟨z, _, rfl⟩ := List.mem_map.1 hp; rfl) ?_
    rw [Xf1]
    refine X9k tmD 4000 [] rfl (by repeat' first | refine And.intro ?_ ?_ | exact Xrf) ?_
    exact X4.weakTo [] (ih (k + 1) hx1 (Xa5 ks x) C) rfl (by repeat' first | refine And.intro ?_ ?_ | exact wkA) trivial
theorem X2c (a0 : (List Int)) (r : Int) (h : X0m a0 = some r) : X06 Tryz.prog 73 [(AV.list false (List.map (aI .i64) a0))] (aI .i64 r) := by
  refine X06.sym X7 fn73 (nt := 18) rfl rfl ?_ (X12 .list X6l)
  unfold X0m at h
  refine Xz1 h ?_
  clear h; intro u h1 h
  have q1 := X1x h1
  obtain rfl := Option.some.inj h
  refine X9k tmD 4000 [] rfl (by repeat' first | refine And.intro ?_ ?_ | exact Xrf) ?_
  refine X4.mapNew rfl rfl rfl fun b => ?_
  refine X9k tmD 4000 [] rfl (by repeat' first | refine And.intro ?_ ?_ | exact Xrf) ?_
  refine X4.weakTo [] (X4.cut (X3e b a0 q1 a0 0 (by simp) [] ?_)) rfl (by repeat' first | refine And.intro ?_ ?_ | exact wkA) trivial
  refine X4.glue ?_
  refine X9k tmD 4000 [] rfl (by repeat' first | refine And.intro ?_ ?_ | exact Xrf) ?_
  refine X4.mapLen X7 rfl rfl rfl rfl rfl rfl trivial ?_
  rw [List.length_map]
  refine X9k tmD 4000 [] rfl (by repeat' first | refine And.intro ?_ ?_ | exact Xrf) ?_
  refine Xke rfl ?_
  exact .sc
theorem Xq2 (l : List Int) (h : List.length l <= 1000) : X06 Tryz.prog 73 [.list false (l.map (aI .i64))] (aI .i64 ((X47 [] l).length : Int)) := X2c l _ (by unfold X0m X6e; rw [if_pos (by omega)]; rfl)
theorem m10 : X06 Tryz.prog 73 Xqv Xoc := Xq2 [0] (by simp)
theorem m19 : X06 Tryz.prog 62 Xqu Xob := Xn3
def Xqz : List Go.Proofs.Tryz.Nd := [(4, 0, 0, 0, 11), (1, 6, 0, 0, 18), (8, 0, 0, 1, 13)]
theorem X05r : X06 Tryz.prog 44 [.list false (Xqz.map Go.Proofs.Tryz.ndA)] (.sc (.int .i64 0)) := X0o X15 Xds X7 X17 X063 (fuel := 3000) (d := 200) (by kernel_rfl)
theorem Xy8 : Go.Proofs.Tryz.WrOk Xqz (0) 6 [118] := Go.Proofs.Tryz.wr_val (i := 0) (k := 4) (by decide) rfl (by decide) rfl
theorem Xy7 : Go.Proofs.Tryz.WrOk Xqz (1) 7 [54] := Go.Proofs.Tryz.wr_num (i := 1) (s := ⟨⟨[54]⟩⟩) (by decide) rfl tx_6
theorem Xy6 : Go.Proofs.Tryz.WrOk Xqz (2) 0 [118, 32, 43, 32, 54] := Go.Proofs.Tryz.wr_8 (i := 2) (by decide) rfl (by decide) Xy8 Xy7
theorem m23 : X06 Tryz.prog 26 Xqt Xoa := Go.Proofs.Tryz.expr_at (l := Xqz) rfl (by decide) (by decide) X05r rfl Xy6 (by decide)
theorem m24 : X06 Tryz.prog 29 Xqs Xo9 := Go.Proofs.Tryz.join_at (xs := [⟨⟨[115, 101, 108, 101, 99, 116]⟩⟩, ⟨⟨[115, 117, 109, 40, 118, 32, 43, 32, 54, 41]⟩⟩, ⟨⟨[102, 114, 111, 109]⟩⟩, ⟨⟨[97]⟩⟩, ⟨⟨[119, 105, 110, 100, 111, 119]⟩⟩, ⟨⟨[116, 117, 109, 98, 108, 101]⟩⟩, ⟨⟨[53]⟩⟩]) (sep := ⟨⟨[32]⟩⟩) rfl (by simp) (by decide) (by kernel_rfl) (by decide)
noncomputable def M0 : Tab Xji := (.node 62 [(Xqu, Xob)] (.node 29 [(Xqs, Xo9)] (.node 26 [(Xqt, Xoa)] .leaf .leaf) .leaf) (.node 73 [(Xqv, Xoc)] .leaf .leaf))
theorem Xc2 : Xat Tryz.prog M0.find := X6w ⟨⟨⟨m19, by kernel_rfl⟩, trivial⟩, ⟨⟨⟨m24, by kernel_rfl⟩, trivial⟩, ⟨⟨⟨m23, by kernel_rfl⟩, trivial⟩, trivial, trivial⟩, trivial⟩, ⟨⟨⟨m10, by kernel_rfl⟩, trivial⟩, trivial, trivial⟩⟩
theorem m0 : X06 Tryz.prog 83 a_m0 r_m0 := X0o X15 Xds X7 X17 Xc2 (fuel := 3000) (d := 200) (by kernel_rfl)
theorem m1 : X06 Tryz.prog 83 a_m1 r_m1 := X0o X15 Xds X7 X17 Xc2 (fuel := 3000) (d := 200) (by kernel_rfl)
theorem m2 : X06 Tryz.prog 83 a_m2 r_m2 := X0o X15 Xds X7 X17 Xc2 (fuel := 3000) (d := 200) (by kernel_rfl)
theorem m3 : X06 Tryz.prog 83 a_m3 r_m3 := X0o X15 Xds X7 X17 Xc2 (fuel := 3000) (d := 200) (by kernel_rfl)
theorem m4 : X06 Tryz.prog 83 a_m4 r_m4 := X0o X15 Xds X7 X17 Xc2 (fuel := 3000) (d := 200) (by kernel_rfl)
theorem m6 : X06 Tryz.prog 123 a_m6 r_m6 := X0o X15 Xds X7 X17 Xc2 (fuel := 3000) (d := 200) (by kernel_rfl)
theorem m11 : X06 Tryz.prog 18 Xug Xsd := X0o X15 Xds X7 X17 Xc2 (fuel := 3000) (d := 200) (by kernel_rfl)
theorem m12 : X06 Tryz.prog 37 Xuf Xsc := X0o X15 Xds X7 X17 Xc2 (fuel := 3000) (d := 200) (by kernel_rfl)
theorem m13 : X06 Tryz.prog 37 Xue Xsb := X0o X15 Xds X7 X17 Xc2 (fuel := 3000) (d := 200) (by kernel_rfl)
theorem m15 : X06 Tryz.prog 37 Xud Xsa := X0o X15 Xds X7 X17 Xc2 (fuel := 3000) (d := 200) (by kernel_rfl)
theorem m17 : X06 Tryz.prog 18 Xuc Xs9 := X0o X15 Xds X7 X17 Xc2 (fuel := 3000) (d := 200) (by kernel_rfl)
theorem m18 : X06 Tryz.prog 37 Xub Xs8 := X0o X15 Xds X7 X17 Xc2 (fuel := 3000) (d := 200) (by kernel_rfl)
theorem m20 : X06 Tryz.prog 64 Xua Xs7 := X0o X15 Xds X7 X17 Xc2 (fuel := 3000) (d := 200) (by kernel_rfl)
theorem m25 : X06 Tryz.prog 83 Xu9 Xs6 := X0o X15 Xds X7 X17 Xc2 (fuel := 3000) (d := 200) (by kernel_rfl)
noncomputable def M1 : Tab Xji := (.node 62 [(Xqu, Xob)] (.node 29 [(Xqs, Xo9)] (.node 26 [(Xqt, Xoa)] (.node 18 [(Xug, Xsd), (Xuc, Xs9)] .leaf .leaf) .leaf) (.node 37 [(Xuf, Xsc), (Xue, Xsb), (Xud, Xsa), (Xub, Xs8)] .leaf .leaf)) (.node 83 [(a_m0, r_m0), (a_m1, r_m1), (a_m2, r_m2), (a_m3, r_m3), (a_m4, r_m4), (Xu9, Xs6)] (.node 73 [(Xqv, Xoc)] (.node 64 [(Xua, Xs7)] .leaf .leaf) .leaf) (.node 123 [(a_m6, r_m6)] .leaf .leaf)))
theorem Xkp : Xat Tryz.prog M1.find := X6w ⟨⟨⟨m19, by kernel_rfl⟩, trivial⟩, ⟨⟨⟨m24, by kernel_rfl⟩, trivial⟩, ⟨⟨⟨m23, by kernel_rfl⟩, trivial⟩, ⟨⟨⟨m11, by kernel_rfl⟩, ⟨m17, by kernel_rfl⟩, trivial⟩, trivial, trivial⟩, trivial⟩, ⟨⟨⟨m12, by kernel_rfl⟩, ⟨m13, by kernel_rfl⟩, ⟨m15, by kernel_rfl⟩, ⟨m18, by kernel_rfl⟩, trivial⟩, trivial, trivial⟩⟩, ⟨⟨⟨m0, by kernel_rfl⟩, ⟨m1, by kernel_rfl⟩, ⟨m2, by kernel_rfl⟩, ⟨m3, by kernel_rfl⟩, ⟨m4, by kernel_rfl⟩, ⟨m25, by kernel_rfl⟩, trivial⟩, ⟨⟨⟨m10, by kernel_rfl⟩, trivial⟩, ⟨⟨⟨m20, by kernel_rfl⟩, trivial⟩, trivial, trivial⟩, trivial⟩, ⟨⟨⟨m6, by kernel_rfl⟩, trivial⟩, trivial, trivial⟩⟩⟩
theorem m5 : X06 Tryz.prog 30 a_m5 r_m5 := X0o X15 Xds X7 X17 Xkp (fuel := 3000) (d := 200) (by kernel_rfl)
theorem m7 : X06 Tryz.prog 84 a_m7 r_m7 := X0o X15 Xds X7 X17 Xkp (fuel := 3000) (d := 200) (by kernel_rfl)
theorem m8 : X06 Tryz.prog 84 a_m8 r_m8 := X0o X15 Xds X7 X17 Xkp (fuel := 3000) (d := 200) (by kernel_rfl)
theorem m14 : X06 Tryz.prog 64 Xza Xx0 := X0o X15 Xds X7 X17 Xkp (fuel := 3000) (d := 200) (by kernel_rfl)
theorem m16 : X06 Tryz.prog 64 Xz9 Xwz := X0o X15 Xds X7 X17 Xkp (fuel := 3000) (d := 200) (by kernel_rfl)
theorem m21 : X06 Tryz.prog 9 Xz8 Xwy := X0o X15 Xds X7 X17 Xkp (fuel := 3000) (d := 200) (by kernel_rfl)
theorem m26 : X06 Tryz.prog 30 Xz7 Xwx := X0o X15 Xds X7 X17 Xkp (fuel := 3000) (d := 200) (by kernel_rfl)
noncomputable def M2 : Tab Xji := (.node 62 [(Xqu, Xob)] (.node 29 [(Xqs, Xo9)] (.node 18 [(Xug, Xsd), (Xuc, Xs9)] (.node 9 [(Xz8, Xwy)] .leaf .leaf) (.node 26 [(Xqt, Xoa)] .leaf .leaf)) (.node 37 [(Xuf, Xsc), (Xue, Xsb), (Xud, Xsa), (Xub, Xs8)] (.node 30 [(a_m5, r_m5), (Xz7, Xwx)] .leaf .leaf) .leaf)) (.node 83 [(a_m0, r_m0), (a_m1, r_m1), (a_m2, r_m2), (a_m3, r_m3), (a_m4, r_m4), (Xu9, Xs6)] (.node 73 [(Xqv, Xoc)] (.node 64 [(Xua, Xs7), (Xza, Xx0), (Xz9, Xwz)] .leaf .leaf) .leaf) (.node 123 [(a_m6, r_m6)] (.node 84 [(a_m7, r_m7), (a_m8, r_m8)] .leaf .leaf) .leaf)))
theorem X02q : Xat Tryz.prog M2.find := X6w ⟨⟨⟨m19, by kernel_rfl⟩, trivial⟩, ⟨⟨⟨m24, by kernel_rfl⟩, trivial⟩, ⟨⟨⟨m11, by kernel_rfl⟩, ⟨m17, by kernel_rfl⟩, trivial⟩, ⟨⟨⟨m21, by kernel_rfl⟩, trivial⟩, trivial, trivial⟩, ⟨⟨⟨m23, by kernel_rfl⟩, trivial⟩, trivial, trivial⟩⟩, ⟨⟨⟨m12, by kernel_rfl⟩, ⟨m13, by kernel_rfl⟩, ⟨m15, by kernel_rfl⟩, ⟨m18, by kernel_rfl⟩, trivial⟩, ⟨⟨⟨m5, by kernel_rfl⟩, ⟨m26, by kernel_rfl⟩, trivial⟩, trivial, trivial⟩, trivial⟩⟩, ⟨⟨⟨m0, by kernel_rfl⟩, ⟨m1, by kernel_rfl⟩, ⟨m2, by kernel_rfl⟩, ⟨m3, by kernel_rfl⟩, ⟨m4, by kernel_rfl⟩, ⟨m25, by kernel_rfl⟩, trivial⟩, ⟨⟨⟨m10, by kernel_rfl⟩, trivial⟩, ⟨⟨⟨m20, by kernel_rfl⟩, ⟨m14, by kernel_rfl⟩, ⟨m16, by kernel_rfl⟩, trivial⟩, trivial, trivial⟩, trivial⟩, ⟨⟨⟨m6, by kernel_rfl⟩, trivial⟩, ⟨⟨⟨m7, by kernel_rfl⟩, ⟨m8, by kernel_rfl⟩, trivial⟩, trivial, trivial⟩, trivial⟩⟩⟩
theorem m9 : X06 Tryz.prog 17 a_m9 r_m9 := X0o X15 Xds X7 X17 X02q (fuel := 3000) (d := 200) (by kernel_rfl)
theorem m22 : X06 Tryz.prog 10 X02o X00i := X0o X15 Xds X7 X17 X02q (fuel := 3000) (d := 200) (by kernel_rfl)
noncomputable def M3 : Tab Xji := (.node 37 [(Xuf, Xsc), (Xue, Xsb), (Xud, Xsa), (Xub, Xs8)] (.node 18 [(Xug, Xsd), (Xuc, Xs9)] (.node 10 [(X02o, X00i)] (.node 9 [(Xz8, Xwy)] .leaf .leaf) (.node 17 [(a_m9, r_m9)] .leaf .leaf)) (.node 29 [(Xqs, Xo9)] (.node 26 [(Xqt, Xoa)] .leaf .leaf) (.node 30 [(a_m5, r_m5), (Xz7, Xwx)] .leaf .leaf))) (.node 83 [(a_m0, r_m0), (a_m1, r_m1), (a_m2, r_m2), (a_m3, r_m3), (a_m4, r_m4), (Xu9, Xs6)] (.node 64 [(Xua, Xs7), (Xza, Xx0), (Xz9, Xwz)] (.node 62 [(Xqu, Xob)] .leaf .leaf) (.node 73 [(Xqv, Xoc)] .leaf .leaf)) (.node 123 [(a_m6, r_m6)] (.node 84 [(a_m7, r_m7), (a_m8, r_m8)] .leaf .leaf) .leaf)))
theorem X064 : Xat Tryz.prog M3.find := X6w ⟨⟨⟨m12, by kernel_rfl⟩, ⟨m13, by kernel_rfl⟩, ⟨m15, by kernel_rfl⟩, ⟨m18, by kernel_rfl⟩, trivial⟩, ⟨⟨⟨m11, by kernel_rfl⟩, ⟨m17, by kernel_rfl⟩, trivial⟩, ⟨⟨⟨m22, by kernel_rfl⟩, trivial⟩, ⟨⟨⟨m21, by kernel_rfl⟩, trivial⟩, trivial, trivial⟩, ⟨⟨⟨m9, by kernel_rfl⟩, trivial⟩, trivial, trivial⟩⟩, ⟨⟨⟨m24, by kernel_rfl⟩, trivial⟩, ⟨⟨⟨m23, by kernel_rfl⟩, trivial⟩, trivial, trivial⟩, ⟨⟨⟨m5, by kernel_rfl⟩, ⟨m26, by kernel_rfl⟩, trivial⟩, trivial, trivial⟩⟩⟩, ⟨⟨⟨m0, by kernel_rfl⟩, ⟨m1, by kernel_rfl⟩, ⟨m2, by kernel_rfl⟩, ⟨m3, by kernel_rfl⟩, ⟨m4, by kernel_rfl⟩, ⟨m25, by kernel_rfl⟩, trivial⟩, ⟨⟨⟨m20, by kernel_rfl⟩, ⟨m14, by kernel_rfl⟩, ⟨m16, by kernel_rfl⟩, trivial⟩, ⟨⟨⟨m19, by kernel_rfl⟩, trivial⟩, trivial, trivial⟩, ⟨⟨⟨m10, by kernel_rfl⟩, trivial⟩, trivial, trivial⟩⟩, ⟨⟨⟨m6, by kernel_rfl⟩, trivial⟩, ⟨⟨⟨m7, by kernel_rfl⟩, ⟨m8, by kernel_rfl⟩, trivial⟩, trivial, trivial⟩, trivial⟩⟩⟩
theorem m27 : X06 Tryz.prog 12 X061 X041 := X0o X15 Xds X7 X17 X064 (fuel := 3000) (d := 200) (by kernel_rfl)
end Go.Av.TryzM
