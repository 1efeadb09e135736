/- Parts of the proof, laid together. -/
import Derived.Test.YtoggmnlkaphgcaaGreatDoorAve
import Derived.Test.YtoggmnlkaphgcaaGreatDoorTabX
import Derived.Test.YtoggmnlkaphgcaaGreatDoorGlX
import Derived.Test.YtoggmnlkaphgcaaGreatDoorOrdZ
set_option linter.all false
set_option maxRecDepth 1000000
namespace Go.Av.Tryz
open Go.Av Go.Av.X Go.Proofs Go.D Go.Av.Tryz
set_option maxHeartbeats 4000000
noncomputable def Xt (f : Nat) : Option (List AV → Option AV) := bif Nat.beq f 291 then some ixG else none
theorem X_ok : ExtOk Tryz.prog Xt := by
  intro f g h
  unfold Xt at h
  cases hb : Nat.beq f 291 with
  | true => rw [hb, cond_true] at h; cases h; rw [Nat.eq_of_beq_eq_true hb]; exact ixG_ok Tryz.func291 (by kernel_rfl) (by kernel_rfl) (by kernel_rfl) (by kernel_rfl)
  | false =>
  rw [hb, cond_false] at h
  cases h
theorem tmI0 : TyOk Tryz.prog tyTab.find ∧ Tryz.prog.follows .mixedOrders = true := ⟨tyTab_ok, by kernel_rfl⟩
instance tmI : TmD Tryz.prog tyTab.find := ⟨tmI0⟩
def clauses_distinct_int (l : List Int) : Option Int := (lenOk (List.length l)).bind fun _ => some ((distinctL [] l).length : Int)
theorem mixed_ok : Tryz.prog.follows .mixedOrders = true := by kernel_rfl
noncomputable def v0 : AV := .sc (.string ⟨⟨[115, 101, 108, 101, 99, 116, 32, 99, 111, 117, 110, 116, 40, 42, 41, 32, 102, 114, 111, 109, 32, 97, 32, 119, 105, 110, 100, 111, 119, 32, 116, 117, 109, 98, 108, 101, 32, 52]⟩⟩)
noncomputable def v1 : AV := .agg [.sc (.int .u8 2), .sc (.string ⟨⟨[115, 101, 108, 101, 99, 116]⟩⟩), .sc (.int .i64 0)]
noncomputable def v2 : AV := .agg [.sc (.int .u8 2), .sc (.string ⟨⟨[99, 111, 117, 110, 116]⟩⟩), .sc (.int .i64 7)]
noncomputable def v3 : AV := .agg [.sc (.int .u8 2), .sc (.string ⟨⟨[102, 114, 111, 109]⟩⟩), .sc (.int .i64 16)]
noncomputable def v4 : AV := .agg [.sc (.int .u8 1), .list false [], .list false [.sc (.int .i64 0)], .sc (.bool false), .list false [], .sc (.int .u8 1), .sc (.int .i64 4), .sc (.int .i64 0), .sc (.bool false), .sc (.int .u8 1)]
noncomputable def v5 : AV := .agg [.sc (.bool false), .sc (.int .i64 0), .sc (.int .i64 0), .sc (.int .i64 0), .sc (.int .i64 0)]
noncomputable def v6 : AV := .list false [.agg [.sc (.int .u8 1), .sc (.int .i64 0)], .agg [.sc (.int .u8 2), .sc (.int .i64 0)], .agg [.sc (.int .u8 4), .sc (.int .i64 0)], .agg [.sc (.int .u8 6), .sc (.int .i64 0)]]
noncomputable def v7 : AV := .list false [.agg [.sc (.int .i64 0), .sc (.int .i64 0), .sc (.int .i64 1), .sc (.int .i64 0), .sc (.int .i64 8)], .agg [.sc (.int .i64 1), .sc (.int .i64 0), .sc (.int .i64 2), .sc (.int .i64 0), .sc (.int .i64 8)], .agg [.sc (.int .i64 2), .sc (.int .i64 0), .sc (.int .i64 3), .sc (.int .i64 0), .sc (.int .i64 8)]]
noncomputable def v8 : AV := .agg [.sc (.int .u8 2), .sc (.int .i64 0), .sc (.int .i64 0), .list false [], .list false [.sc (.int .i64 (-9223372036854775808))], .list false [], .list false [], .list false [], .list false []]
noncomputable def v9 : AV := .agg [.sc (.int .u8 4), .sc (.int .i64 0), .sc (.int .i64 0), .list false [], .list false [.sc (.int .i64 (-9223372036854775808))], .list false [], .list false [], .list false [], .list false []]
noncomputable def v10 : AV := .agg [.sc (.int .u8 6), .sc (.int .i64 0), .sc (.int .i64 0), .list false [], .list false [], .list false [], .list false [], .list false [], .list false []]
noncomputable def v11 : AV := .agg [.sc (.int .u8 1), .list false [], .list false [.sc (.int .i64 0)], .sc (.bool false), .list false [], .sc (.int .u8 1), .sc (.int .i64 4), .sc (.int .i64 0), .sc (.bool false), .sc (.int .u8 1), v6, v7, .list false [.agg [.sc (.int .u8 1), .sc (.int .i64 0), .sc (.int .i64 0), .list false [], .list false [], .list false [], .list false [], .list false [], .list false []], v8, v9, v10], .list false [.agg [.sc (.int .i64 8), .list false []], .agg [.sc (.int .i64 8), .list false []], .agg [.sc (.int .i64 8), .list false []]]]
noncomputable def v12 : AV := .agg [v6, v7]
noncomputable def v13 : AV := .sc (.string ⟨⟨[115, 101, 108, 101, 99, 116, 32, 99, 111, 117, 110, 116, 40, 42, 41, 32, 102, 114, 111, 109, 32, 97, 32, 119, 104, 101, 114, 101, 32, 50, 32, 62, 32, 49, 32, 119, 105, 110, 100, 111, 119, 32, 115, 108, 105, 100, 101, 32, 52, 32, 101, 118, 101, 114, 121, 32, 52]⟩⟩)
noncomputable def v14 : AV := .agg [.sc (.int .u8 2), .sc (.string ⟨⟨[119, 104, 101, 114, 101]⟩⟩), .sc (.int .i64 23)]
noncomputable def v15 : AV := .agg [.sc (.int .u8 2), .sc (.string ⟨⟨[119, 105, 110, 100, 111, 119]⟩⟩), .sc (.int .i64 35)]
noncomputable def v16 : AV := .agg [.sc (.int .u8 2), .sc (.string ⟨⟨[115, 108, 105, 100, 101]⟩⟩), .sc (.int .i64 42)]
noncomputable def v17 : AV := .agg [.sc (.int .u8 2), .sc (.string ⟨⟨[101, 118, 101, 114, 121]⟩⟩), .sc (.int .i64 50)]
noncomputable def v18 : AV := .agg [.sc (.int .u8 1), .sc (.int .i64 2), .sc (.int .i64 0), .sc (.int .i64 0), .sc (.int .i64 29)]
noncomputable def v19 : AV := .agg [.sc (.int .u8 1), .sc (.int .i64 1), .sc (.int .i64 0), .sc (.int .i64 0), .sc (.int .i64 33)]
noncomputable def v20 : AV := .agg [.sc (.int .u8 14), .sc (.int .i64 0), .sc (.int .i64 0), .sc (.int .i64 1), .sc (.int .i64 31)]
noncomputable def v21 : AV := .list false [v18, v19, v20]
noncomputable def v22 : AV := .agg [.sc (.int .u8 1), .list false [], .list false [.sc (.int .i64 0)], .sc (.bool false), v21, .sc (.int .u8 2), .sc (.int .i64 4), .sc (.int .i64 4), .sc (.bool false), .sc (.int .u8 1)]
noncomputable def v23 : AV := .agg [.sc (.int .u8 1), .sc (.int .i64 0), .sc (.int .i64 0), .sc (.int .i64 0), .sc (.int .i64 31)]
noncomputable def v24 : AV := .agg [.sc (.int .u8 16), .sc (.int .i64 0), .sc (.int .i64 0), .sc (.int .i64 1), .sc (.int .i64 31)]
noncomputable def v25 : AV := .list false [v23, v23, v24]
noncomputable def v26 : AV := .list false [.agg [.sc (.bool false), .sc (.int .i64 0), .sc (.int .i64 0), .sc (.int .i64 1), .sc (.int .i64 0)]]
noncomputable def v27 : AV := .list false [v26]
noncomputable def v28 : AV := .list false [.agg [.sc (.int .i64 0), .sc (.int .i64 0), .sc (.int .i64 1), .sc (.int .i64 0), .sc (.int .i64 2)], .agg [.sc (.int .i64 1), .sc (.int .i64 0), .sc (.int .i64 2), .sc (.int .i64 0), .sc (.int .i64 2)], .agg [.sc (.int .i64 2), .sc (.int .i64 0), .sc (.int .i64 3), .sc (.int .i64 0), .sc (.int .i64 2)]]
noncomputable def v29 : AV := .list false [.agg [.sc (.int .u8 1), .sc (.int .i64 0), .sc (.int .i64 0), .list false [], .list false [], .list false [], v26, .list false [], .list false []], v8, v9, v10]
noncomputable def v30 : AV := .list false [.agg [.sc (.int .i64 2), .list false []], .agg [.sc (.int .i64 2), .list false []], .agg [.sc (.int .i64 2), .list false []]]
noncomputable def a_m0 : List AV := [.sc (.string ⟨⟨[99, 111, 117, 110, 116]⟩⟩)]
noncomputable def r_m0 : AV := .sc (.bool true)
noncomputable def a_m1 : List AV := [.sc (.string ⟨⟨[97]⟩⟩)]
noncomputable def r_m1 : AV := .sc (.bool true)
noncomputable def a_m2 : List AV := [.sc (.string ⟨⟨[116, 117, 109, 98, 108, 101]⟩⟩)]
noncomputable def r_m2 : AV := .sc (.bool true)
noncomputable def a_m3 : List AV := [v0]
noncomputable def r_m3 : AV := .tup [.list true [v1, v2, .agg [.sc (.int .u8 3), .sc (.string ⟨⟨[40]⟩⟩), .sc (.int .i64 12)], .agg [.sc (.int .u8 3), .sc (.string ⟨⟨[42]⟩⟩), .sc (.int .i64 13)], .agg [.sc (.int .u8 3), .sc (.string ⟨⟨[41]⟩⟩), .sc (.int .i64 14)], v3, .agg [.sc (.int .u8 2), .sc (.string ⟨⟨[97]⟩⟩), .sc (.int .i64 21)], .agg [.sc (.int .u8 2), .sc (.string ⟨⟨[119, 105, 110, 100, 111, 119]⟩⟩), .sc (.int .i64 23)], .agg [.sc (.int .u8 2), .sc (.string ⟨⟨[116, 117, 109, 98, 108, 101]⟩⟩), .sc (.int .i64 30)], .agg [.sc (.int .u8 1), .sc (.string ⟨⟨[52]⟩⟩), .sc (.int .i64 37)]], .sc (.int .i64 38), .sc (.int .i64 0)]
noncomputable def a_m4 : List AV := [v0]
noncomputable def r_m4 : AV := .tup [v4, .sc (.int .i64 38), .sc (.int .i64 0)]
noncomputable def a_m5 : List AV := [.list false [.sc (.int .i64 0)]]
noncomputable def r_m5 : AV := .sc (.int .i64 1)
noncomputable def a_m6 : List AV := [.list false []]
noncomputable def r_m6 : AV := .nils
noncomputable def a_m7 : List AV := [v4, .list false [.list false (List.replicate 61 (v5))], .agg [.sc (.int .i64 1), .sc (.int .i64 1), .sc (.bool true)]]
noncomputable def r_m7 : AV := .tup [.agg [.sc (.int .u8 0), .list false [], .list false [], .sc (.bool false), .list false [], .sc (.int .u8 0), .sc (.int .i64 0), .sc (.int .i64 0), .sc (.bool false), .sc (.int .u8 0), .list false [], .list false [], .list false [], .list false []], .sc (.int .i64 4)]
noncomputable def a_m8 : List AV := [.list false []]
noncomputable def r_m8 : AV := .nils
noncomputable def a_m9 : List AV := [v4, .list false [.list false []], .sc (.int .i64 3), .sc (.int .i64 8)]
noncomputable def r_m9 : AV := .tup [v11, .sc (.int .i64 0)]
noncomputable def a_m10 : List AV := [v12]
noncomputable def r_m10 : AV := .list true [.sc (.int .i64 0), .sc (.int .i64 1), .sc (.int .i64 2), .sc (.int .i64 3)]
noncomputable def a_m11 : List AV := [v12, .sc (.int .i64 0)]
noncomputable def r_m11 : AV := .list false []
noncomputable def a_m12 : List AV := [v12, .sc (.int .i64 0)]
noncomputable def r_m12 : AV := .list true [.sc (.int .i64 0)]
noncomputable def a_m13 : List AV := [v12, .sc (.int .i64 1)]
noncomputable def r_m13 : AV := .list true [.sc (.int .i64 0)]
noncomputable def a_m14 : List AV := [v12, .sc (.int .i64 1)]
noncomputable def r_m14 : AV := .list true [.sc (.int .i64 1)]
noncomputable def a_m15 : List AV := [v12, .sc (.int .i64 2)]
noncomputable def r_m15 : AV := .list true [.sc (.int .i64 1)]
noncomputable def a_m16 : List AV := [v12, .sc (.int .i64 2)]
noncomputable def r_m16 : AV := .list true [.sc (.int .i64 2)]
noncomputable def a_m17 : List AV := [v12, .sc (.int .i64 3)]
noncomputable def r_m17 : AV := .list true [.sc (.int .i64 2)]
noncomputable def a_m18 : List AV := [v12, .sc (.int .i64 3)]
noncomputable def r_m18 : AV := .list false []
noncomputable def a_m19 : List AV := [v11]
noncomputable def r_m19 : AV := .sc (.int .i64 0)
noncomputable def a_m20 : List AV := [.list false []]
noncomputable def r_m20 : AV := .nils
noncomputable def a_m21 : List AV := [.list false []]
noncomputable def r_m21 : AV := .nils
noncomputable def a_m22 : List AV := [.list false []]
noncomputable def r_m22 : AV := .nils
noncomputable def a_m23 : List AV := [.list false []]
noncomputable def r_m23 : AV := .nils
noncomputable def a_m24 : List AV := [.list false []]
noncomputable def r_m24 : AV := .nils
noncomputable def a_m25 : List AV := [.list false []]
noncomputable def r_m25 : AV := .nils
noncomputable def a_m26 : List AV := [v11, .list false []]
noncomputable def r_m26 : AV := .list false []
noncomputable def a_m27 : List AV := [v11, .list false [.sc (.int .i64 0)]]
noncomputable def r_m27 : AV := .list true [.agg [.sc (.int .i64 8), .list false []]]
noncomputable def a_m28 : List AV := [v11, .list false [.sc (.int .i64 1)]]
noncomputable def r_m28 : AV := .list true [.agg [.sc (.int .i64 8), .list false []]]
noncomputable def a_m29 : List AV := [v11, .list false [.sc (.int .i64 2)]]
noncomputable def r_m29 : AV := .list true [.agg [.sc (.int .i64 8), .list false []]]
noncomputable def a_m30 : List AV := [v11]
noncomputable def r_m30 : AV := .tup [.list false [], .sc (.int .i64 0)]
noncomputable def a_m31 : List AV := [v4, .list false [.list false []], .agg [.sc (.int .i64 3), .sc (.int .i64 8), .sc (.bool true)]]
noncomputable def r_m31 : AV := .tup [v11, .sc (.int .i64 0), .sc (.int .i64 0)]
noncomputable def a_m32 : List AV := [.sc (.string ⟨⟨[115, 108, 105, 100, 101]⟩⟩)]
noncomputable def r_m32 : AV := .sc (.bool true)
noncomputable def a_m33 : List AV := [.sc (.string ⟨⟨[101, 118, 101, 114, 121]⟩⟩)]
noncomputable def r_m33 : AV := .sc (.bool true)
noncomputable def a_m34 : List AV := [v13]
noncomputable def r_m34 : AV := .tup [.list true [v1, v2, .agg [.sc (.int .u8 3), .sc (.string ⟨⟨[40]⟩⟩), .sc (.int .i64 12)], .agg [.sc (.int .u8 3), .sc (.string ⟨⟨[42]⟩⟩), .sc (.int .i64 13)], .agg [.sc (.int .u8 3), .sc (.string ⟨⟨[41]⟩⟩), .sc (.int .i64 14)], v3, .agg [.sc (.int .u8 2), .sc (.string ⟨⟨[97]⟩⟩), .sc (.int .i64 21)], v14, .agg [.sc (.int .u8 1), .sc (.string ⟨⟨[50]⟩⟩), .sc (.int .i64 29)], .agg [.sc (.int .u8 3), .sc (.string ⟨⟨[62]⟩⟩), .sc (.int .i64 31)], .agg [.sc (.int .u8 1), .sc (.string ⟨⟨[49]⟩⟩), .sc (.int .i64 33)], v15, v16, .agg [.sc (.int .u8 1), .sc (.string ⟨⟨[52]⟩⟩), .sc (.int .i64 48)], v17, .agg [.sc (.int .u8 1), .sc (.string ⟨⟨[52]⟩⟩), .sc (.int .i64 56)]], .sc (.int .i64 57), .sc (.int .i64 0)]
noncomputable def a_m35 : List AV := [.list false [v1, v2, .agg [.sc (.int .u8 3), .sc (.string ⟨⟨[40]⟩⟩), .sc (.int .i64 12)], .agg [.sc (.int .u8 3), .sc (.string ⟨⟨[42]⟩⟩), .sc (.int .i64 13)], .agg [.sc (.int .u8 3), .sc (.string ⟨⟨[41]⟩⟩), .sc (.int .i64 14)], v3, .agg [.sc (.int .u8 2), .sc (.string ⟨⟨[97]⟩⟩), .sc (.int .i64 21)], v14, .agg [.sc (.int .u8 1), .sc (.string ⟨⟨[50]⟩⟩), .sc (.int .i64 29)], .agg [.sc (.int .u8 3), .sc (.string ⟨⟨[62]⟩⟩), .sc (.int .i64 31)], .agg [.sc (.int .u8 1), .sc (.string ⟨⟨[49]⟩⟩), .sc (.int .i64 33)], v15, v16, .agg [.sc (.int .u8 1), .sc (.string ⟨⟨[52]⟩⟩), .sc (.int .i64 48)], v17, .agg [.sc (.int .u8 1), .sc (.string ⟨⟨[52]⟩⟩), .sc (.int .i64 56)]], .sc (.int .i64 8)]
noncomputable def r_m35 : AV := .tup [.list true [v18, v19, v20], .sc (.int .i64 11), .sc (.int .i64 0)]
noncomputable def a_m36 : List AV := [v13]
noncomputable def r_m36 : AV := .tup [v22, .sc (.int .i64 57), .sc (.int .i64 0)]
noncomputable def a_m37 : List AV := [v21]
noncomputable def r_m37 : AV := .tup [.sc (.int .i64 1), .sc (.bool true), .sc (.int .i64 0)]
noncomputable def a_m38 : List AV := [v21]
noncomputable def r_m38 : AV := .tup [.list true [v23, v23, v24], .sc (.int .i64 0)]
noncomputable def a_m39 : List AV := [v22, .sc (.int .i64 1)]
noncomputable def r_m39 : AV := .tup [.agg [.sc (.int .u8 1), .list false [], .list false [.sc (.int .i64 0)], .sc (.bool false), v25, .sc (.int .u8 2), .sc (.int .i64 4), .sc (.int .i64 4), .sc (.bool false), .sc (.int .u8 1)], .sc (.bool true), .sc (.int .i64 0)]
noncomputable def a_m40 : List AV := [v25]
noncomputable def r_m40 : AV := .tup [.sc (.int .i64 1), .sc (.bool true), .sc (.int .i64 0)]
noncomputable def a_m41 : List AV := [v22]
noncomputable def r_m41 : AV := .tup [v4, .sc (.int .i64 0)]
noncomputable def a_m42 : List AV := [v4, v27, .sc (.int .i64 1), .sc (.int .i64 2)]
noncomputable def r_m42 : AV := .tup [.agg [.sc (.int .u8 1), .list false [], .list false [.sc (.int .i64 0)], .sc (.bool false), .list false [], .sc (.int .u8 1), .sc (.int .i64 4), .sc (.int .i64 0), .sc (.bool false), .sc (.int .u8 1), v6, v28, v29, v30], .sc (.int .i64 0)]
noncomputable def a_m43 : List AV := [.agg [.list false [.sc (.int .u8 1), .sc (.int .u8 2), .sc (.int .u8 3), .sc (.int .u8 4), .sc (.int .u8 6), .sc (.int .u8 7), .sc (.int .u8 9)], .sc (.int .u8 1), .list false [], .list false [.sc (.int .i64 0)], .sc (.bool false), v21, .sc (.int .u8 2), .sc (.int .i64 4), .sc (.int .i64 4), .sc (.bool false), .sc (.int .u8 1)], .sc (.int .i64 1), .sc (.int .i64 2)]
noncomputable def r_m43 : AV := .tup [.agg [v6, v28], .sc (.int .i64 0)]
noncomputable def a_m44 : List AV := [v22, v27, .sc (.int .i64 1), .sc (.int .i64 2)]
noncomputable def r_m44 : AV := .tup [.agg [.sc (.int .u8 1), .list false [], .list false [.sc (.int .i64 0)], .sc (.bool false), v21, .sc (.int .u8 2), .sc (.int .i64 4), .sc (.int .i64 4), .sc (.bool false), .sc (.int .u8 1), v6, v28, v29, v30], .sc (.int .i64 0)]
noncomputable def a_m45 : List AV := []
noncomputable def r_m45 : AV := .sc (.bool true)
noncomputable def a_m46 : List AV := []
noncomputable def r_m46 : AV := .sc (.bool true)
theorem fn31 : FnOk Tryz.prog 31 Tryz.f31 (bodyOf Tryz.f31) := ⟨Tryz.func31, by kernel_rfl, rfl⟩
theorem cloneNil31 : Pure Tryz.prog 31 [.list false []] .nils := by
  refine Pure.sym tyTab_ok fn31 (nt := 8) rfl rfl ?_ okM
  refine runT [] ?_
  refine SemK.eqNil tyTab_ok (may := true) rfl rfl rfl rfl rfl rfl trivial (by simp [nilMay]) fun b2 qb2 => ?_
  cases b2
  · exact runK [.br false, .ne false] (k := fi)
  · exact runK [.br true] (k := fi)
theorem fn66 : FnOk Tryz.prog 66 Tryz.f66 (bodyOf Tryz.f66) := ⟨Tryz.func66, by kernel_rfl, rfl⟩
theorem cloneNil66 : Pure Tryz.prog 66 [.list false []] .nils := by
  refine Pure.sym tyTab_ok fn66 (nt := 8) rfl rfl ?_ okM
  refine runT [] ?_
  refine SemK.eqNil tyTab_ok (may := true) rfl rfl rfl rfl rfl rfl trivial (by simp [nilMay]) fun b2 qb2 => ?_
  cases b2
  · exact runK [.br false, .ne false] (k := fi)
  · exact runK [.br true] (k := fi)
theorem fn151 : FnOk Tryz.prog 151 Tryz.f151 (bodyOf Tryz.f151) := ⟨Tryz.func151, by kernel_rfl, rfl⟩
theorem cloneNil151 : Pure Tryz.prog 151 [.list false []] .nils := by
  refine Pure.sym tyTab_ok fn151 (nt := 8) rfl rfl ?_ okM
  refine runT [] ?_
  refine SemK.eqNil tyTab_ok (may := true) rfl rfl rfl rfl rfl rfl trivial (by simp [nilMay]) fun b2 qb2 => ?_
  cases b2
  · exact runK [.br false, .ne false] (k := fi)
  · exact runK [.br true] (k := fi)
theorem fn152 : FnOk Tryz.prog 152 Tryz.f152 (bodyOf Tryz.f152) := ⟨Tryz.func152, by kernel_rfl, rfl⟩
theorem cloneNil152 : Pure Tryz.prog 152 [.list false []] .nils := by
  refine Pure.sym tyTab_ok fn152 (nt := 8) rfl rfl ?_ okM
  refine runT [] ?_
  refine SemK.eqNil tyTab_ok (may := true) rfl rfl rfl rfl rfl rfl trivial (by simp [nilMay]) fun b2 qb2 => ?_
  cases b2
  · exact runK [.br false, .ne false] (k := fi)
  · exact runK [.br true] (k := fi)
theorem fn153 : FnOk Tryz.prog 153 Tryz.f153 (bodyOf Tryz.f153) := ⟨Tryz.func153, by kernel_rfl, rfl⟩
theorem cloneNil153 : Pure Tryz.prog 153 [.list false []] .nils := by
  refine Pure.sym tyTab_ok fn153 (nt := 8) rfl rfl ?_ okM
  refine runT [] ?_
  refine SemK.eqNil tyTab_ok (may := true) rfl rfl rfl rfl rfl rfl trivial (by simp [nilMay]) fun b2 qb2 => ?_
  cases b2
  · exact runK [.br false, .ne false] (k := fi)
  · exact runK [.br true] (k := fi)
theorem fn154 : FnOk Tryz.prog 154 Tryz.f154 (bodyOf Tryz.f154) := ⟨Tryz.func154, by kernel_rfl, rfl⟩
theorem cloneNil154 : Pure Tryz.prog 154 [.list false []] .nils := by
  refine Pure.sym tyTab_ok fn154 (nt := 8) rfl rfl ?_ okM
  refine runT [] ?_
  refine SemK.eqNil tyTab_ok (may := true) rfl rfl rfl rfl rfl rfl trivial (by simp [nilMay]) fun b2 qb2 => ?_
  cases b2
  · exact runK [.br false, .ne false] (k := fi)
  · exact runK [.br true] (k := fi)
theorem fn155 : FnOk Tryz.prog 155 Tryz.f155 (bodyOf Tryz.f155) := ⟨Tryz.func155, by kernel_rfl, rfl⟩
theorem cloneNil155 : Pure Tryz.prog 155 [.list false []] .nils := by
  refine Pure.sym tyTab_ok fn155 (nt := 8) rfl rfl ?_ okM
  refine runT [] ?_
  refine SemK.eqNil tyTab_ok (may := true) rfl rfl rfl rfl rfl rfl trivial (by simp [nilMay]) fun b2 qb2 => ?_
  cases b2
  · exact runK [.br false, .ne false] (k := fi)
  · exact runK [.br true] (k := fi)
theorem fn156 : FnOk Tryz.prog 156 Tryz.f156 (bodyOf Tryz.f156) := ⟨Tryz.func156, by kernel_rfl, rfl⟩
theorem cloneNil156 : Pure Tryz.prog 156 [.list false []] .nils := by
  refine Pure.sym tyTab_ok fn156 (nt := 8) rfl rfl ?_ okM
  refine runT [] ?_
  refine SemK.eqNil tyTab_ok (may := true) rfl rfl rfl rfl rfl rfl trivial (by simp [nilMay]) fun b2 qb2 => ?_
  cases b2
  · exact runK [.br false, .ne false] (k := fi)
  · exact runK [.br true] (k := fi)
theorem kvInt_set (z : Int) : ∀ (ks : List Int), setV (.int .i64 z) (.bool true) (ks.map kvInt) = (distAdd ks z).map kvInt := by
  intro ks
  unfold distAdd
  induction ks with
  | nil => simp [setV, kvInt]
  | cons a r ih =>
    simp only [List.map_cons, kvInt, setV]
    by_cases h : a = z
    · subst h; simp [kvInt]
    · have h1 : ¬ (Value.int .i64 a = Value.int .i64 z) := by simpa using h
      rw [if_neg h1]
      have ih' : setV (.int .i64 z) (.bool true) (r.map kvInt) = (if z ∈ r then r else r ++ [z]).map kvInt := ih
      rw [ih']
      have h2 : ¬ z = a := fun e => h e.symm
      by_cases hz : z ∈ r <;> simp [hz, h2, kvInt]
theorem wkA {P : Prop} (h : P := by
  first
    | exact trivial
    | rfl
    | exact .sc
    | exact .list
    | exact .nils
    | assumption
    | (refine congrArg (fun z => AV.sc (Value.int IntKind.i64 z)) ?_; first | rfl | omega | assumption | (simp; done) | (simp; omega))
    | (simp [AV.ren, *]; done)) : P := h
theorem fn92 : FnOk Tryz.prog 92 Tryz.f92 (bodyOf Tryz.f92) := ⟨Tryz.func92, by kernel_rfl, rfl⟩
theorem tmD : TyOk Tryz.prog tyTab.find ∧ Tryz.prog.follows .mixedOrders = true := ⟨tyTab_ok, by kernel_rfl⟩
theorem clauses_distinct_int_L0 {Q : AExit → St → Mu → Prop} {μ : Mu} (b : Nat) (l : List Int) (hl : List.length l ≤ 140737488355328) : ∀ (xs : List Int) (k : Nat) (hx : l.drop k = xs) (ks : List Int)
    (C : SemK Tryz.prog 18 0 Q (.exit (.exit 0)) [] ⟨fr [(3, .sc (.map (some b)))], hp [], 0⟩ ((b, (distinctL ks xs).map kvInt) :: μ)),
    SemK Tryz.prog 18 0 Q (.loop (loopB 0 (bodyOf Tryz.f92))) [] ⟨fr [(3, .sc (.map (some b))), (7, AV.list false (List.map (aI .i64) l)), (8, aI .i64 (List.length l : Int)), (9, aI .i64 (k : Int))], hp [], 0⟩ ((b, ks.map kvInt) :: μ) := by
  intro xs
  induction xs with
  | nil =>
    intro k hx ks C
    have hk := drop_nil hx
    have hc : decide ((k : Int) < (List.length l : Int)) = false := decide_eq_false (by omega)
    refine SemK.round ?_
    refine run_to tmD 4000 [.br false] rfl (by repeat' first | refine And.intro ?_ ?_ | exact hc | exact oblA) ?_
    exact SemK.weakTo [] C rfl (by repeat' first | refine And.intro ?_ ?_ | exact wkA) trivial
  | cons x xs ih =>
    intro k hx ks C
    obtain ⟨hk, hg, hx1⟩ := drop_cons hx
    have hc : decide ((k : Int) < (List.length l : Int)) = true := decide_eq_true (by omega)
    refine SemK.round ?_
    refine run_to tmD 4000 [.br true, .el (aI .i64 x)] rfl (by repeat' first | refine And.intro ?_ ?_ | exact hc | exact ixm hg | exact oblA) ?_
    refine SemK.mapUpd (d := .int .i64) tyTab_ok rfl rfl rfl rfl rfl Tryz.underlying2 rfl rfl rfl trivial trivial trivial rfl (by
      intro p hp; obtain ⟨z, _, rfl⟩ := List.mem_map.1 hp; rfl) ?_
    rw [kvInt_set]
    refine run_to tmD 4000 [] rfl (by repeat' first | refine And.intro ?_ ?_ | exact oblA) ?_
    exact SemK.weakTo [] (ih (k + 1) hx1 (distAdd ks x) C) rfl (by repeat' first | refine And.intro ?_ ?_ | exact wkA) trivial
theorem clauses_distinct_int_ok (a0 : (List Int)) (r : Int) (h : clauses_distinct_int a0 = some r) : Pure Tryz.prog 92 [(AV.list false (List.map (aI .i64) a0))] (aI .i64 r) := by
  refine Pure.sym tyTab_ok fn92 (nt := 18) rfl rfl ?_ (allCons .list allNil)
  unfold clauses_distinct_int at h
  refine bindE h ?_
  clear h; intro u h1 h
  have q1 := lenOk_le h1
  obtain rfl := Option.some.inj h
  refine run_to tmD 4000 [] rfl (by repeat' first | refine And.intro ?_ ?_ | exact oblA) ?_
  refine SemK.mapNew rfl rfl rfl fun b => ?_
  refine run_to tmD 4000 [] rfl (by repeat' first | refine And.intro ?_ ?_ | exact oblA) ?_
  refine SemK.weakTo [] (SemK.cut (clauses_distinct_int_L0 b a0 q1 a0 0 (by simp) [] ?_)) rfl (by repeat' first | refine And.intro ?_ ?_ | exact wkA) trivial
  refine SemK.glue ?_
  refine run_to tmD 4000 [] rfl (by repeat' first | refine And.intro ?_ ?_ | exact oblA) ?_
  refine SemK.mapLen tyTab_ok rfl rfl rfl rfl rfl rfl trivial ?_
  rw [List.length_map]
  refine run_to tmD 4000 [] rfl (by repeat' first | refine And.intro ?_ ?_ | exact oblA) ?_
  refine fin_ret rfl ?_
  exact .sc
theorem distLit92 (l : List Int) (h : List.length l ≤ 1000) : Pure Tryz.prog 92 [.list false (l.map (aI .i64))] (aI .i64 ((distinctL [] l).length : Int)) := clauses_distinct_int_ok l _ (by unfold clauses_distinct_int lenOk; rw [if_pos (by omega)]; rfl)
theorem m5 : Pure Tryz.prog 92 a_m5 r_m5 := distLit92 [0] (by simp)
theorem m6 : Pure Tryz.prog 31 a_m6 r_m6 := cloneNil31
theorem m8 : Pure Tryz.prog 66 a_m8 r_m8 := cloneNil66
theorem m10 : Pure Tryz.prog 115 a_m10 r_m10 := graph_order_ok.ok ⟨[⟨(1), (0)⟩, ⟨(2), (0)⟩, ⟨(4), (0)⟩, ⟨(6), (0)⟩], [⟨(0), (0), (1), (0), (8)⟩, ⟨(1), (0), (2), (0), (8)⟩, ⟨(2), (0), (3), (0), (8)⟩]⟩ [0, 1, 2, 3] (by kernel_rfl)
theorem m20 : Pure Tryz.prog 151 a_m20 r_m20 := cloneNil151
theorem m21 : Pure Tryz.prog 152 a_m21 r_m21 := cloneNil152
theorem m22 : Pure Tryz.prog 153 a_m22 r_m22 := cloneNil153
theorem m23 : Pure Tryz.prog 154 a_m23 r_m23 := cloneNil154
theorem m24 : Pure Tryz.prog 155 a_m24 r_m24 := cloneNil155
theorem m25 : Pure Tryz.prog 156 a_m25 r_m25 := cloneNil156
noncomputable def M0 : Tab Memo := (.node 152 [(a_m21, r_m21)] (.node 92 [(a_m5, r_m5)] (.node 66 [(a_m8, r_m8)] (.node 31 [(a_m6, r_m6)] .leaf .leaf) .leaf) (.node 151 [(a_m20, r_m20)] (.node 115 [(a_m10, r_m10)] .leaf .leaf) .leaf)) (.node 155 [(a_m24, r_m24)] (.node 154 [(a_m23, r_m23)] (.node 153 [(a_m22, r_m22)] .leaf .leaf) .leaf) (.node 156 [(a_m25, r_m25)] .leaf .leaf)))
theorem M0_ok : MemoOk Tryz.prog M0.find := memoOk_tab ⟨⟨m21, trivial⟩, ⟨⟨m5, trivial⟩, ⟨⟨m8, trivial⟩, ⟨⟨m6, trivial⟩, trivial, trivial⟩, trivial⟩, ⟨⟨m20, trivial⟩, ⟨⟨m10, trivial⟩, trivial, trivial⟩, trivial⟩⟩, ⟨⟨m24, trivial⟩, ⟨⟨m23, trivial⟩, ⟨⟨m22, trivial⟩, trivial, trivial⟩, trivial⟩, ⟨⟨m25, trivial⟩, trivial, trivial⟩⟩⟩
theorem m0 : Pure Tryz.prog 132 a_m0 r_m0 := run_pureW mixed_ok X_ok tyTab_ok fnTab_ok M0_ok (fuel := 3000) (d := 200) (by kernel_rfl)
theorem m1 : Pure Tryz.prog 132 a_m1 r_m1 := run_pureW mixed_ok X_ok tyTab_ok fnTab_ok M0_ok (fuel := 3000) (d := 200) (by kernel_rfl)
theorem m2 : Pure Tryz.prog 132 a_m2 r_m2 := run_pureW mixed_ok X_ok tyTab_ok fnTab_ok M0_ok (fuel := 3000) (d := 200) (by kernel_rfl)
theorem m7 : Pure Tryz.prog 7 a_m7 r_m7 := run_pureW mixed_ok X_ok tyTab_ok fnTab_ok M0_ok (fuel := 3000) (d := 200) (by kernel_rfl)
theorem m9 : Pure Tryz.prog 16 a_m9 r_m9 := run_pureW mixed_ok X_ok tyTab_ok fnTab_ok M0_ok (fuel := 3000) (d := 200) (by kernel_rfl)
theorem m11 : Pure Tryz.prog 112 a_m11 r_m11 := run_pureW mixed_ok X_ok tyTab_ok fnTab_ok M0_ok (fuel := 3000) (d := 200) (by kernel_rfl)
theorem m12 : Pure Tryz.prog 118 a_m12 r_m12 := run_pureW mixed_ok X_ok tyTab_ok fnTab_ok M0_ok (fuel := 3000) (d := 200) (by kernel_rfl)
theorem m13 : Pure Tryz.prog 112 a_m13 r_m13 := run_pureW mixed_ok X_ok tyTab_ok fnTab_ok M0_ok (fuel := 3000) (d := 200) (by kernel_rfl)
theorem m14 : Pure Tryz.prog 118 a_m14 r_m14 := run_pureW mixed_ok X_ok tyTab_ok fnTab_ok M0_ok (fuel := 3000) (d := 200) (by kernel_rfl)
theorem m15 : Pure Tryz.prog 112 a_m15 r_m15 := run_pureW mixed_ok X_ok tyTab_ok fnTab_ok M0_ok (fuel := 3000) (d := 200) (by kernel_rfl)
theorem m16 : Pure Tryz.prog 118 a_m16 r_m16 := run_pureW mixed_ok X_ok tyTab_ok fnTab_ok M0_ok (fuel := 3000) (d := 200) (by kernel_rfl)
theorem m17 : Pure Tryz.prog 112 a_m17 r_m17 := run_pureW mixed_ok X_ok tyTab_ok fnTab_ok M0_ok (fuel := 3000) (d := 200) (by kernel_rfl)
theorem m18 : Pure Tryz.prog 118 a_m18 r_m18 := run_pureW mixed_ok X_ok tyTab_ok fnTab_ok M0_ok (fuel := 3000) (d := 200) (by kernel_rfl)
theorem m26 : Pure Tryz.prog 111 a_m26 r_m26 := run_pureW mixed_ok X_ok tyTab_ok fnTab_ok M0_ok (fuel := 3000) (d := 200) (by kernel_rfl)
theorem m27 : Pure Tryz.prog 111 a_m27 r_m27 := run_pureW mixed_ok X_ok tyTab_ok fnTab_ok M0_ok (fuel := 3000) (d := 200) (by kernel_rfl)
theorem m28 : Pure Tryz.prog 111 a_m28 r_m28 := run_pureW mixed_ok X_ok tyTab_ok fnTab_ok M0_ok (fuel := 3000) (d := 200) (by kernel_rfl)
theorem m29 : Pure Tryz.prog 111 a_m29 r_m29 := run_pureW mixed_ok X_ok tyTab_ok fnTab_ok M0_ok (fuel := 3000) (d := 200) (by kernel_rfl)
theorem m32 : Pure Tryz.prog 132 a_m32 r_m32 := run_pureW mixed_ok X_ok tyTab_ok fnTab_ok M0_ok (fuel := 3000) (d := 200) (by kernel_rfl)
theorem m33 : Pure Tryz.prog 132 a_m33 r_m33 := run_pureW mixed_ok X_ok tyTab_ok fnTab_ok M0_ok (fuel := 3000) (d := 200) (by kernel_rfl)
theorem m37 : Pure Tryz.prog 96 a_m37 r_m37 := run_pureW mixed_ok X_ok tyTab_ok fnTab_ok M0_ok (fuel := 3000) (d := 200) (by kernel_rfl)
theorem m40 : Pure Tryz.prog 96 a_m40 r_m40 := run_pureW mixed_ok X_ok tyTab_ok fnTab_ok M0_ok (fuel := 3000) (d := 200) (by kernel_rfl)
theorem m42 : Pure Tryz.prog 16 a_m42 r_m42 := run_pureW mixed_ok X_ok tyTab_ok fnTab_ok M0_ok (fuel := 3000) (d := 200) (by kernel_rfl)
theorem m43 : Pure Tryz.prog 30 a_m43 r_m43 := run_pureW mixed_ok X_ok tyTab_ok fnTab_ok M0_ok (fuel := 3000) (d := 200) (by kernel_rfl)
noncomputable def M1 : Tab Memo := (.node 115 [(a_m10, r_m10)] (.node 66 [(a_m8, r_m8)] (.node 30 [(a_m43, r_m43)] (.node 16 [(a_m9, r_m9), (a_m42, r_m42)] (.node 7 [(a_m7, r_m7)] .leaf .leaf) .leaf) (.node 31 [(a_m6, r_m6)] .leaf .leaf)) (.node 111 [(a_m26, r_m26), (a_m27, r_m27), (a_m28, r_m28), (a_m29, r_m29)] (.node 96 [(a_m37, r_m37), (a_m40, r_m40)] (.node 92 [(a_m5, r_m5)] .leaf .leaf) .leaf) (.node 112 [(a_m11, r_m11), (a_m13, r_m13), (a_m15, r_m15), (a_m17, r_m17)] .leaf .leaf))) (.node 153 [(a_m22, r_m22)] (.node 151 [(a_m20, r_m20)] (.node 132 [(a_m0, r_m0), (a_m1, r_m1), (a_m2, r_m2), (a_m32, r_m32), (a_m33, r_m33)] (.node 118 [(a_m12, r_m12), (a_m14, r_m14), (a_m16, r_m16), (a_m18, r_m18)] .leaf .leaf) .leaf) (.node 152 [(a_m21, r_m21)] .leaf .leaf)) (.node 155 [(a_m24, r_m24)] (.node 154 [(a_m23, r_m23)] .leaf .leaf) (.node 156 [(a_m25, r_m25)] .leaf .leaf))))
theorem M1_ok : MemoOk Tryz.prog M1.find := memoOk_tab ⟨⟨m10, trivial⟩, ⟨⟨m8, trivial⟩, ⟨⟨m43, trivial⟩, ⟨⟨m9, m42, trivial⟩, ⟨⟨m7, trivial⟩, trivial, trivial⟩, trivial⟩, ⟨⟨m6, trivial⟩, trivial, trivial⟩⟩, ⟨⟨m26, m27, m28, m29, trivial⟩, ⟨⟨m37, m40, trivial⟩, ⟨⟨m5, trivial⟩, trivial, trivial⟩, trivial⟩, ⟨⟨m11, m13, m15, m17, trivial⟩, trivial, trivial⟩⟩⟩, ⟨⟨m22, trivial⟩, ⟨⟨m20, trivial⟩, ⟨⟨m0, m1, m2, m32, m33, trivial⟩, ⟨⟨m12, m14, m16, m18, trivial⟩, trivial, trivial⟩, trivial⟩, ⟨⟨m21, trivial⟩, trivial, trivial⟩⟩, ⟨⟨m24, trivial⟩, ⟨⟨m23, trivial⟩, trivial, trivial⟩, ⟨⟨m25, trivial⟩, trivial, trivial⟩⟩⟩⟩
theorem m3 : Pure Tryz.prog 50 a_m3 r_m3 := run_pureW mixed_ok X_ok tyTab_ok fnTab_ok M1_ok (fuel := 3000) (d := 200) (by kernel_rfl)
theorem m19 : Pure Tryz.prog 45 a_m19 r_m19 := run_pureW mixed_ok X_ok tyTab_ok fnTab_ok M1_ok (fuel := 3000) (d := 200) (by kernel_rfl)
theorem m34 : Pure Tryz.prog 50 a_m34 r_m34 := run_pureW mixed_ok X_ok tyTab_ok fnTab_ok M1_ok (fuel := 3000) (d := 200) (by kernel_rfl)
theorem m35 : Pure Tryz.prog 133 a_m35 r_m35 := run_pureW mixed_ok X_ok tyTab_ok fnTab_ok M1_ok (fuel := 3000) (d := 200) (by kernel_rfl)
theorem m38 : Pure Tryz.prog 140 a_m38 r_m38 := run_pureW mixed_ok X_ok tyTab_ok fnTab_ok M1_ok (fuel := 3000) (d := 200) (by kernel_rfl)
theorem m44 : Pure Tryz.prog 16 a_m44 r_m44 := run_pureW mixed_ok X_ok tyTab_ok fnTab_ok M1_ok (fuel := 3000) (d := 200) (by kernel_rfl)
noncomputable def M2 : Tab Memo := (.node 115 [(a_m10, r_m10)] (.node 50 [(a_m3, r_m3), (a_m34, r_m34)] (.node 30 [(a_m43, r_m43)] (.node 16 [(a_m9, r_m9), (a_m42, r_m42), (a_m44, r_m44)] (.node 7 [(a_m7, r_m7)] .leaf .leaf) .leaf) (.node 45 [(a_m19, r_m19)] (.node 31 [(a_m6, r_m6)] .leaf .leaf) .leaf)) (.node 96 [(a_m37, r_m37), (a_m40, r_m40)] (.node 92 [(a_m5, r_m5)] (.node 66 [(a_m8, r_m8)] .leaf .leaf) .leaf) (.node 112 [(a_m11, r_m11), (a_m13, r_m13), (a_m15, r_m15), (a_m17, r_m17)] (.node 111 [(a_m26, r_m26), (a_m27, r_m27), (a_m28, r_m28), (a_m29, r_m29)] .leaf .leaf) .leaf))) (.node 152 [(a_m21, r_m21)] (.node 133 [(a_m35, r_m35)] (.node 132 [(a_m0, r_m0), (a_m1, r_m1), (a_m2, r_m2), (a_m32, r_m32), (a_m33, r_m33)] (.node 118 [(a_m12, r_m12), (a_m14, r_m14), (a_m16, r_m16), (a_m18, r_m18)] .leaf .leaf) .leaf) (.node 151 [(a_m20, r_m20)] (.node 140 [(a_m38, r_m38)] .leaf .leaf) .leaf)) (.node 155 [(a_m24, r_m24)] (.node 154 [(a_m23, r_m23)] (.node 153 [(a_m22, r_m22)] .leaf .leaf) .leaf) (.node 156 [(a_m25, r_m25)] .leaf .leaf))))
theorem M2_ok : MemoOk Tryz.prog M2.find := memoOk_tab ⟨⟨m10, trivial⟩, ⟨⟨m3, m34, trivial⟩, ⟨⟨m43, trivial⟩, ⟨⟨m9, m42, m44, trivial⟩, ⟨⟨m7, trivial⟩, trivial, trivial⟩, trivial⟩, ⟨⟨m19, trivial⟩, ⟨⟨m6, trivial⟩, trivial, trivial⟩, trivial⟩⟩, ⟨⟨m37, m40, trivial⟩, ⟨⟨m5, trivial⟩, ⟨⟨m8, trivial⟩, trivial, trivial⟩, trivial⟩, ⟨⟨m11, m13, m15, m17, trivial⟩, ⟨⟨m26, m27, m28, m29, trivial⟩, trivial, trivial⟩, trivial⟩⟩⟩, ⟨⟨m21, trivial⟩, ⟨⟨m35, trivial⟩, ⟨⟨m0, m1, m2, m32, m33, trivial⟩, ⟨⟨m12, m14, m16, m18, trivial⟩, trivial, trivial⟩, trivial⟩, ⟨⟨m20, trivial⟩, ⟨⟨m38, trivial⟩, trivial, trivial⟩, trivial⟩⟩, ⟨⟨m24, trivial⟩, ⟨⟨m23, trivial⟩, ⟨⟨m22, trivial⟩, trivial, trivial⟩, trivial⟩, ⟨⟨m25, trivial⟩, trivial, trivial⟩⟩⟩⟩
theorem m4 : Pure Tryz.prog 22 a_m4 r_m4 := run_pureW mixed_ok X_ok tyTab_ok fnTab_ok M2_ok (fuel := 3000) (d := 200) (by kernel_rfl)
theorem m30 : Pure Tryz.prog 106 a_m30 r_m30 := run_pureW mixed_ok X_ok tyTab_ok fnTab_ok M2_ok (fuel := 3000) (d := 200) (by kernel_rfl)
theorem m36 : Pure Tryz.prog 22 a_m36 r_m36 := run_pureW mixed_ok X_ok tyTab_ok fnTab_ok M2_ok (fuel := 3000) (d := 200) (by kernel_rfl)
theorem m39 : Pure Tryz.prog 27 a_m39 r_m39 := run_pureW mixed_ok X_ok tyTab_ok fnTab_ok M2_ok (fuel := 3000) (d := 200) (by kernel_rfl)
noncomputable def M3 : Tab Memo := (.node 111 [(a_m26, r_m26), (a_m27, r_m27), (a_m28, r_m28), (a_m29, r_m29)] (.node 45 [(a_m19, r_m19)] (.node 27 [(a_m39, r_m39)] (.node 16 [(a_m9, r_m9), (a_m42, r_m42), (a_m44, r_m44)] (.node 7 [(a_m7, r_m7)] .leaf .leaf) (.node 22 [(a_m4, r_m4), (a_m36, r_m36)] .leaf .leaf)) (.node 31 [(a_m6, r_m6)] (.node 30 [(a_m43, r_m43)] .leaf .leaf) .leaf)) (.node 92 [(a_m5, r_m5)] (.node 66 [(a_m8, r_m8)] (.node 50 [(a_m3, r_m3), (a_m34, r_m34)] .leaf .leaf) .leaf) (.node 106 [(a_m30, r_m30)] (.node 96 [(a_m37, r_m37), (a_m40, r_m40)] .leaf .leaf) .leaf))) (.node 151 [(a_m20, r_m20)] (.node 132 [(a_m0, r_m0), (a_m1, r_m1), (a_m2, r_m2), (a_m32, r_m32), (a_m33, r_m33)] (.node 115 [(a_m10, r_m10)] (.node 112 [(a_m11, r_m11), (a_m13, r_m13), (a_m15, r_m15), (a_m17, r_m17)] .leaf .leaf) (.node 118 [(a_m12, r_m12), (a_m14, r_m14), (a_m16, r_m16), (a_m18, r_m18)] .leaf .leaf)) (.node 140 [(a_m38, r_m38)] (.node 133 [(a_m35, r_m35)] .leaf .leaf) .leaf)) (.node 154 [(a_m23, r_m23)] (.node 153 [(a_m22, r_m22)] (.node 152 [(a_m21, r_m21)] .leaf .leaf) .leaf) (.node 156 [(a_m25, r_m25)] (.node 155 [(a_m24, r_m24)] .leaf .leaf) .leaf))))
theorem M3_ok : MemoOk Tryz.prog M3.find := memoOk_tab ⟨⟨m26, m27, m28, m29, trivial⟩, ⟨⟨m19, trivial⟩, ⟨⟨m39, trivial⟩, ⟨⟨m9, m42, m44, trivial⟩, ⟨⟨m7, trivial⟩, trivial, trivial⟩, ⟨⟨m4, m36, trivial⟩, trivial, trivial⟩⟩, ⟨⟨m6, trivial⟩, ⟨⟨m43, trivial⟩, trivial, trivial⟩, trivial⟩⟩, ⟨⟨m5, trivial⟩, ⟨⟨m8, trivial⟩, ⟨⟨m3, m34, trivial⟩, trivial, trivial⟩, trivial⟩, ⟨⟨m30, trivial⟩, ⟨⟨m37, m40, trivial⟩, trivial, trivial⟩, trivial⟩⟩⟩, ⟨⟨m20, trivial⟩, ⟨⟨m0, m1, m2, m32, m33, trivial⟩, ⟨⟨m10, trivial⟩, ⟨⟨m11, m13, m15, m17, trivial⟩, trivial, trivial⟩, ⟨⟨m12, m14, m16, m18, trivial⟩, trivial, trivial⟩⟩, ⟨⟨m38, trivial⟩, ⟨⟨m35, trivial⟩, trivial, trivial⟩, trivial⟩⟩, ⟨⟨m23, trivial⟩, ⟨⟨m22, trivial⟩, ⟨⟨m21, trivial⟩, trivial, trivial⟩, trivial⟩, ⟨⟨m25, trivial⟩, ⟨⟨m24, trivial⟩, trivial, trivial⟩, trivial⟩⟩⟩⟩
theorem m31 : Pure Tryz.prog 17 a_m31 r_m31 := run_pureW mixed_ok X_ok tyTab_ok fnTab_ok M3_ok (fuel := 3000) (d := 200) (by kernel_rfl)
theorem m41 : Pure Tryz.prog 15 a_m41 r_m41 := run_pureW mixed_ok X_ok tyTab_ok fnTab_ok M3_ok (fuel := 3000) (d := 200) (by kernel_rfl)
noncomputable def M4 : Tab Memo := (.node 106 [(a_m30, r_m30)] (.node 30 [(a_m43, r_m43)] (.node 17 [(a_m31, r_m31)] (.node 15 [(a_m41, r_m41)] (.node 7 [(a_m7, r_m7)] .leaf .leaf) (.node 16 [(a_m9, r_m9), (a_m42, r_m42), (a_m44, r_m44)] .leaf .leaf)) (.node 27 [(a_m39, r_m39)] (.node 22 [(a_m4, r_m4), (a_m36, r_m36)] .leaf .leaf) .leaf)) (.node 66 [(a_m8, r_m8)] (.node 45 [(a_m19, r_m19)] (.node 31 [(a_m6, r_m6)] .leaf .leaf) (.node 50 [(a_m3, r_m3), (a_m34, r_m34)] .leaf .leaf)) (.node 96 [(a_m37, r_m37), (a_m40, r_m40)] (.node 92 [(a_m5, r_m5)] .leaf .leaf) .leaf))) (.node 140 [(a_m38, r_m38)] (.node 118 [(a_m12, r_m12), (a_m14, r_m14), (a_m16, r_m16), (a_m18, r_m18)] (.node 112 [(a_m11, r_m11), (a_m13, r_m13), (a_m15, r_m15), (a_m17, r_m17)] (.node 111 [(a_m26, r_m26), (a_m27, r_m27), (a_m28, r_m28), (a_m29, r_m29)] .leaf .leaf) (.node 115 [(a_m10, r_m10)] .leaf .leaf)) (.node 133 [(a_m35, r_m35)] (.node 132 [(a_m0, r_m0), (a_m1, r_m1), (a_m2, r_m2), (a_m32, r_m32), (a_m33, r_m33)] .leaf .leaf) .leaf)) (.node 154 [(a_m23, r_m23)] (.node 152 [(a_m21, r_m21)] (.node 151 [(a_m20, r_m20)] .leaf .leaf) (.node 153 [(a_m22, r_m22)] .leaf .leaf)) (.node 156 [(a_m25, r_m25)] (.node 155 [(a_m24, r_m24)] .leaf .leaf) .leaf))))
theorem M4_ok : MemoOk Tryz.prog M4.find := memoOk_tab ⟨⟨m30, trivial⟩, ⟨⟨m43, trivial⟩, ⟨⟨m31, trivial⟩, ⟨⟨m41, trivial⟩, ⟨⟨m7, trivial⟩, trivial, trivial⟩, ⟨⟨m9, m42, m44, trivial⟩, trivial, trivial⟩⟩, ⟨⟨m39, trivial⟩, ⟨⟨m4, m36, trivial⟩, trivial, trivial⟩, trivial⟩⟩, ⟨⟨m8, trivial⟩, ⟨⟨m19, trivial⟩, ⟨⟨m6, trivial⟩, trivial, trivial⟩, ⟨⟨m3, m34, trivial⟩, trivial, trivial⟩⟩, ⟨⟨m37, m40, trivial⟩, ⟨⟨m5, trivial⟩, trivial, trivial⟩, trivial⟩⟩⟩, ⟨⟨m38, trivial⟩, ⟨⟨m12, m14, m16, m18, trivial⟩, ⟨⟨m11, m13, m15, m17, trivial⟩, ⟨⟨m26, m27, m28, m29, trivial⟩, trivial, trivial⟩, ⟨⟨m10, trivial⟩, trivial, trivial⟩⟩, ⟨⟨m35, trivial⟩, ⟨⟨m0, m1, m2, m32, m33, trivial⟩, trivial, trivial⟩, trivial⟩⟩, ⟨⟨m23, trivial⟩, ⟨⟨m21, trivial⟩, ⟨⟨m20, trivial⟩, trivial, trivial⟩, ⟨⟨m22, trivial⟩, trivial, trivial⟩⟩, ⟨⟨m25, trivial⟩, ⟨⟨m24, trivial⟩, trivial, trivial⟩, trivial⟩⟩⟩⟩
theorem m45 : Pure Tryz.prog 10 a_m45 r_m45 := run_pureW mixed_ok X_ok tyTab_ok fnTab_ok M4_ok (fuel := 3000) (d := 200) (by kernel_rfl)
noncomputable def M5 : Tab Memo := (.node 106 [(a_m30, r_m30)] (.node 30 [(a_m43, r_m43)] (.node 16 [(a_m9, r_m9), (a_m42, r_m42), (a_m44, r_m44)] (.node 10 [(a_m45, r_m45)] (.node 7 [(a_m7, r_m7)] .leaf .leaf) (.node 15 [(a_m41, r_m41)] .leaf .leaf)) (.node 22 [(a_m4, r_m4), (a_m36, r_m36)] (.node 17 [(a_m31, r_m31)] .leaf .leaf) (.node 27 [(a_m39, r_m39)] .leaf .leaf))) (.node 66 [(a_m8, r_m8)] (.node 45 [(a_m19, r_m19)] (.node 31 [(a_m6, r_m6)] .leaf .leaf) (.node 50 [(a_m3, r_m3), (a_m34, r_m34)] .leaf .leaf)) (.node 96 [(a_m37, r_m37), (a_m40, r_m40)] (.node 92 [(a_m5, r_m5)] .leaf .leaf) .leaf))) (.node 140 [(a_m38, r_m38)] (.node 118 [(a_m12, r_m12), (a_m14, r_m14), (a_m16, r_m16), (a_m18, r_m18)] (.node 112 [(a_m11, r_m11), (a_m13, r_m13), (a_m15, r_m15), (a_m17, r_m17)] (.node 111 [(a_m26, r_m26), (a_m27, r_m27), (a_m28, r_m28), (a_m29, r_m29)] .leaf .leaf) (.node 115 [(a_m10, r_m10)] .leaf .leaf)) (.node 133 [(a_m35, r_m35)] (.node 132 [(a_m0, r_m0), (a_m1, r_m1), (a_m2, r_m2), (a_m32, r_m32), (a_m33, r_m33)] .leaf .leaf) .leaf)) (.node 154 [(a_m23, r_m23)] (.node 152 [(a_m21, r_m21)] (.node 151 [(a_m20, r_m20)] .leaf .leaf) (.node 153 [(a_m22, r_m22)] .leaf .leaf)) (.node 156 [(a_m25, r_m25)] (.node 155 [(a_m24, r_m24)] .leaf .leaf) .leaf))))
theorem M5_ok : MemoOk Tryz.prog M5.find := memoOk_tab ⟨⟨m30, trivial⟩, ⟨⟨m43, trivial⟩, ⟨⟨m9, m42, m44, trivial⟩, ⟨⟨m45, trivial⟩, ⟨⟨m7, trivial⟩, trivial, trivial⟩, ⟨⟨m41, trivial⟩, trivial, trivial⟩⟩, ⟨⟨m4, m36, trivial⟩, ⟨⟨m31, trivial⟩, trivial, trivial⟩, ⟨⟨m39, trivial⟩, trivial, trivial⟩⟩⟩, ⟨⟨m8, trivial⟩, ⟨⟨m19, trivial⟩, ⟨⟨m6, trivial⟩, trivial, trivial⟩, ⟨⟨m3, m34, trivial⟩, trivial, trivial⟩⟩, ⟨⟨m37, m40, trivial⟩, ⟨⟨m5, trivial⟩, trivial, trivial⟩, trivial⟩⟩⟩, ⟨⟨m38, trivial⟩, ⟨⟨m12, m14, m16, m18, trivial⟩, ⟨⟨m11, m13, m15, m17, trivial⟩, ⟨⟨m26, m27, m28, m29, trivial⟩, trivial, trivial⟩, ⟨⟨m10, trivial⟩, trivial, trivial⟩⟩, ⟨⟨m35, trivial⟩, ⟨⟨m0, m1, m2, m32, m33, trivial⟩, trivial, trivial⟩, trivial⟩⟩, ⟨⟨m23, trivial⟩, ⟨⟨m21, trivial⟩, ⟨⟨m20, trivial⟩, trivial, trivial⟩, ⟨⟨m22, trivial⟩, trivial, trivial⟩⟩, ⟨⟨m25, trivial⟩, ⟨⟨m24, trivial⟩, trivial, trivial⟩, trivial⟩⟩⟩⟩
theorem m46 : Pure Tryz.prog 3 a_m46 r_m46 := run_pureW mixed_ok X_ok tyTab_ok fnTab_ok M5_ok (fuel := 3000) (d := 200) (by kernel_rfl)
end Go.Av.Tryz
