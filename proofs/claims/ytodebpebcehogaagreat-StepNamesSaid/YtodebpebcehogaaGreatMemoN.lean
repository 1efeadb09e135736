/- Parts of the proof, laid together. -/
import Derived.Test.YtodebpebcehogaaGreatAve
import Derived.Test.YtodebpebcehogaaGreatTabX
import Derived.Test.YtodebpebcehogaaGreatOrdZ
set_option linter.all false
set_option maxRecDepth 1000000
namespace Go.Av.Tryz
open Go.Av Go.Av.X Go.Proofs Go.D Go.Av.Tryz
set_option maxHeartbeats 4000000
noncomputable instance gl : Gls := ⟨[], 1⟩
noncomputable def Xt (f : Nat) : Option (List AV → Option AV) := none
theorem X_ok : ExtOk Tryz.prog Xt := by
  intro f g h
  unfold Xt at h
  cases h
theorem tmI0 : TyOk Tryz.prog tyTab.find ∧ Tryz.prog.follows .mixedOrders = true := ⟨tyTab_ok, by kernel_rfl⟩
instance tmI : TmD Tryz.prog tyTab.find := ⟨tmI0⟩
def clauses_distinct_int (l : List Int) : Option Int := (lenOk (List.length l)).bind fun _ => some ((distinctL [] l).length : Int)
theorem mixed_ok : Tryz.prog.follows .mixedOrders = true := by kernel_rfl
noncomputable def v0 : AV := .list false [.agg [.sc (.int .u8 1), .sc (.int .i64 0)], .agg [.sc (.int .u8 2), .sc (.int .i64 0)], .agg [.sc (.int .u8 4), .sc (.int .i64 0)], .agg [.sc (.int .u8 6), .sc (.int .i64 0)]]
noncomputable def v1 : AV := .agg [.sc (.int .i64 0), .sc (.int .i64 0), .sc (.int .i64 1), .sc (.int .i64 0), .sc (.int .i64 1)]
noncomputable def v2 : AV := .agg [.sc (.int .i64 1), .sc (.int .i64 0), .sc (.int .i64 2), .sc (.int .i64 0), .sc (.int .i64 1)]
noncomputable def v3 : AV := .list false [.agg [.sc (.bool false), .sc (.int .i64 0), .sc (.int .i64 0), .sc (.int .i64 3), .sc (.int .i64 0)]]
noncomputable def v4 : AV := .agg [.sc (.int .u8 1), .sc (.int .i64 0), .sc (.int .i64 0), .list false [], .list false [], .list false [], v3, .list false [], .list false []]
noncomputable def v5 : AV := .agg [.sc (.int .u8 2), .sc (.int .i64 0), .sc (.int .i64 0), .list false [], .list false [.sc (.int .i64 (-9223372036854775808))], .list false [], .list false [], .list false [], .list false []]
noncomputable def v6 : AV := .agg [.sc (.int .u8 4), .sc (.int .i64 0), .sc (.int .i64 0), .list false [], .list false [.sc (.int .i64 (-9223372036854775808))], .list false [], .list false [], .list false [], .list false []]
noncomputable def v7 : AV := .agg [.sc (.int .u8 6), .sc (.int .i64 0), .sc (.int .i64 0), .list false [], .list false [], .list false [], .list false [], .list false [], .list false []]
noncomputable def v8 : AV := .list false [v4, v5, v6, v7]
noncomputable def v9 : AV := .list false [.agg [.sc (.int .i64 1), .list false []], .agg [.sc (.int .i64 1), .list false []], .agg [.sc (.int .i64 1), .list false []]]
noncomputable def v10 : AV := .list false [v1, v2, .agg [.sc (.int .i64 2), .sc (.int .i64 0), .sc (.int .i64 3), .sc (.int .i64 0), .sc (.int .i64 1)]]
noncomputable def v11 : AV := .agg [v0, v10]
noncomputable def v12 : AV := .agg [.sc (.int .u8 1), .list false [], .list false [.sc (.int .i64 0)], .sc (.bool false), .list false [], .sc (.int .u8 1), .sc (.int .i64 10), .sc (.int .i64 0), .sc (.bool false), .sc (.int .u8 1), v0, v10, v8, .list false [.agg [.sc (.int .i64 1), .list false []], .agg [.sc (.int .i64 2), .list false []], .agg [.sc (.int .i64 1), .list false []]]]
noncomputable def v13 : AV := .tup [.agg [.sc (.int .u8 0), .list false [], .list false [], .sc (.bool false), .list false [], .sc (.int .u8 0), .sc (.int .i64 0), .sc (.int .i64 0), .sc (.bool false), .sc (.int .u8 0), .list false [], .list false [], .list false [], .list false []], .sc (.int .i64 8)]
noncomputable def v14 : AV := .agg [.sc (.int .u8 1), .list false [], .list false [.sc (.int .i64 0)], .sc (.bool false), .list false [], .sc (.int .u8 1), .sc (.int .i64 10), .sc (.int .i64 0), .sc (.bool false), .sc (.int .u8 1), v0, v10, v8, v9]
noncomputable def v15 : AV := .list false [.agg [.sc (.int .i64 0), .sc (.int .u8 1), .sc (.int .i64 0), .sc (.int .i64 3), .sc (.int .i64 0), .sc (.int .i64 0), .sc (.int .i64 0), .sc (.int .i64 0), .sc (.int .i64 0), .sc (.int .i64 0), .sc (.int .i64 0)]]
noncomputable def v16 : AV := .agg [.sc (.int .u8 1), .list false [], .list false [.sc (.int .i64 0)], .sc (.bool false), .list false [], .sc (.int .u8 1), .sc (.int .i64 10), .sc (.int .i64 0), .sc (.bool false), .sc (.int .u8 1), v0, v10, .list false [.agg [.sc (.int .u8 1), .sc (.int .i64 0), .sc (.int .i64 0), v15, .list false [], .list false [], .list false [], .list false [], .list false []], v5, v6, v7], v9]
noncomputable def v17 : AV := .agg [.sc (.int .u8 1), .sc (.int .i64 0), .sc (.int .i64 0), .list false [], .list false [], .list false [], .list false [], .list false [], .list false []]
noncomputable def v18 : AV := .agg [.sc (.int .i64 1), .list false [.agg [.sc (.int .u8 1), .sc (.int .i64 0), .sc (.int .i64 3), .sc (.int .i64 0), .sc (.int .i64 0), .sc (.int .i64 0), .sc (.int .i64 0), .sc (.int .i64 0), .sc (.int .i64 0), .sc (.int .i64 0)]]]
noncomputable def v19 : AV := .agg [.sc (.int .u8 1), .list false [], .list false [.sc (.int .i64 0)], .sc (.bool false), .list false [], .sc (.int .u8 1), .sc (.int .i64 10), .sc (.int .i64 0), .sc (.bool false), .sc (.int .u8 1), v0, v10, .list false [v17, v5, v6, v7], .list false [v18, .agg [.sc (.int .i64 1), .list false []], .agg [.sc (.int .i64 1), .list false []]]]
noncomputable def v20 : AV := .agg [.sc (.int .i64 1), .list false [.agg [.sc (.int .u8 3), .sc (.int .i64 0), .sc (.int .i64 0), .sc (.int .i64 0), .sc (.int .i64 0), .sc (.int .i64 0), .sc (.int .i64 0), .sc (.int .i64 1), .sc (.int .i64 0), .sc (.int .i64 0)]]]
noncomputable def v21 : AV := .agg [.sc (.int .u8 1), .list false [], .list false [.sc (.int .i64 0)], .sc (.bool false), .list false [], .sc (.int .u8 1), .sc (.int .i64 10), .sc (.int .i64 0), .sc (.bool false), .sc (.int .u8 1), v0, v10, v8, .list false [v20, .agg [.sc (.int .i64 1), .list false []], .agg [.sc (.int .i64 1), .list false []]]]
noncomputable def a_m0 : List AV := [.list false [.sc (.int .i64 0)]]
noncomputable def r_m0 : AV := .sc (.int .i64 1)
noncomputable def a_m1 : List AV := [.agg [.sc (.int .u8 1), .list false [], .list false [.sc (.int .i64 0)], .sc (.bool false), .list false [], .sc (.int .u8 1), .sc (.int .i64 10), .sc (.int .i64 0), .sc (.bool false), .sc (.int .u8 1), v0, .list false [v1, v2], v8, v9]]
noncomputable def r_m1 : AV := .sc (.bool true)
noncomputable def a_m2 : List AV := [v11]
noncomputable def r_m2 : AV := .list true [.sc (.int .i64 0), .sc (.int .i64 1), .sc (.int .i64 2), .sc (.int .i64 3)]
noncomputable def a_m3 : List AV := [.agg [.sc (.int .u8 1), .list false [], .list false [.sc (.int .i64 0)], .sc (.bool false), .list false [], .sc (.int .u8 1), .sc (.int .i64 10), .sc (.int .i64 0), .sc (.bool false), .sc (.int .u8 1), v0, v10, .list false [v4, v5, v6], v9]]
noncomputable def r_m3 : AV := .sc (.bool true)
noncomputable def a_m4 : List AV := [.agg [.sc (.int .u8 1), .list false [], .list false [.sc (.int .i64 0)], .sc (.bool false), .list false [], .sc (.int .u8 1), .sc (.int .i64 10), .sc (.int .i64 0), .sc (.bool false), .sc (.int .u8 1), v0, v10, v8, .list false [.agg [.sc (.int .i64 1), .list false []], .agg [.sc (.int .i64 1), .list false []]]]]
noncomputable def r_m4 : AV := .sc (.bool true)
noncomputable def a_m5 : List AV := [v12, .sc (.int .i64 (-1))]
noncomputable def r_m5 : AV := .tup [.sc (.bool false), .sc (.int .i64 8)]
noncomputable def a_m6 : List AV := [v12, .sc (.int .i64 (-1))]
noncomputable def r_m6 : AV := v13
noncomputable def a_m7 : List AV := [v12, .sc (.int .i64 (-1)), .sc (.int .i64 (-1))]
noncomputable def r_m7 : AV := v13
noncomputable def a_m8 : List AV := [v12]
noncomputable def r_m8 : AV := .sc (.bool true)
noncomputable def a_m9 : List AV := [.agg [.sc (.int .u8 1), .list false [], .list false [.sc (.int .i64 0)], .sc (.bool false), .list false [], .sc (.int .u8 1), .sc (.int .i64 10), .sc (.int .i64 0), .sc (.bool false), .sc (.int .u8 1), v0, v10, v8, .list false [.agg [.sc (.int .i64 1), .list false []], .agg [.sc (.int .i64 1), .list false [.agg [.sc (.int .u8 0), .sc (.int .i64 0), .sc (.int .i64 0), .sc (.int .i64 0), .sc (.int .i64 0), .sc (.int .i64 0), .sc (.int .i64 0), .sc (.int .i64 0), .sc (.int .i64 0), .sc (.int .i64 0)]]], .agg [.sc (.int .i64 1), .list false []]]]]
noncomputable def r_m9 : AV := .sc (.int .i64 8)
noncomputable def a_m10 : List AV := [v11, .sc (.int .i64 0)]
noncomputable def r_m10 : AV := .list false []
noncomputable def a_m11 : List AV := [v11, .sc (.int .i64 0)]
noncomputable def r_m11 : AV := .list true [.sc (.int .i64 0)]
noncomputable def a_m12 : List AV := [v11, .sc (.int .i64 1)]
noncomputable def r_m12 : AV := .list true [.sc (.int .i64 0)]
noncomputable def a_m13 : List AV := [v11, .sc (.int .i64 1)]
noncomputable def r_m13 : AV := .list true [.sc (.int .i64 1)]
noncomputable def a_m14 : List AV := [.agg [.sc (.int .u8 1), .list false [], .list false [.sc (.int .i64 0)], .sc (.bool false), .list false [], .sc (.int .u8 1), .sc (.int .i64 10), .sc (.int .i64 0), .sc (.bool false), .sc (.int .u8 1), v0, v10, .list false [v4, v5, .agg [.sc (.int .u8 4), .sc (.int .i64 1), .sc (.int .i64 0), .list false [], .list false [.sc (.int .i64 (-9223372036854775808))], .list false [], .list false [], .list false [], .list false []], v7], v9]]
noncomputable def r_m14 : AV := .sc (.int .i64 8)
noncomputable def a_m15 : List AV := [.agg [.sc (.int .u8 1), .list false [], .list false [.sc (.int .i64 0)], .sc (.bool false), .list false [], .sc (.int .u8 1), .sc (.int .i64 10), .sc (.int .i64 0), .sc (.bool false), .sc (.int .u8 1), v0, v10, .list false [v4, .agg [.sc (.int .u8 2), .sc (.int .i64 0), .sc (.int .i64 0), .list false [], .list false [], .list false [], .list false [], .list false [], .list false []], v6, v7], v9]]
noncomputable def r_m15 : AV := .sc (.int .i64 8)
noncomputable def a_m16 : List AV := [v11, .sc (.int .i64 2)]
noncomputable def r_m16 : AV := .list true [.sc (.int .i64 1)]
noncomputable def a_m17 : List AV := [v11, .sc (.int .i64 2)]
noncomputable def r_m17 : AV := .list true [.sc (.int .i64 2)]
noncomputable def a_m18 : List AV := [.agg [.sc (.int .u8 1), .list false [], .list false [.sc (.int .i64 0)], .sc (.bool false), .list false [], .sc (.int .u8 1), .sc (.int .i64 10), .sc (.int .i64 0), .sc (.bool false), .sc (.int .u8 1), v0, v10, .list false [v4, v5, .agg [.sc (.int .u8 4), .sc (.int .i64 0), .sc (.int .i64 0), .list false [], .list false [.sc (.int .i64 0), .sc (.int .i64 0)], .list false [], .list false [], .list false [], .list false []], v7], v9]]
noncomputable def r_m18 : AV := .sc (.int .i64 8)
noncomputable def a_m19 : List AV := [.agg [.sc (.int .u8 1), .list false [], .list false [.sc (.int .i64 0)], .sc (.bool false), .list false [], .sc (.int .u8 1), .sc (.int .i64 10), .sc (.int .i64 0), .sc (.bool false), .sc (.int .u8 1), v0, v10, .list false [.agg [.sc (.int .u8 1), .sc (.int .i64 0), .sc (.int .i64 0), .list false [.agg [.sc (.int .i64 1), .sc (.int .u8 2), .sc (.int .i64 0), .sc (.int .i64 0), .sc (.int .i64 0), .sc (.int .i64 0), .sc (.int .i64 0), .sc (.int .i64 0), .sc (.int .i64 0), .sc (.int .i64 0), .sc (.int .i64 0)]], .list false [], .list false [], v3, .list false [], .list false []], v5, v6, v7], v9]]
noncomputable def r_m19 : AV := .sc (.int .i64 8)
noncomputable def a_m20 : List AV := [.agg [.sc (.int .u8 1), .list false [], .list false [.sc (.int .i64 0)], .sc (.bool false), .list false [], .sc (.int .u8 1), .sc (.int .i64 10), .sc (.int .i64 0), .sc (.bool false), .sc (.int .u8 2), v0, v10, v8, v9]]
noncomputable def r_m20 : AV := .sc (.int .i64 8)
noncomputable def a_m21 : List AV := [v11, .sc (.int .i64 3)]
noncomputable def r_m21 : AV := .list true [.sc (.int .i64 2)]
noncomputable def a_m22 : List AV := [v11, .sc (.int .i64 3)]
noncomputable def r_m22 : AV := .list false []
noncomputable def a_m23 : List AV := [v14]
noncomputable def r_m23 : AV := .sc (.int .i64 0)
noncomputable def a_m24 : List AV := [v14, .list false [.sc (.int .i64 0)]]
noncomputable def r_m24 : AV := .list true [.agg [.sc (.int .i64 1), .list false []]]
noncomputable def a_m25 : List AV := [v14, .list false [.sc (.int .i64 1)]]
noncomputable def r_m25 : AV := .list true [.agg [.sc (.int .i64 1), .list false []]]
noncomputable def a_m26 : List AV := [v14, .list false []]
noncomputable def r_m26 : AV := .list false []
noncomputable def a_m27 : List AV := [.list false []]
noncomputable def r_m27 : AV := .nils
noncomputable def a_m28 : List AV := [.list false []]
noncomputable def r_m28 : AV := .nils
noncomputable def a_m29 : List AV := [.list false []]
noncomputable def r_m29 : AV := .nils
noncomputable def a_m30 : List AV := [.list false []]
noncomputable def r_m30 : AV := .nils
noncomputable def a_m31 : List AV := [.list false []]
noncomputable def r_m31 : AV := .nils
noncomputable def a_m32 : List AV := [.list false []]
noncomputable def r_m32 : AV := .nils
noncomputable def a_m33 : List AV := [.list false []]
noncomputable def r_m33 : AV := .nils
noncomputable def a_m34 : List AV := [v14, .sc (.int .i64 0)]
noncomputable def r_m34 : AV := .tup [v16, .sc (.bool true)]
noncomputable def a_m35 : List AV := [v16]
noncomputable def r_m35 : AV := .sc (.int .i64 0)
noncomputable def a_m36 : List AV := [v16, .list false []]
noncomputable def r_m36 : AV := .list false []
noncomputable def a_m37 : List AV := [v16, .list false [.sc (.int .i64 0)]]
noncomputable def r_m37 : AV := .list true [.agg [.sc (.int .i64 1), .list false []]]
noncomputable def a_m38 : List AV := [v16, .sc (.int .i64 0)]
noncomputable def r_m38 : AV := .tup [v19, .sc (.bool true)]
noncomputable def a_m39 : List AV := [v19]
noncomputable def r_m39 : AV := .sc (.int .i64 0)
noncomputable def a_m40 : List AV := [v19, .list false []]
noncomputable def r_m40 : AV := .list false []
noncomputable def a_m41 : List AV := [v19, .list false [.sc (.int .i64 0)]]
noncomputable def r_m41 : AV := .list true [v18]
noncomputable def a_m42 : List AV := [v19, .list false [.sc (.int .i64 1)]]
noncomputable def r_m42 : AV := .list true [.agg [.sc (.int .i64 1), .list false []]]
noncomputable def a_m43 : List AV := [v19, .sc (.int .i64 1), .sc (.int .i64 0), .sc (.int .i64 (-1))]
noncomputable def r_m43 : AV := .tup [.agg [.sc (.int .u8 1), .list false [], .list false [.sc (.int .i64 0)], .sc (.bool false), .list false [], .sc (.int .u8 1), .sc (.int .i64 10), .sc (.int .i64 0), .sc (.bool false), .sc (.int .u8 1), v0, v10, .list false [v17, .agg [.sc (.int .u8 2), .sc (.int .i64 0), .sc (.int .i64 0), v15, .list false [.sc (.int .i64 (-9223372036854775808))], .list false [], .list false [], .list false [], .list false []], v6, v7], v9], .sc (.int .i64 0)]
noncomputable def a_m44 : List AV := [v21]
noncomputable def r_m44 : AV := .sc (.int .i64 0)
noncomputable def a_m45 : List AV := [v21, .list false [.sc (.int .i64 0)]]
noncomputable def r_m45 : AV := .list true [v20]
noncomputable def a_m46 : List AV := [v21, .list false [.sc (.int .i64 1)]]
noncomputable def r_m46 : AV := .list true [.agg [.sc (.int .i64 1), .list false []]]
noncomputable def a_m47 : List AV := [v21, .sc (.int .i64 1)]
noncomputable def r_m47 : AV := v13
noncomputable def a_m48 : List AV := [v14, .list false [.sc (.int .i64 2)]]
noncomputable def r_m48 : AV := .list true [.agg [.sc (.int .i64 1), .list false []]]
noncomputable def a_m49 : List AV := [v14, .sc (.int .i64 0)]
noncomputable def r_m49 : AV := .sc (.bool true)
noncomputable def a_m50 : List AV := [v19, .list false [.sc (.int .i64 2)]]
noncomputable def r_m50 : AV := .list true [.agg [.sc (.int .i64 1), .list false []]]
noncomputable def a_m51 : List AV := [v19, .sc (.int .i64 1)]
noncomputable def r_m51 : AV := .sc (.bool true)
noncomputable def a_m52 : List AV := []
noncomputable def r_m52 : AV := .sc (.bool true)
theorem fn94 : FnOk Tryz.prog 94 Tryz.f94 (bodyOf Tryz.f94) := ⟨Tryz.func94, by kernel_rfl, rfl⟩
theorem cloneNil94 : Pure Tryz.prog 94 [.list false []] .nils := by
  refine Pure.sym tyTab_ok fn94 (nt := 8) rfl rfl ?_ okM
  refine runT [] ?_
  refine SemK.eqNil tyTab_ok (may := true) rfl rfl rfl rfl rfl rfl trivial (by simp [nilMay]) fun b2 qb2 => ?_
  cases b2
  · exact runK [.br false, .ne false] (k := fi)
  · exact runK [.br true] (k := fi)
theorem fn99 : FnOk Tryz.prog 99 Tryz.f99 (bodyOf Tryz.f99) := ⟨Tryz.func99, by kernel_rfl, rfl⟩
theorem cloneNil99 : Pure Tryz.prog 99 [.list false []] .nils := by
  refine Pure.sym tyTab_ok fn99 (nt := 8) rfl rfl ?_ okM
  refine runT [] ?_
  refine SemK.eqNil tyTab_ok (may := true) rfl rfl rfl rfl rfl rfl trivial (by simp [nilMay]) fun b2 qb2 => ?_
  cases b2
  · exact runK [.br false, .ne false] (k := fi)
  · exact runK [.br true] (k := fi)
theorem fn113 : FnOk Tryz.prog 113 Tryz.f113 (bodyOf Tryz.f113) := ⟨Tryz.func113, by kernel_rfl, rfl⟩
theorem cloneNil113 : Pure Tryz.prog 113 [.list false []] .nils := by
  refine Pure.sym tyTab_ok fn113 (nt := 8) rfl rfl ?_ okM
  refine runT [] ?_
  refine SemK.eqNil tyTab_ok (may := true) rfl rfl rfl rfl rfl rfl trivial (by simp [nilMay]) fun b2 qb2 => ?_
  cases b2
  · exact runK [.br false, .ne false] (k := fi)
  · exact runK [.br true] (k := fi)
theorem fn114 : FnOk Tryz.prog 114 Tryz.f114 (bodyOf Tryz.f114) := ⟨Tryz.func114, by kernel_rfl, rfl⟩
theorem cloneNil114 : Pure Tryz.prog 114 [.list false []] .nils := by
  refine Pure.sym tyTab_ok fn114 (nt := 8) rfl rfl ?_ okM
  refine runT [] ?_
  refine SemK.eqNil tyTab_ok (may := true) rfl rfl rfl rfl rfl rfl trivial (by simp [nilMay]) fun b2 qb2 => ?_
  cases b2
  · exact runK [.br false, .ne false] (k := fi)
  · exact runK [.br true] (k := fi)
theorem fn115 : FnOk Tryz.prog 115 Tryz.f115 (bodyOf Tryz.f115) := ⟨Tryz.func115, by kernel_rfl, rfl⟩
theorem cloneNil115 : Pure Tryz.prog 115 [.list false []] .nils := by
  refine Pure.sym tyTab_ok fn115 (nt := 8) rfl rfl ?_ okM
  refine runT [] ?_
  refine SemK.eqNil tyTab_ok (may := true) rfl rfl rfl rfl rfl rfl trivial (by simp [nilMay]) fun b2 qb2 => ?_
  cases b2
  · exact runK [.br false, .ne false] (k := fi)
  · exact runK [.br true] (k := fi)
theorem fn116 : FnOk Tryz.prog 116 Tryz.f116 (bodyOf Tryz.f116) := ⟨Tryz.func116, by kernel_rfl, rfl⟩
theorem cloneNil116 : Pure Tryz.prog 116 [.list false []] .nils := by
  refine Pure.sym tyTab_ok fn116 (nt := 8) rfl rfl ?_ okM
  refine runT [] ?_
  refine SemK.eqNil tyTab_ok (may := true) rfl rfl rfl rfl rfl rfl trivial (by simp [nilMay]) fun b2 qb2 => ?_
  cases b2
  · exact runK [.br false, .ne false] (k := fi)
  · exact runK [.br true] (k := fi)
theorem fn117 : FnOk Tryz.prog 117 Tryz.f117 (bodyOf Tryz.f117) := ⟨Tryz.func117, by kernel_rfl, rfl⟩
theorem cloneNil117 : Pure Tryz.prog 117 [.list false []] .nils := by
  refine Pure.sym tyTab_ok fn117 (nt := 8) rfl rfl ?_ okM
  refine runT [] ?_
  refine SemK.eqNil tyTab_ok (may := true) rfl rfl rfl rfl rfl rfl trivial (by simp [nilMay]) fun b2 qb2 => ?_
  cases b2
  · exact runK [.br false, .ne false] (k := fi)
  · exact runK [.br true] (k := fi)
theorem kvInt_set (z : Int) : ∀ (ks : List Int), setV (.int .i64 z) (.bool true) (ks.map kvInt) = (distAdd ks z).map kvInt := by
  intro ks
  unfold distAdd
  induction ks with
  | nil => simp [setV, kvInt]
  | cons a r ih =>
    simp only [List.map_cons, kvInt, setV]
    by_cases h : a = z
    · subst h; simp [kvInt]
    · have h1 : ¬ (Value.int .i64 a = Value.int .i64 z) := by simpa using h
      rw [if_neg h1]
      have ih' : setV (.int .i64 z) (.bool true) (r.map kvInt) = (if z ∈ r then r else r ++ [z]).map kvInt := ih
      rw [ih']
      have h2 : ¬ z = a := fun e => h e.symm
      by_cases hz : z ∈ r <;> simp [hz, h2, kvInt]
theorem wkA {P : Prop} (h : P := by
  first
    | exact trivial
    | rfl
    | exact .sc
    | exact .list
    | exact .nils
    | assumption
    | (refine congrArg (fun z => AV.sc (Value.int IntKind.i64 z)) ?_; first | rfl | omega | assumption | (simp; done) | (simp; omega))
    | (simp [AV.ren, *]; done)) : P := h
theorem fn182 : FnOk Tryz.prog 182 Tryz.f182 (bodyOf Tryz.f182) := ⟨Tryz.func182, by kernel_rfl, rfl⟩
theorem tmD : TyOk Tryz.prog tyTab.find ∧ Tryz.prog.follows .mixedOrders = true := ⟨tyTab_ok, by kernel_rfl⟩
theorem clauses_distinct_int_L0 {Q : AExit → St → Mu → Prop} {μ : Mu} (b : Nat) (l : List Int) (hl : List.length l ≤ 140737488355328) : ∀ (xs : List Int) (k : Nat) (hx : l.drop k = xs) (ks : List Int)
    (C : SemK Tryz.prog 18 0 Q (.exit (.exit 0)) [] ⟨fr [(3, .sc (.map (some b)))], hp [], 0⟩ ((b, (distinctL ks xs).map kvInt) :: μ)),
    SemK Tryz.prog 18 0 Q (.loop (loopB 0 (bodyOf Tryz.f182))) [] ⟨fr [(3, .sc (.map (some b))), (7, AV.list false (List.map (aI .i64) l)), (8, aI .i64 (List.length l : Int)), (9, aI .i64 (k : Int))], hp [], 0⟩ ((b, ks.map kvInt) :: μ) := by
  intro xs
  induction xs with
  | nil =>
    intro k hx ks C
    have hk := drop_nil hx
    have hc : decide ((k : Int) < (List.length l : Int)) = false := decide_eq_false (by omega)
    refine SemK.round ?_
    refine run_to tmD 4000 [.br false] rfl (by repeat' first | refine And.intro ?_ ?_ | exact hc | exact oblA) ?_
    exact SemK.weakTo [] C rfl (by repeat' first | refine And.intro ?_ ?_ | exact wkA) trivial
  | cons x xs ih =>
    intro k hx ks C
    obtain ⟨hk, hg, hx1⟩ := drop_cons hx
    have hc : decide ((k : Int) < (List.length l : Int)) = true := decide_eq_true (by omega)
    refine SemK.round ?_
    refine run_to tmD 4000 [.br true, .el (aI .i64 x)] rfl (by repeat' first | refine And.intro ?_ ?_ | exact hc | exact ixm hg | exact oblA) ?_
    refine SemK.mapUpd (d := .int .i64) tyTab_ok rfl rfl rfl rfl rfl Tryz.underlying2 rfl rfl rfl trivial trivial trivial rfl (by
      intro p hp; obtain ⟨z, _, rfl⟩ := List.mem_map.1 hp; rfl) ?_
    rw [kvInt_set]
    refine run_to tmD 4000 [] rfl (by repeat' first | refine And.intro ?_ ?_ | exact oblA) ?_
    exact SemK.weakTo [] (ih (k + 1) hx1 (distAdd ks x) C) rfl (by repeat' first | refine And.intro ?_ ?_ | exact wkA) trivial
theorem clauses_distinct_int_ok (a0 : (List Int)) (r : Int) (h : clauses_distinct_int a0 = some r) : Pure Tryz.prog 182 [(AV.list false (List.map (aI .i64) a0))] (aI .i64 r) := by
  refine Pure.sym tyTab_ok fn182 (nt := 18) rfl rfl ?_ (allCons .list allNil)
  unfold clauses_distinct_int at h
  refine bindE h ?_
  clear h; intro u h1 h
  have q1 := lenOk_le h1
  obtain rfl := Option.some.inj h
  refine run_to tmD 4000 [] rfl (by repeat' first | refine And.intro ?_ ?_ | exact oblA) ?_
  refine SemK.mapNew rfl rfl rfl fun b => ?_
  refine run_to tmD 4000 [] rfl (by repeat' first | refine And.intro ?_ ?_ | exact oblA) ?_
  refine SemK.weakTo [] (SemK.cut (clauses_distinct_int_L0 b a0 q1 a0 0 (by simp) [] ?_)) rfl (by repeat' first | refine And.intro ?_ ?_ | exact wkA) trivial
  refine SemK.glue ?_
  refine run_to tmD 4000 [] rfl (by repeat' first | refine And.intro ?_ ?_ | exact oblA) ?_
  refine SemK.mapLen tyTab_ok rfl rfl rfl rfl rfl rfl trivial ?_
  rw [List.length_map]
  refine run_to tmD 4000 [] rfl (by repeat' first | refine And.intro ?_ ?_ | exact oblA) ?_
  refine fin_ret rfl ?_
  exact .sc
theorem distLit182 (l : List Int) (h : List.length l ≤ 1000) : Pure Tryz.prog 182 [.list false (l.map (aI .i64))] (aI .i64 ((distinctL [] l).length : Int)) := clauses_distinct_int_ok l _ (by unfold clauses_distinct_int lenOk; rw [if_pos (by omega)]; rfl)
theorem m0 : Pure Tryz.prog 182 a_m0 r_m0 := distLit182 [0] (by simp)
theorem m2 : Pure Tryz.prog 80 a_m2 r_m2 := graph_order_ok.ok ⟨[⟨(1), (0)⟩, ⟨(2), (0)⟩, ⟨(4), (0)⟩, ⟨(6), (0)⟩], [⟨(0), (0), (1), (0), (1)⟩, ⟨(1), (0), (2), (0), (1)⟩, ⟨(2), (0), (3), (0), (1)⟩]⟩ [0, 1, 2, 3] (by kernel_rfl)
theorem m27 : Pure Tryz.prog 113 a_m27 r_m27 := cloneNil113
theorem m28 : Pure Tryz.prog 114 a_m28 r_m28 := cloneNil114
theorem m29 : Pure Tryz.prog 115 a_m29 r_m29 := cloneNil115
theorem m30 : Pure Tryz.prog 99 a_m30 r_m30 := cloneNil99
theorem m31 : Pure Tryz.prog 116 a_m31 r_m31 := cloneNil116
theorem m32 : Pure Tryz.prog 117 a_m32 r_m32 := cloneNil117
theorem m33 : Pure Tryz.prog 94 a_m33 r_m33 := cloneNil94
noncomputable def M0 : Tab Memo := (.node 114 [(a_m28, r_m28)] (.node 99 [(a_m30, r_m30)] (.node 94 [(a_m33, r_m33)] (.node 80 [(a_m2, r_m2)] .leaf .leaf) .leaf) (.node 113 [(a_m27, r_m27)] .leaf .leaf)) (.node 117 [(a_m32, r_m32)] (.node 116 [(a_m31, r_m31)] (.node 115 [(a_m29, r_m29)] .leaf .leaf) .leaf) (.node 182 [(a_m0, r_m0)] .leaf .leaf)))
theorem M0_ok : MemoOk Tryz.prog M0.find := memoOk_tab ⟨⟨m28, trivial⟩, ⟨⟨m30, trivial⟩, ⟨⟨m33, trivial⟩, ⟨⟨m2, trivial⟩, trivial, trivial⟩, trivial⟩, ⟨⟨m27, trivial⟩, trivial, trivial⟩⟩, ⟨⟨m32, trivial⟩, ⟨⟨m31, trivial⟩, ⟨⟨m29, trivial⟩, trivial, trivial⟩, trivial⟩, ⟨⟨m0, trivial⟩, trivial, trivial⟩⟩⟩
theorem m1 : Pure Tryz.prog 18 a_m1 r_m1 := run_pureW mixed_ok X_ok tyTab_ok fnTab_ok M0_ok (fuel := 3000) (d := 200) (by kernel_rfl)
theorem m3 : Pure Tryz.prog 18 a_m3 r_m3 := run_pureW mixed_ok X_ok tyTab_ok fnTab_ok M0_ok (fuel := 3000) (d := 200) (by kernel_rfl)
theorem m4 : Pure Tryz.prog 18 a_m4 r_m4 := run_pureW mixed_ok X_ok tyTab_ok fnTab_ok M0_ok (fuel := 3000) (d := 200) (by kernel_rfl)
theorem m5 : Pure Tryz.prog 13 a_m5 r_m5 := run_pureW mixed_ok X_ok tyTab_ok fnTab_ok M0_ok (fuel := 3000) (d := 200) (by kernel_rfl)
theorem m6 : Pure Tryz.prog 11 a_m6 r_m6 := run_pureW mixed_ok X_ok tyTab_ok fnTab_ok M0_ok (fuel := 3000) (d := 200) (by kernel_rfl)
theorem m7 : Pure Tryz.prog 8 a_m7 r_m7 := run_pureW mixed_ok X_ok tyTab_ok fnTab_ok M0_ok (fuel := 3000) (d := 200) (by kernel_rfl)
theorem m9 : Pure Tryz.prog 15 a_m9 r_m9 := run_pureW mixed_ok X_ok tyTab_ok fnTab_ok M0_ok (fuel := 3000) (d := 200) (by kernel_rfl)
theorem m10 : Pure Tryz.prog 26 a_m10 r_m10 := run_pureW mixed_ok X_ok tyTab_ok fnTab_ok M0_ok (fuel := 3000) (d := 200) (by kernel_rfl)
theorem m11 : Pure Tryz.prog 56 a_m11 r_m11 := run_pureW mixed_ok X_ok tyTab_ok fnTab_ok M0_ok (fuel := 3000) (d := 200) (by kernel_rfl)
theorem m12 : Pure Tryz.prog 26 a_m12 r_m12 := run_pureW mixed_ok X_ok tyTab_ok fnTab_ok M0_ok (fuel := 3000) (d := 200) (by kernel_rfl)
theorem m13 : Pure Tryz.prog 56 a_m13 r_m13 := run_pureW mixed_ok X_ok tyTab_ok fnTab_ok M0_ok (fuel := 3000) (d := 200) (by kernel_rfl)
theorem m16 : Pure Tryz.prog 26 a_m16 r_m16 := run_pureW mixed_ok X_ok tyTab_ok fnTab_ok M0_ok (fuel := 3000) (d := 200) (by kernel_rfl)
theorem m17 : Pure Tryz.prog 56 a_m17 r_m17 := run_pureW mixed_ok X_ok tyTab_ok fnTab_ok M0_ok (fuel := 3000) (d := 200) (by kernel_rfl)
theorem m21 : Pure Tryz.prog 26 a_m21 r_m21 := run_pureW mixed_ok X_ok tyTab_ok fnTab_ok M0_ok (fuel := 3000) (d := 200) (by kernel_rfl)
theorem m22 : Pure Tryz.prog 56 a_m22 r_m22 := run_pureW mixed_ok X_ok tyTab_ok fnTab_ok M0_ok (fuel := 3000) (d := 200) (by kernel_rfl)
theorem m24 : Pure Tryz.prog 38 a_m24 r_m24 := run_pureW mixed_ok X_ok tyTab_ok fnTab_ok M0_ok (fuel := 3000) (d := 200) (by kernel_rfl)
theorem m25 : Pure Tryz.prog 38 a_m25 r_m25 := run_pureW mixed_ok X_ok tyTab_ok fnTab_ok M0_ok (fuel := 3000) (d := 200) (by kernel_rfl)
theorem m26 : Pure Tryz.prog 38 a_m26 r_m26 := run_pureW mixed_ok X_ok tyTab_ok fnTab_ok M0_ok (fuel := 3000) (d := 200) (by kernel_rfl)
theorem m34 : Pure Tryz.prog 28 a_m34 r_m34 := run_pureW mixed_ok X_ok tyTab_ok fnTab_ok M0_ok (fuel := 3000) (d := 200) (by kernel_rfl)
theorem m36 : Pure Tryz.prog 38 a_m36 r_m36 := run_pureW mixed_ok X_ok tyTab_ok fnTab_ok M0_ok (fuel := 3000) (d := 200) (by kernel_rfl)
theorem m37 : Pure Tryz.prog 38 a_m37 r_m37 := run_pureW mixed_ok X_ok tyTab_ok fnTab_ok M0_ok (fuel := 3000) (d := 200) (by kernel_rfl)
theorem m40 : Pure Tryz.prog 38 a_m40 r_m40 := run_pureW mixed_ok X_ok tyTab_ok fnTab_ok M0_ok (fuel := 3000) (d := 200) (by kernel_rfl)
theorem m41 : Pure Tryz.prog 38 a_m41 r_m41 := run_pureW mixed_ok X_ok tyTab_ok fnTab_ok M0_ok (fuel := 3000) (d := 200) (by kernel_rfl)
theorem m42 : Pure Tryz.prog 38 a_m42 r_m42 := run_pureW mixed_ok X_ok tyTab_ok fnTab_ok M0_ok (fuel := 3000) (d := 200) (by kernel_rfl)
theorem m45 : Pure Tryz.prog 38 a_m45 r_m45 := run_pureW mixed_ok X_ok tyTab_ok fnTab_ok M0_ok (fuel := 3000) (d := 200) (by kernel_rfl)
theorem m46 : Pure Tryz.prog 38 a_m46 r_m46 := run_pureW mixed_ok X_ok tyTab_ok fnTab_ok M0_ok (fuel := 3000) (d := 200) (by kernel_rfl)
theorem m48 : Pure Tryz.prog 38 a_m48 r_m48 := run_pureW mixed_ok X_ok tyTab_ok fnTab_ok M0_ok (fuel := 3000) (d := 200) (by kernel_rfl)
theorem m50 : Pure Tryz.prog 38 a_m50 r_m50 := run_pureW mixed_ok X_ok tyTab_ok fnTab_ok M0_ok (fuel := 3000) (d := 200) (by kernel_rfl)
noncomputable def M1 : Tab Memo := (.node 80 [(a_m2, r_m2)] (.node 18 [(a_m1, r_m1), (a_m3, r_m3), (a_m4, r_m4)] (.node 13 [(a_m5, r_m5)] (.node 11 [(a_m6, r_m6)] (.node 8 [(a_m7, r_m7)] .leaf .leaf) .leaf) (.node 15 [(a_m9, r_m9)] .leaf .leaf)) (.node 38 [(a_m24, r_m24), (a_m25, r_m25), (a_m26, r_m26), (a_m36, r_m36), (a_m37, r_m37), (a_m40, r_m40), (a_m41, r_m41), (a_m42, r_m42), (a_m45, r_m45), (a_m46, r_m46), (a_m48, r_m48), (a_m50, r_m50)] (.node 28 [(a_m34, r_m34)] (.node 26 [(a_m10, r_m10), (a_m12, r_m12), (a_m16, r_m16), (a_m21, r_m21)] .leaf .leaf) .leaf) (.node 56 [(a_m11, r_m11), (a_m13, r_m13), (a_m17, r_m17), (a_m22, r_m22)] .leaf .leaf))) (.node 115 [(a_m29, r_m29)] (.node 113 [(a_m27, r_m27)] (.node 99 [(a_m30, r_m30)] (.node 94 [(a_m33, r_m33)] .leaf .leaf) .leaf) (.node 114 [(a_m28, r_m28)] .leaf .leaf)) (.node 117 [(a_m32, r_m32)] (.node 116 [(a_m31, r_m31)] .leaf .leaf) (.node 182 [(a_m0, r_m0)] .leaf .leaf))))
theorem M1_ok : MemoOk Tryz.prog M1.find := memoOk_tab ⟨⟨m2, trivial⟩, ⟨⟨m1, m3, m4, trivial⟩, ⟨⟨m5, trivial⟩, ⟨⟨m6, trivial⟩, ⟨⟨m7, trivial⟩, trivial, trivial⟩, trivial⟩, ⟨⟨m9, trivial⟩, trivial, trivial⟩⟩, ⟨⟨m24, m25, m26, m36, m37, m40, m41, m42, m45, m46, m48, m50, trivial⟩, ⟨⟨m34, trivial⟩, ⟨⟨m10, m12, m16, m21, trivial⟩, trivial, trivial⟩, trivial⟩, ⟨⟨m11, m13, m17, m22, trivial⟩, trivial, trivial⟩⟩⟩, ⟨⟨m29, trivial⟩, ⟨⟨m27, trivial⟩, ⟨⟨m30, trivial⟩, ⟨⟨m33, trivial⟩, trivial, trivial⟩, trivial⟩, ⟨⟨m28, trivial⟩, trivial, trivial⟩⟩, ⟨⟨m32, trivial⟩, ⟨⟨m31, trivial⟩, trivial, trivial⟩, ⟨⟨m0, trivial⟩, trivial, trivial⟩⟩⟩⟩
theorem m8 : Pure Tryz.prog 18 a_m8 r_m8 := run_pureW mixed_ok X_ok tyTab_ok fnTab_ok M1_ok (fuel := 3000) (d := 200) (by kernel_rfl)
theorem m14 : Pure Tryz.prog 15 a_m14 r_m14 := run_pureW mixed_ok X_ok tyTab_ok fnTab_ok M1_ok (fuel := 3000) (d := 200) (by kernel_rfl)
theorem m15 : Pure Tryz.prog 15 a_m15 r_m15 := run_pureW mixed_ok X_ok tyTab_ok fnTab_ok M1_ok (fuel := 3000) (d := 200) (by kernel_rfl)
theorem m18 : Pure Tryz.prog 15 a_m18 r_m18 := run_pureW mixed_ok X_ok tyTab_ok fnTab_ok M1_ok (fuel := 3000) (d := 200) (by kernel_rfl)
theorem m19 : Pure Tryz.prog 15 a_m19 r_m19 := run_pureW mixed_ok X_ok tyTab_ok fnTab_ok M1_ok (fuel := 3000) (d := 200) (by kernel_rfl)
theorem m20 : Pure Tryz.prog 15 a_m20 r_m20 := run_pureW mixed_ok X_ok tyTab_ok fnTab_ok M1_ok (fuel := 3000) (d := 200) (by kernel_rfl)
theorem m23 : Pure Tryz.prog 15 a_m23 r_m23 := run_pureW mixed_ok X_ok tyTab_ok fnTab_ok M1_ok (fuel := 3000) (d := 200) (by kernel_rfl)
theorem m35 : Pure Tryz.prog 15 a_m35 r_m35 := run_pureW mixed_ok X_ok tyTab_ok fnTab_ok M1_ok (fuel := 3000) (d := 200) (by kernel_rfl)
theorem m38 : Pure Tryz.prog 28 a_m38 r_m38 := run_pureW mixed_ok X_ok tyTab_ok fnTab_ok M1_ok (fuel := 3000) (d := 200) (by kernel_rfl)
theorem m39 : Pure Tryz.prog 15 a_m39 r_m39 := run_pureW mixed_ok X_ok tyTab_ok fnTab_ok M1_ok (fuel := 3000) (d := 200) (by kernel_rfl)
theorem m43 : Pure Tryz.prog 29 a_m43 r_m43 := run_pureW mixed_ok X_ok tyTab_ok fnTab_ok M1_ok (fuel := 3000) (d := 200) (by kernel_rfl)
theorem m44 : Pure Tryz.prog 15 a_m44 r_m44 := run_pureW mixed_ok X_ok tyTab_ok fnTab_ok M1_ok (fuel := 3000) (d := 200) (by kernel_rfl)
noncomputable def M2 : Tab Memo := (.node 56 [(a_m11, r_m11), (a_m13, r_m13), (a_m17, r_m17), (a_m22, r_m22)] (.node 18 [(a_m1, r_m1), (a_m3, r_m3), (a_m4, r_m4), (a_m8, r_m8)] (.node 13 [(a_m5, r_m5)] (.node 11 [(a_m6, r_m6)] (.node 8 [(a_m7, r_m7)] .leaf .leaf) .leaf) (.node 15 [(a_m9, r_m9), (a_m14, r_m14), (a_m15, r_m15), (a_m18, r_m18), (a_m19, r_m19), (a_m20, r_m20), (a_m23, r_m23), (a_m35, r_m35), (a_m39, r_m39), (a_m44, r_m44)] .leaf .leaf)) (.node 29 [(a_m43, r_m43)] (.node 28 [(a_m34, r_m34), (a_m38, r_m38)] (.node 26 [(a_m10, r_m10), (a_m12, r_m12), (a_m16, r_m16), (a_m21, r_m21)] .leaf .leaf) .leaf) (.node 38 [(a_m24, r_m24), (a_m25, r_m25), (a_m26, r_m26), (a_m36, r_m36), (a_m37, r_m37), (a_m40, r_m40), (a_m41, r_m41), (a_m42, r_m42), (a_m45, r_m45), (a_m46, r_m46), (a_m48, r_m48), (a_m50, r_m50)] .leaf .leaf))) (.node 114 [(a_m28, r_m28)] (.node 99 [(a_m30, r_m30)] (.node 94 [(a_m33, r_m33)] (.node 80 [(a_m2, r_m2)] .leaf .leaf) .leaf) (.node 113 [(a_m27, r_m27)] .leaf .leaf)) (.node 117 [(a_m32, r_m32)] (.node 116 [(a_m31, r_m31)] (.node 115 [(a_m29, r_m29)] .leaf .leaf) .leaf) (.node 182 [(a_m0, r_m0)] .leaf .leaf))))
theorem M2_ok : MemoOk Tryz.prog M2.find := memoOk_tab ⟨⟨m11, m13, m17, m22, trivial⟩, ⟨⟨m1, m3, m4, m8, trivial⟩, ⟨⟨m5, trivial⟩, ⟨⟨m6, trivial⟩, ⟨⟨m7, trivial⟩, trivial, trivial⟩, trivial⟩, ⟨⟨m9, m14, m15, m18, m19, m20, m23, m35, m39, m44, trivial⟩, trivial, trivial⟩⟩, ⟨⟨m43, trivial⟩, ⟨⟨m34, m38, trivial⟩, ⟨⟨m10, m12, m16, m21, trivial⟩, trivial, trivial⟩, trivial⟩, ⟨⟨m24, m25, m26, m36, m37, m40, m41, m42, m45, m46, m48, m50, trivial⟩, trivial, trivial⟩⟩⟩, ⟨⟨m28, trivial⟩, ⟨⟨m30, trivial⟩, ⟨⟨m33, trivial⟩, ⟨⟨m2, trivial⟩, trivial, trivial⟩, trivial⟩, ⟨⟨m27, trivial⟩, trivial, trivial⟩⟩, ⟨⟨m32, trivial⟩, ⟨⟨m31, trivial⟩, ⟨⟨m29, trivial⟩, trivial, trivial⟩, trivial⟩, ⟨⟨m0, trivial⟩, trivial, trivial⟩⟩⟩⟩
theorem m47 : Pure Tryz.prog 11 a_m47 r_m47 := run_pureW mixed_ok X_ok tyTab_ok fnTab_ok M2_ok (fuel := 3000) (d := 200) (by kernel_rfl)
theorem m49 : Pure Tryz.prog 49 a_m49 r_m49 := run_pureW mixed_ok X_ok tyTab_ok fnTab_ok M2_ok (fuel := 3000) (d := 200) (by kernel_rfl)
theorem m51 : Pure Tryz.prog 49 a_m51 r_m51 := run_pureW mixed_ok X_ok tyTab_ok fnTab_ok M2_ok (fuel := 3000) (d := 200) (by kernel_rfl)
noncomputable def M3 : Tab Memo := (.node 56 [(a_m11, r_m11), (a_m13, r_m13), (a_m17, r_m17), (a_m22, r_m22)] (.node 26 [(a_m10, r_m10), (a_m12, r_m12), (a_m16, r_m16), (a_m21, r_m21)] (.node 13 [(a_m5, r_m5)] (.node 11 [(a_m6, r_m6), (a_m47, r_m47)] (.node 8 [(a_m7, r_m7)] .leaf .leaf) .leaf) (.node 18 [(a_m1, r_m1), (a_m3, r_m3), (a_m4, r_m4), (a_m8, r_m8)] (.node 15 [(a_m9, r_m9), (a_m14, r_m14), (a_m15, r_m15), (a_m18, r_m18), (a_m19, r_m19), (a_m20, r_m20), (a_m23, r_m23), (a_m35, r_m35), (a_m39, r_m39), (a_m44, r_m44)] .leaf .leaf) .leaf)) (.node 38 [(a_m24, r_m24), (a_m25, r_m25), (a_m26, r_m26), (a_m36, r_m36), (a_m37, r_m37), (a_m40, r_m40), (a_m41, r_m41), (a_m42, r_m42), (a_m45, r_m45), (a_m46, r_m46), (a_m48, r_m48), (a_m50, r_m50)] (.node 29 [(a_m43, r_m43)] (.node 28 [(a_m34, r_m34), (a_m38, r_m38)] .leaf .leaf) .leaf) (.node 49 [(a_m49, r_m49), (a_m51, r_m51)] .leaf .leaf))) (.node 114 [(a_m28, r_m28)] (.node 99 [(a_m30, r_m30)] (.node 94 [(a_m33, r_m33)] (.node 80 [(a_m2, r_m2)] .leaf .leaf) .leaf) (.node 113 [(a_m27, r_m27)] .leaf .leaf)) (.node 117 [(a_m32, r_m32)] (.node 116 [(a_m31, r_m31)] (.node 115 [(a_m29, r_m29)] .leaf .leaf) .leaf) (.node 182 [(a_m0, r_m0)] .leaf .leaf))))
theorem M3_ok : MemoOk Tryz.prog M3.find := memoOk_tab ⟨⟨m11, m13, m17, m22, trivial⟩, ⟨⟨m10, m12, m16, m21, trivial⟩, ⟨⟨m5, trivial⟩, ⟨⟨m6, m47, trivial⟩, ⟨⟨m7, trivial⟩, trivial, trivial⟩, trivial⟩, ⟨⟨m1, m3, m4, m8, trivial⟩, ⟨⟨m9, m14, m15, m18, m19, m20, m23, m35, m39, m44, trivial⟩, trivial, trivial⟩, trivial⟩⟩, ⟨⟨m24, m25, m26, m36, m37, m40, m41, m42, m45, m46, m48, m50, trivial⟩, ⟨⟨m43, trivial⟩, ⟨⟨m34, m38, trivial⟩, trivial, trivial⟩, trivial⟩, ⟨⟨m49, m51, trivial⟩, trivial, trivial⟩⟩⟩, ⟨⟨m28, trivial⟩, ⟨⟨m30, trivial⟩, ⟨⟨m33, trivial⟩, ⟨⟨m2, trivial⟩, trivial, trivial⟩, trivial⟩, ⟨⟨m27, trivial⟩, trivial, trivial⟩⟩, ⟨⟨m32, trivial⟩, ⟨⟨m31, trivial⟩, ⟨⟨m29, trivial⟩, trivial, trivial⟩, trivial⟩, ⟨⟨m0, trivial⟩, trivial, trivial⟩⟩⟩⟩
theorem m52 : Pure Tryz.prog 5 a_m52 r_m52 := run_pureW mixed_ok X_ok tyTab_ok fnTab_ok M3_ok (fuel := 3000) (d := 200) (by kernel_rfl)
end Go.Av.Tryz
