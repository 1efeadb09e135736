/- Printed by decomp.py: that the program computes the functions. -/
import Derived.Test.YtneciiakpbfnjaaGreatDFunJ
import Derived.Test.YtneciiakpbfnjaaGreatTabJ
import Derived.Test.YtneciiakpbfnjaaGreatAvc
import Derived.Test.YtneciiakpbfnjaaGreatInsertJ
set_option linter.all false
set_option linter.unusedVariables false
namespace Go.Av.Tryz
open Go.Proofs Go.D
set_option maxRecDepth 10000
set_option maxHeartbeats 4000000

theorem tmD : TyOk Tryz.prog tyTab.find ∧ Tryz.prog.follows .mixedOrders = true := ⟨tyTab_ok, by kernel_rfl⟩

theorem fn6 : FnOk Tryz.prog 6 Tryz.f6 (bodyOf Tryz.f6) := ⟨Tryz.func6, by kernel_rfl, rfl⟩
theorem fn8 : FnOk Tryz.prog 8 Tryz.f8 (bodyOf Tryz.f8) := ⟨Tryz.func8, by kernel_rfl, rfl⟩
theorem fn13 : FnOk Tryz.prog 13 Tryz.f13 (bodyOf Tryz.f13) := ⟨Tryz.func13, by kernel_rfl, rfl⟩
theorem fn14 : FnOk Tryz.prog 14 Tryz.f14 (bodyOf Tryz.f14) := ⟨Tryz.func14, by kernel_rfl, rfl⟩
theorem fn15 : FnOk Tryz.prog 15 Tryz.f15 (bodyOf Tryz.f15) := ⟨Tryz.func15, by kernel_rfl, rfl⟩
theorem fn17 : FnOk Tryz.prog 17 Tryz.f17 (bodyOf Tryz.f17) := ⟨Tryz.func17, by kernel_rfl, rfl⟩
theorem fn18 : FnOk Tryz.prog 18 Tryz.f18 (bodyOf Tryz.f18) := ⟨Tryz.func18, by kernel_rfl, rfl⟩
theorem fn20 : FnOk Tryz.prog 20 Tryz.f20 (bodyOf Tryz.f20) := ⟨Tryz.func20, by kernel_rfl, rfl⟩
theorem fn22 : FnOk Tryz.prog 22 Tryz.f22 (bodyOf Tryz.f22) := ⟨Tryz.func22, by kernel_rfl, rfl⟩
theorem fn25 : FnOk Tryz.prog 25 Tryz.f25 (bodyOf Tryz.f25) := ⟨Tryz.func25, by kernel_rfl, rfl⟩
theorem fn26 : FnOk Tryz.prog 26 Tryz.f26 (bodyOf Tryz.f26) := ⟨Tryz.func26, by kernel_rfl, rfl⟩
theorem fn27 : FnOk Tryz.prog 27 Tryz.f27 (bodyOf Tryz.f27) := ⟨Tryz.func27, by kernel_rfl, rfl⟩
theorem fn28 : FnOk Tryz.prog 28 Tryz.f28 (bodyOf Tryz.f28) := ⟨Tryz.func28, by kernel_rfl, rfl⟩
theorem fn29 : FnOk Tryz.prog 29 Tryz.f29 (bodyOf Tryz.f29) := ⟨Tryz.func29, by kernel_rfl, rfl⟩
theorem fn33 : FnOk Tryz.prog 33 Tryz.f33 (bodyOf Tryz.f33) := ⟨Tryz.func33, by kernel_rfl, rfl⟩
theorem fn34 : FnOk Tryz.prog 34 Tryz.f34 (bodyOf Tryz.f34) := ⟨Tryz.func34, by kernel_rfl, rfl⟩
theorem fn35 : FnOk Tryz.prog 35 Tryz.f35 (bodyOf Tryz.f35) := ⟨Tryz.func35, by kernel_rfl, rfl⟩
theorem fn36 : FnOk Tryz.prog 36 Tryz.f36 (bodyOf Tryz.f36) := ⟨Tryz.func36, by kernel_rfl, rfl⟩
theorem fn37 : FnOk Tryz.prog 37 Tryz.f37 (bodyOf Tryz.f37) := ⟨Tryz.func37, by kernel_rfl, rfl⟩
theorem fn38 : FnOk Tryz.prog 38 Tryz.f38 (bodyOf Tryz.f38) := ⟨Tryz.func38, by kernel_rfl, rfl⟩
theorem fn39 : FnOk Tryz.prog 39 Tryz.f39 (bodyOf Tryz.f39) := ⟨Tryz.func39, by kernel_rfl, rfl⟩
theorem fn44 : FnOk Tryz.prog 44 Tryz.f44 (bodyOf Tryz.f44) := ⟨Tryz.func44, by kernel_rfl, rfl⟩
theorem fn46 : FnOk Tryz.prog 46 Tryz.f46 (bodyOf Tryz.f46) := ⟨Tryz.func46, by kernel_rfl, rfl⟩
theorem fn49 : FnOk Tryz.prog 49 Tryz.f49 (bodyOf Tryz.f49) := ⟨Tryz.func49, by kernel_rfl, rfl⟩
theorem fn50 : FnOk Tryz.prog 50 Tryz.f50 (bodyOf Tryz.f50) := ⟨Tryz.func50, by kernel_rfl, rfl⟩
theorem fn51 : FnOk Tryz.prog 51 Tryz.f51 (bodyOf Tryz.f51) := ⟨Tryz.func51, by kernel_rfl, rfl⟩
theorem fn52 : FnOk Tryz.prog 52 Tryz.f52 (bodyOf Tryz.f52) := ⟨Tryz.func52, by kernel_rfl, rfl⟩
theorem fn53 : FnOk Tryz.prog 53 Tryz.f53 (bodyOf Tryz.f53) := ⟨Tryz.func53, by kernel_rfl, rfl⟩
theorem fn56 : FnOk Tryz.prog 56 Tryz.f56 (bodyOf Tryz.f56) := ⟨Tryz.func56, by kernel_rfl, rfl⟩
theorem fn57 : FnOk Tryz.prog 57 Tryz.f57 (bodyOf Tryz.f57) := ⟨Tryz.func57, by kernel_rfl, rfl⟩
theorem fn60 : FnOk Tryz.prog 60 Tryz.f60 (bodyOf Tryz.f60) := ⟨Tryz.func60, by kernel_rfl, rfl⟩
theorem fn61 : FnOk Tryz.prog 61 Tryz.f61 (bodyOf Tryz.f61) := ⟨Tryz.func61, by kernel_rfl, rfl⟩
theorem fn62 : FnOk Tryz.prog 62 Tryz.f62 (bodyOf Tryz.f62) := ⟨Tryz.func62, by kernel_rfl, rfl⟩
theorem fn63 : FnOk Tryz.prog 63 Tryz.f63 (bodyOf Tryz.f63) := ⟨Tryz.func63, by kernel_rfl, rfl⟩
theorem fn64 : FnOk Tryz.prog 64 Tryz.f64 (bodyOf Tryz.f64) := ⟨Tryz.func64, by kernel_rfl, rfl⟩
theorem fn65 : FnOk Tryz.prog 65 Tryz.f65 (bodyOf Tryz.f65) := ⟨Tryz.func65, by kernel_rfl, rfl⟩
theorem fn66 : FnOk Tryz.prog 66 Tryz.f66 (bodyOf Tryz.f66) := ⟨Tryz.func66, by kernel_rfl, rfl⟩
theorem fn67 : FnOk Tryz.prog 67 Tryz.f67 (bodyOf Tryz.f67) := ⟨Tryz.func67, by kernel_rfl, rfl⟩
theorem fn68 : FnOk Tryz.prog 68 Tryz.f68 (bodyOf Tryz.f68) := ⟨Tryz.func68, by kernel_rfl, rfl⟩
theorem fn69 : FnOk Tryz.prog 69 Tryz.f69 (bodyOf Tryz.f69) := ⟨Tryz.func69, by kernel_rfl, rfl⟩
theorem fn70 : FnOk Tryz.prog 70 Tryz.f70 (bodyOf Tryz.f70) := ⟨Tryz.func70, by kernel_rfl, rfl⟩
theorem fn71 : FnOk Tryz.prog 71 Tryz.f71 (bodyOf Tryz.f71) := ⟨Tryz.func71, by kernel_rfl, rfl⟩
theorem fn81 : FnOk Tryz.prog 81 Tryz.f81 (bodyOf Tryz.f81) := ⟨Tryz.func81, by kernel_rfl, rfl⟩
theorem fn82 : FnOk Tryz.prog 82 Tryz.f82 (bodyOf Tryz.f82) := ⟨Tryz.func82, by kernel_rfl, rfl⟩
theorem fn83 : FnOk Tryz.prog 83 Tryz.f83 (bodyOf Tryz.f83) := ⟨Tryz.func83, by kernel_rfl, rfl⟩
theorem fn90 : FnOk Tryz.prog 90 Tryz.f90 (bodyOf Tryz.f90) := ⟨Tryz.func90, by kernel_rfl, rfl⟩
theorem fn92 : FnOk Tryz.prog 92 Tryz.f92 (bodyOf Tryz.f92) := ⟨Tryz.func92, by kernel_rfl, rfl⟩
theorem fn94 : FnOk Tryz.prog 94 Tryz.f94 (bodyOf Tryz.f94) := ⟨Tryz.func94, by kernel_rfl, rfl⟩
theorem fn95 : FnOk Tryz.prog 95 Tryz.f95 (bodyOf Tryz.f95) := ⟨Tryz.func95, by kernel_rfl, rfl⟩
theorem fn100 : FnOk Tryz.prog 100 Tryz.f100 (bodyOf Tryz.f100) := ⟨Tryz.func100, by kernel_rfl, rfl⟩
theorem fn101 : FnOk Tryz.prog 101 Tryz.f101 (bodyOf Tryz.f101) := ⟨Tryz.func101, by kernel_rfl, rfl⟩
theorem fn102 : FnOk Tryz.prog 102 Tryz.f102 (bodyOf Tryz.f102) := ⟨Tryz.func102, by kernel_rfl, rfl⟩
theorem fn103 : FnOk Tryz.prog 103 Tryz.f103 (bodyOf Tryz.f103) := ⟨Tryz.func103, by kernel_rfl, rfl⟩
theorem fn104 : FnOk Tryz.prog 104 Tryz.f104 (bodyOf Tryz.f104) := ⟨Tryz.func104, by kernel_rfl, rfl⟩
theorem fn105 : FnOk Tryz.prog 105 Tryz.f105 (bodyOf Tryz.f105) := ⟨Tryz.func105, by kernel_rfl, rfl⟩
theorem fn106 : FnOk Tryz.prog 106 Tryz.f106 (bodyOf Tryz.f106) := ⟨Tryz.func106, by kernel_rfl, rfl⟩
theorem fn107 : FnOk Tryz.prog 107 Tryz.f107 (bodyOf Tryz.f107) := ⟨Tryz.func107, by kernel_rfl, rfl⟩
theorem fn108 : FnOk Tryz.prog 108 Tryz.f108 (bodyOf Tryz.f108) := ⟨Tryz.func108, by kernel_rfl, rfl⟩
theorem fn109 : FnOk Tryz.prog 109 Tryz.f109 (bodyOf Tryz.f109) := ⟨Tryz.func109, by kernel_rfl, rfl⟩
theorem fn118 : FnOk Tryz.prog 118 Tryz.f118 (bodyOf Tryz.f118) := ⟨Tryz.func118, by kernel_rfl, rfl⟩
theorem fn119 : FnOk Tryz.prog 119 Tryz.f119 (bodyOf Tryz.f119) := ⟨Tryz.func119, by kernel_rfl, rfl⟩
theorem fn120 : FnOk Tryz.prog 120 Tryz.f120 (bodyOf Tryz.f120) := ⟨Tryz.func120, by kernel_rfl, rfl⟩
theorem fn124 : FnOk Tryz.prog 124 Tryz.f124 (bodyOf Tryz.f124) := ⟨Tryz.func124, by kernel_rfl, rfl⟩
theorem fn125 : FnOk Tryz.prog 125 Tryz.f125 (bodyOf Tryz.f125) := ⟨Tryz.func125, by kernel_rfl, rfl⟩
theorem fn131 : FnOk Tryz.prog 131 Tryz.f131 (bodyOf Tryz.f131) := ⟨Tryz.func131, by kernel_rfl, rfl⟩
theorem fn132 : FnOk Tryz.prog 132 Tryz.f132 (bodyOf Tryz.f132) := ⟨Tryz.func132, by kernel_rfl, rfl⟩
theorem fn133 : FnOk Tryz.prog 133 Tryz.f133 (bodyOf Tryz.f133) := ⟨Tryz.func133, by kernel_rfl, rfl⟩
theorem fn143 : FnOk Tryz.prog 143 Tryz.f143 (bodyOf Tryz.f143) := ⟨Tryz.func143, by kernel_rfl, rfl⟩
theorem fn144 : FnOk Tryz.prog 144 Tryz.f144 (bodyOf Tryz.f144) := ⟨Tryz.func144, by kernel_rfl, rfl⟩
theorem fn147 : FnOk Tryz.prog 147 Tryz.f147 (bodyOf Tryz.f147) := ⟨Tryz.func147, by kernel_rfl, rfl⟩
theorem fn154 : FnOk Tryz.prog 154 Tryz.f154 (bodyOf Tryz.f154) := ⟨Tryz.func154, by kernel_rfl, rfl⟩
theorem fn155 : FnOk Tryz.prog 155 Tryz.f155 (bodyOf Tryz.f155) := ⟨Tryz.func155, by kernel_rfl, rfl⟩
theorem fn156 : FnOk Tryz.prog 156 Tryz.f156 (bodyOf Tryz.f156) := ⟨Tryz.func156, by kernel_rfl, rfl⟩
theorem fn157 : FnOk Tryz.prog 157 Tryz.f157 (bodyOf Tryz.f157) := ⟨Tryz.func157, by kernel_rfl, rfl⟩
theorem fn158 : FnOk Tryz.prog 158 Tryz.f158 (bodyOf Tryz.f158) := ⟨Tryz.func158, by kernel_rfl, rfl⟩
theorem fn174 : FnOk Tryz.prog 174 Tryz.f174 (bodyOf Tryz.f174) := ⟨Tryz.func174, by kernel_rfl, rfl⟩
theorem fn175 : FnOk Tryz.prog 175 Tryz.f175 (bodyOf Tryz.f175) := ⟨Tryz.func175, by kernel_rfl, rfl⟩
theorem fn176 : FnOk Tryz.prog 176 Tryz.f176 (bodyOf Tryz.f176) := ⟨Tryz.func176, by kernel_rfl, rfl⟩
theorem fn187 : FnOk Tryz.prog 187 Tryz.f187 (bodyOf Tryz.f187) := ⟨Tryz.func187, by kernel_rfl, rfl⟩
theorem fn188 : FnOk Tryz.prog 188 Tryz.f188 (bodyOf Tryz.f188) := ⟨Tryz.func188, by kernel_rfl, rfl⟩
theorem fn189 : FnOk Tryz.prog 189 Tryz.f189 (bodyOf Tryz.f189) := ⟨Tryz.func189, by kernel_rfl, rfl⟩
theorem marks_New_ok (a0 : Int) (r : (List Int) × Int) (h : marks_New a0 = some r) : Pure Tryz.prog 44 [(aI .i64 a0)] (AV.tup [(AV.list true (List.map (aI .i64) r.1)), (aI .i64 r.2)]) := by
 refine Pure.sym tyTab_ok fn44 (nt := 13) rfl rfl ?_ (allCons .sc allNil)
 unfold marks_New at h
 refine brE h ?_ ?_
 ·clear h; intro h1 h
  obtain rfl := Option.some.inj h
  refine runT tmD [.br true] ?_
  refine fin_ret rfl ?_
  exact (cv_tup (Cvs.cons (cv_nils (es := List.map (aI .i64) ([] : List Int)) (by simp [*])) (Cvs.cons .sc Cvs.nil)))
 ·clear h; intro h1 h
  refine brE h ?_ ?_
  ·clear h; intro h2 h
   obtain rfl : a0 = 2 := eq_of_beq h2
   refine run_to tmD 4000 [.br false] rfl (by repeat' first | refine And.intro ?_ ?_ | (decide +kernel) | exact oblA) ?_
   refine SemK.inline tyTab_ok fn81 rfl rfl rfl rfl rfl trivial trivial rfl rfl ?_
   refine run_to tmD 4000 [.br false, .wrap, .wrap] rfl (by repeat' first | refine And.intro ?_ ?_ | (decide +kernel) | exact oblA) ?_
   refine SemK.inline tyTab_ok fn118 rfl rfl rfl rfl rfl trivial trivial rfl rfl ?_
   refine run_to tmD 4000 [.br false] rfl (by repeat' first | refine And.intro ?_ ?_ | (decide +kernel) | exact oblA) ?_
   refine SemK.inline tyTab_ok fn143 rfl rfl rfl rfl rfl trivial trivial rfl rfl ?_
   refine run_to tmD 4000 [] rfl (by repeat' first | refine And.intro ?_ ?_ | (decide +kernel) | exact oblA) ?_
   refine SemK.back (by intro id h; cases h) rfl ?_
   refine run_to tmD 4000 [] rfl (by repeat' first | refine And.intro ?_ ?_ | (decide +kernel) | exact oblA) ?_
   refine SemK.back (by intro id h; cases h) rfl ?_
   refine run_to tmD 4000 [.go true, .go true, .br false, .wrap] rfl (by repeat' first | refine And.intro ?_ ?_ | (decide +kernel) | exact ((show ((8 : Nat) : Int) * 2 ≤ 281474976710656 by decide)) | exact oblA) ?_
   refine SemK.copyS [(aI .i64 (-9223372036854775808)), (aI .i64 0)] 1 tyTab_ok rfl rfl rfl rfl trivial rfl rfl rfl trivial (.ref rfl (by decide)) rfl rfl rfl rfl rfl rfl rfl rfl ?_
   refine run_to tmD 4000 [] rfl (by repeat' first | refine And.intro ?_ ?_ | (decide +kernel) | exact oblA) ?_
   refine SemK.round ?_
   refine run_to tmD 4000 [.br true, .stop 9] rfl (by repeat' first | refine And.intro ?_ ?_ | (decide +kernel) | exact oblA) ?_
   refine SemK.drawnCutF 7 tmD [] rfl rfl rfl rfl rfl rfl rfl (by decide) rfl rfl rfl (by decide) (by decide) (by decide) (by decide) rfl rfl rfl rfl rfl rfl rfl (by repeat' first | refine And.intro ?_ ?_ | (decide +kernel) | exact oblA) ?_
   refine run_to tmD 4000 [] rfl (by repeat' first | refine And.intro ?_ ?_ | (decide +kernel) | exact oblA) ?_
   refine SemK.copyS [(aI .i64 (-9223372036854775808)), (aI .i64 (-9223372036854775808))] 1 tyTab_ok rfl rfl rfl rfl trivial rfl rfl rfl trivial (.ref rfl (by decide)) rfl rfl rfl rfl rfl rfl rfl rfl ?_
   refine run_to tmD 4000 [] rfl (by repeat' first | refine And.intro ?_ ?_ | (decide +kernel) | exact oblA) ?_
   refine SemK.round ?_
   refine run_to tmD 4000 [.br false] rfl (by repeat' first | refine And.intro ?_ ?_ | (decide +kernel) | exact oblA) ?_
   refine SemK.back (by intro id h; cases h) rfl ?_
   obtain rfl := Option.some.inj h
   refine run_to tmD 4000 [] rfl (by repeat' first | refine And.intro ?_ ?_ | (decide +kernel) | exact oblA) ?_
   refine fin_ret rfl ?_
   exact (cv_tup (Cvs.cons (cv_ref (es := List.map (aI .i64) [(-9223372036854775808), (-9223372036854775808)]) rfl (by first | rfl | (simp; done) | (simp; rfl) | (simp [h1, h2]; done) | (simp [h1, h2]; rfl) | (simp [h1, h2, List.map_take, List.map_drop]; done) | (simp [h1, h2, List.map_take, List.map_drop]; rfl)) (by first | rfl | (simp; done) | (simp; omega) | (simp [h1, h2]; done) | (simp [h1, h2]; omega)) (flat_map (fun _ => flatSc) [(-9223372036854775808), (-9223372036854775808)])) (Cvs.cons .sc Cvs.nil)))
  ·clear h; intro h2 h
   cases h

theorem join_New_ok (a0 : Int) (r : GTask × Int) (h : join_New a0 = some r) : Pure Tryz.prog 20 [(aI .i64 a0)] (AV.tup [(enc_GTask true r.1), (aI .i64 r.2)]) := by
 refine Pure.sym tyTab_ok fn20 (nt := 21) rfl rfl ?_ (allCons .sc allNil)
 unfold join_New at h
 refine brE h ?_ ?_
 ·clear h; intro h1 h
  obtain rfl := Option.some.inj h
  refine runT tmD [.br true] ?_
  refine fin_ret rfl ?_
  exact (cv_tup (Cvs.cons (cv_agg (Cvs.cons .sc (Cvs.cons .sc (Cvs.cons .sc (Cvs.cons (cv_nils (es := List.map enc_GSend ((GTask.mk (GOp.mk 0 0) 0 ([] : List GSend) ([] : List Int) ([] : List GEntry) ([] : List GEvent) ([] : List GRow) ([] : List GRecord)).Pending)) (by simp [*])) (Cvs.cons (cv_nils (es := List.map (aI .i64) ((GTask.mk (GOp.mk 0 0) 0 ([] : List GSend) ([] : List Int) ([] : List GEntry) ([] : List GEvent) ([] : List GRow) ([] : List GRecord)).Marks)) (by simp [*])) (Cvs.cons (cv_nils (es := List.map enc_GEntry ((GTask.mk (GOp.mk 0 0) 0 ([] : List GSend) ([] : List Int) ([] : List GEntry) ([] : List GEvent) ([] : List GRow) ([] : List GRecord)).Store)) (by simp [*])) (Cvs.cons (cv_nils (es := List.map enc_GEvent ((GTask.mk (GOp.mk 0 0) 0 ([] : List GSend) ([] : List Int) ([] : List GEntry) ([] : List GEvent) ([] : List GRow) ([] : List GRecord)).Events)) (by simp [*])) (Cvs.cons (cv_nils (es := List.map enc_GRow ((GTask.mk (GOp.mk 0 0) 0 ([] : List GSend) ([] : List Int) ([] : List GEntry) ([] : List GEvent) ([] : List GRow) ([] : List GRecord)).Rows)) (by simp [*])) (Cvs.cons (cv_nils (es := List.map enc_GRecord ((GTask.mk (GOp.mk 0 0) 0 ([] : List GSend) ([] : List Int) ([] : List GEntry) ([] : List GEvent) ([] : List GRow) ([] : List GRecord)).Late)) (by simp [*])) Cvs.nil)))))))))) (Cvs.cons .sc Cvs.nil)))
 ·clear h; intro h1 h
  refine bindE h ?_
  clear h; intro v2 h3 h
  obtain rfl := Option.some.inj h
  refine run_to tmD 4000 [.br false, .pure [(aI .i64 2)] (AV.tup [(AV.list true (List.map (aI .i64) v2.1)), (aI .i64 v2.2)])] rfl (by repeat' first | refine And.intro ?_ ?_ | exact (PureCall.none (marks_New_ok _ _ h3) (Cvs.cons .sc Cvs.nil)) | exact oblA) ?_
  refine fin_ret rfl ?_
  exact (cv_tup (Cvs.cons (cv_agg (Cvs.cons .sc (Cvs.cons .sc (Cvs.cons .sc (Cvs.cons (cv_nils (es := List.map enc_GSend ((GTask.mk (GOp.mk 5 a0) 0 ([] : List GSend) v2.1 ([] : List GEntry) ([] : List GEvent) ([] : List GRow) ([] : List GRecord)).Pending)) (by simp [*])) (Cvs.cons (.listS rfl) (Cvs.cons (cv_nils (es := List.map enc_GEntry ((GTask.mk (GOp.mk 5 a0) 0 ([] : List GSend) v2.1 ([] : List GEntry) ([] : List GEvent) ([] : List GRow) ([] : List GRecord)).Store)) (by simp [*])) (Cvs.cons (cv_nils (es := List.map enc_GEvent ((GTask.mk (GOp.mk 5 a0) 0 ([] : List GSend) v2.1 ([] : List GEntry) ([] : List GEvent) ([] : List GRow) ([] : List GRecord)).Events)) (by simp [*])) (Cvs.cons (cv_nils (es := List.map enc_GRow ((GTask.mk (GOp.mk 5 a0) 0 ([] : List GSend) v2.1 ([] : List GEntry) ([] : List GEvent) ([] : List GRow) ([] : List GRecord)).Rows)) (by simp [*])) (Cvs.cons (cv_nils (es := List.map enc_GRecord ((GTask.mk (GOp.mk 5 a0) 0 ([] : List GSend) v2.1 ([] : List GEntry) ([] : List GEvent) ([] : List GRow) ([] : List GRecord)).Late)) (by simp [*])) Cvs.nil)))))))))) (Cvs.cons .sc Cvs.nil)))

theorem law33_sums_ok (r : GQuery) (h : law33_sums = some r) : Pure Tryz.prog 25 [] (enc_GQuery true r) := by
 refine Pure.sym tyTab_ok fn25 (nt := 6) rfl rfl ?_ allNil
 unfold law33_sums at h
 obtain rfl := Option.some.inj h
 refine runT tmD [] ?_
 refine fin_ret rfl ?_
 exact (cv_agg (Cvs.cons .sc (Cvs.cons (cv_ref (es := List.map enc_GNode ((GQuery.mk 2 [(GNode.mk 4 0 0 0 0)] [0, 1] true ([] : List GNode) (GWindow.mk 1 10 0) false 1).Arg)) rfl (by first | rfl | (simp; done) | (simp; rfl) | (simp []; done) | (simp []; rfl) | (simp [List.map_take, List.map_drop]; done) | (simp [List.map_take, List.map_drop]; rfl)) (by first | rfl | (simp; done) | (simp; omega) | (simp []; done) | (simp []; omega)) (flat_map flat_GNode ((GQuery.mk 2 [(GNode.mk 4 0 0 0 0)] [0, 1] true ([] : List GNode) (GWindow.mk 1 10 0) false 1).Arg))) (Cvs.cons (cv_ref (es := List.map (aI .i64) ((GQuery.mk 2 [(GNode.mk 4 0 0 0 0)] [0, 1] true ([] : List GNode) (GWindow.mk 1 10 0) false 1).Sources)) rfl (by first | rfl | (simp; done) | (simp; rfl) | (simp []; done) | (simp []; rfl) | (simp [List.map_take, List.map_drop]; done) | (simp [List.map_take, List.map_drop]; rfl)) (by first | rfl | (simp; done) | (simp; omega) | (simp []; done) | (simp []; omega)) (flat_map (fun _ => flatSc) ((GQuery.mk 2 [(GNode.mk 4 0 0 0 0)] [0, 1] true ([] : List GNode) (GWindow.mk 1 10 0) false 1).Sources))) (Cvs.cons .sc (Cvs.cons .nils (Cvs.cons .sc (Cvs.cons .sc (Cvs.cons .sc (Cvs.cons .sc (Cvs.cons .sc Cvs.nil)))))))))))

theorem law33_mark_ok (a0 : Int) (r : GMessage) (h : law33_mark a0 = some r) : Pure Tryz.prog 13 [(aI .i64 a0)] (enc_GMessage r) := by
 refine Pure.sym tyTab_ok fn13 (nt := 5) rfl rfl ?_ (allCons .sc allNil)
 unfold law33_mark at h
 obtain rfl := Option.some.inj h
 refine runT tmD [] ?_
 refine fin_ret rfl ?_
 exact (cvf_GMessage (x := (GMessage.mk 2 (GRecord.mk 0 0 0) a0 (GRow.mk 0 (GSpan.mk 0 0) (V2.mk 0 0)))))

theorem nodes_Parts_ok (a0 : Int) (r : Int × Int) (h : nodes_Parts a0 = some r) : Pure Tryz.prog 187 [(aI .u8 a0)] (AV.tup [(aI .i64 r.1), (aI .i64 r.2)]) := by
 refine Pure.sym tyTab_ok fn187 (nt := 25) rfl rfl ?_ (allCons .sc allNil)
 unfold nodes_Parts at h
 refine brE h ?_ ?_
 ·clear h; intro h1 h
  obtain rfl := Option.some.inj h
  refine runT tmD [.br true] ?_
  refine fin_ret rfl ?_
  exact (cv_tup (Cvs.cons .sc (Cvs.cons .sc Cvs.nil)))
 ·clear h; intro h1 h
  refine brE h ?_ ?_
  ·clear h; intro h2 h
   obtain rfl := Option.some.inj h
   refine runT tmD [.br false, .br true] ?_
   refine fin_ret rfl ?_
   exact (cv_tup (Cvs.cons .sc (Cvs.cons .sc Cvs.nil)))
  ·clear h; intro h2 h
   refine brE h ?_ ?_
   ·clear h; intro h3 h
    obtain rfl := Option.some.inj h
    refine runT tmD [.br false, .br false, .br true] ?_
    refine fin_ret rfl ?_
    exact (cv_tup (Cvs.cons .sc (Cvs.cons .sc Cvs.nil)))
   ·clear h; intro h3 h
    obtain rfl := Option.some.inj h
    refine runT tmD [.br false, .br false, .br false] ?_
    refine fin_ret rfl ?_
    exact (cv_tup (Cvs.cons .sc (Cvs.cons .sc Cvs.nil)))

theorem nodes_pop_nodes_top_ok (a0 : (List Gnodes_top)) (a1 : Int) (r : (List Gnodes_top) × (List Gnodes_top)) (h : nodes_pop_nodes_top a0 a1 = some r) : Pure Tryz.prog 188 [(AV.list false (List.map enc_Gnodes_top a0)), (aI .i64 a1)] (AV.tup [(AV.list false (List.map enc_Gnodes_top r.1)), (AV.list false (List.map enc_Gnodes_top r.2))]) := by
 refine Pure.sym tyTab_ok fn188 (nt := 18) rfl rfl ?_ (allCons .list (allCons .sc allNil))
 unfold nodes_pop_nodes_top at h
 refine bindE h ?_
 clear h; intro m1 h2 h
 obtain ⟨qah2, qbh2, qch2, qh2⟩ := sliceI_ok h2
 have qlh2 := sliceI_len h2
 refine bindE h ?_
 clear h; intro m3 h4 h
 obtain ⟨qah4, qbh4, qch4, qh4⟩ := sliceI_ok h4
 have qlh4 := sliceI_len h4
 obtain rfl := Option.some.inj h
 refine run_to tmD 4000 [.el (aI .i64 (List.length a0 : Int)), .wrap, .via (AV.list false (List.map enc_Gnodes_top m1)), .el (aI .i64 (List.length a0 : Int)), .wrap, .via (AV.list false (List.map enc_Gnodes_top m3))] rfl (by repeat' first | refine And.intro ?_ ?_ | (simp at qah2 qbh2 qch2 ⊢; omega) | (rw [qh2]; simp [List.map_take, List.map_drop]; done) | (simp at qah4 qbh4 qch4 ⊢; omega) | (rw [qh4]; simp [List.map_take, List.map_drop]; done) | exact oblA) ?_
 refine fin_ret rfl ?_
 exact (cv_tup (Cvs.cons (.listS rfl) (Cvs.cons (.listS rfl) Cvs.nil)))
end Go.Av.Tryz
