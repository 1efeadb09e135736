/- Printed by decomp.py: that the program computes the functions. -/
import Derived.Test.YtfdfgobnpnoomaaGreatDFunZ
import Derived.Test.YtfdfgobnpnoomaaGreatTabZ
import Derived.Test.YtfdfgobnpnoomaaGreatDeleteZ
import Derived.Test.YtfdfgobnpnoomaaGreatInsertZ
set_option linter.all false
set_option linter.unusedVariables false
namespace Go.Av.Tryz
open Go.Proofs Go.D
set_option maxRecDepth 10000
set_option maxHeartbeats 4000000

theorem tmD : TyOk Tryz.prog tyTab.find ∧ Tryz.prog.follows .mixedOrders = true := ⟨tyTab_ok, by kernel_rfl⟩

theorem fn5 : FnOk Tryz.prog 5 Tryz.f5 (bodyOf Tryz.f5) := ⟨Tryz.func5, by kernel_rfl, rfl⟩
theorem fn17 : FnOk Tryz.prog 17 Tryz.f17 (bodyOf Tryz.f17) := ⟨Tryz.func17, by kernel_rfl, rfl⟩
theorem fn19 : FnOk Tryz.prog 19 Tryz.f19 (bodyOf Tryz.f19) := ⟨Tryz.func19, by kernel_rfl, rfl⟩
theorem fn21 : FnOk Tryz.prog 21 Tryz.f21 (bodyOf Tryz.f21) := ⟨Tryz.func21, by kernel_rfl, rfl⟩
theorem fn23 : FnOk Tryz.prog 23 Tryz.f23 (bodyOf Tryz.f23) := ⟨Tryz.func23, by kernel_rfl, rfl⟩
theorem fn25 : FnOk Tryz.prog 25 Tryz.f25 (bodyOf Tryz.f25) := ⟨Tryz.func25, by kernel_rfl, rfl⟩
theorem fn26 : FnOk Tryz.prog 26 Tryz.f26 (bodyOf Tryz.f26) := ⟨Tryz.func26, by kernel_rfl, rfl⟩
theorem fn27 : FnOk Tryz.prog 27 Tryz.f27 (bodyOf Tryz.f27) := ⟨Tryz.func27, by kernel_rfl, rfl⟩
theorem fn28 : FnOk Tryz.prog 28 Tryz.f28 (bodyOf Tryz.f28) := ⟨Tryz.func28, by kernel_rfl, rfl⟩
theorem fn29 : FnOk Tryz.prog 29 Tryz.f29 (bodyOf Tryz.f29) := ⟨Tryz.func29, by kernel_rfl, rfl⟩
theorem fn30 : FnOk Tryz.prog 30 Tryz.f30 (bodyOf Tryz.f30) := ⟨Tryz.func30, by kernel_rfl, rfl⟩
theorem fn35 : FnOk Tryz.prog 35 Tryz.f35 (bodyOf Tryz.f35) := ⟨Tryz.func35, by kernel_rfl, rfl⟩
theorem fn44 : FnOk Tryz.prog 44 Tryz.f44 (bodyOf Tryz.f44) := ⟨Tryz.func44, by kernel_rfl, rfl⟩
theorem fn45 : FnOk Tryz.prog 45 Tryz.f45 (bodyOf Tryz.f45) := ⟨Tryz.func45, by kernel_rfl, rfl⟩
theorem fn48 : FnOk Tryz.prog 48 Tryz.f48 (bodyOf Tryz.f48) := ⟨Tryz.func48, by kernel_rfl, rfl⟩
theorem fn49 : FnOk Tryz.prog 49 Tryz.f49 (bodyOf Tryz.f49) := ⟨Tryz.func49, by kernel_rfl, rfl⟩
theorem fn50 : FnOk Tryz.prog 50 Tryz.f50 (bodyOf Tryz.f50) := ⟨Tryz.func50, by kernel_rfl, rfl⟩
theorem fn51 : FnOk Tryz.prog 51 Tryz.f51 (bodyOf Tryz.f51) := ⟨Tryz.func51, by kernel_rfl, rfl⟩
theorem fn52 : FnOk Tryz.prog 52 Tryz.f52 (bodyOf Tryz.f52) := ⟨Tryz.func52, by kernel_rfl, rfl⟩
theorem fn56 : FnOk Tryz.prog 56 Tryz.f56 (bodyOf Tryz.f56) := ⟨Tryz.func56, by kernel_rfl, rfl⟩
theorem fn57 : FnOk Tryz.prog 57 Tryz.f57 (bodyOf Tryz.f57) := ⟨Tryz.func57, by kernel_rfl, rfl⟩
theorem fn59 : FnOk Tryz.prog 59 Tryz.f59 (bodyOf Tryz.f59) := ⟨Tryz.func59, by kernel_rfl, rfl⟩
theorem fn65 : FnOk Tryz.prog 65 Tryz.f65 (bodyOf Tryz.f65) := ⟨Tryz.func65, by kernel_rfl, rfl⟩
theorem fn66 : FnOk Tryz.prog 66 Tryz.f66 (bodyOf Tryz.f66) := ⟨Tryz.func66, by kernel_rfl, rfl⟩
theorem fn70 : FnOk Tryz.prog 70 Tryz.f70 (bodyOf Tryz.f70) := ⟨Tryz.func70, by kernel_rfl, rfl⟩
theorem fn71 : FnOk Tryz.prog 71 Tryz.f71 (bodyOf Tryz.f71) := ⟨Tryz.func71, by kernel_rfl, rfl⟩
theorem fn73 : FnOk Tryz.prog 73 Tryz.f73 (bodyOf Tryz.f73) := ⟨Tryz.func73, by kernel_rfl, rfl⟩
theorem fn74 : FnOk Tryz.prog 74 Tryz.f74 (bodyOf Tryz.f74) := ⟨Tryz.func74, by kernel_rfl, rfl⟩
theorem fn75 : FnOk Tryz.prog 75 Tryz.f75 (bodyOf Tryz.f75) := ⟨Tryz.func75, by kernel_rfl, rfl⟩
theorem fn76 : FnOk Tryz.prog 76 Tryz.f76 (bodyOf Tryz.f76) := ⟨Tryz.func76, by kernel_rfl, rfl⟩
theorem fn77 : FnOk Tryz.prog 77 Tryz.f77 (bodyOf Tryz.f77) := ⟨Tryz.func77, by kernel_rfl, rfl⟩
theorem fn78 : FnOk Tryz.prog 78 Tryz.f78 (bodyOf Tryz.f78) := ⟨Tryz.func78, by kernel_rfl, rfl⟩
theorem fn79 : FnOk Tryz.prog 79 Tryz.f79 (bodyOf Tryz.f79) := ⟨Tryz.func79, by kernel_rfl, rfl⟩
theorem fn80 : FnOk Tryz.prog 80 Tryz.f80 (bodyOf Tryz.f80) := ⟨Tryz.func80, by kernel_rfl, rfl⟩
theorem fn81 : FnOk Tryz.prog 81 Tryz.f81 (bodyOf Tryz.f81) := ⟨Tryz.func81, by kernel_rfl, rfl⟩
theorem fn82 : FnOk Tryz.prog 82 Tryz.f82 (bodyOf Tryz.f82) := ⟨Tryz.func82, by kernel_rfl, rfl⟩
theorem fn83 : FnOk Tryz.prog 83 Tryz.f83 (bodyOf Tryz.f83) := ⟨Tryz.func83, by kernel_rfl, rfl⟩
theorem fn84 : FnOk Tryz.prog 84 Tryz.f84 (bodyOf Tryz.f84) := ⟨Tryz.func84, by kernel_rfl, rfl⟩
theorem fn85 : FnOk Tryz.prog 85 Tryz.f85 (bodyOf Tryz.f85) := ⟨Tryz.func85, by kernel_rfl, rfl⟩
theorem fn92 : FnOk Tryz.prog 92 Tryz.f92 (bodyOf Tryz.f92) := ⟨Tryz.func92, by kernel_rfl, rfl⟩
theorem fn93 : FnOk Tryz.prog 93 Tryz.f93 (bodyOf Tryz.f93) := ⟨Tryz.func93, by kernel_rfl, rfl⟩
theorem fn94 : FnOk Tryz.prog 94 Tryz.f94 (bodyOf Tryz.f94) := ⟨Tryz.func94, by kernel_rfl, rfl⟩
theorem fn95 : FnOk Tryz.prog 95 Tryz.f95 (bodyOf Tryz.f95) := ⟨Tryz.func95, by kernel_rfl, rfl⟩
theorem fn96 : FnOk Tryz.prog 96 Tryz.f96 (bodyOf Tryz.f96) := ⟨Tryz.func96, by kernel_rfl, rfl⟩
theorem fn97 : FnOk Tryz.prog 97 Tryz.f97 (bodyOf Tryz.f97) := ⟨Tryz.func97, by kernel_rfl, rfl⟩
theorem fn102 : FnOk Tryz.prog 102 Tryz.f102 (bodyOf Tryz.f102) := ⟨Tryz.func102, by kernel_rfl, rfl⟩
theorem fn104 : FnOk Tryz.prog 104 Tryz.f104 (bodyOf Tryz.f104) := ⟨Tryz.func104, by kernel_rfl, rfl⟩
theorem fn105 : FnOk Tryz.prog 105 Tryz.f105 (bodyOf Tryz.f105) := ⟨Tryz.func105, by kernel_rfl, rfl⟩
theorem fn106 : FnOk Tryz.prog 106 Tryz.f106 (bodyOf Tryz.f106) := ⟨Tryz.func106, by kernel_rfl, rfl⟩
theorem fn107 : FnOk Tryz.prog 107 Tryz.f107 (bodyOf Tryz.f107) := ⟨Tryz.func107, by kernel_rfl, rfl⟩
theorem fn108 : FnOk Tryz.prog 108 Tryz.f108 (bodyOf Tryz.f108) := ⟨Tryz.func108, by kernel_rfl, rfl⟩
theorem fn109 : FnOk Tryz.prog 109 Tryz.f109 (bodyOf Tryz.f109) := ⟨Tryz.func109, by kernel_rfl, rfl⟩
theorem fn110 : FnOk Tryz.prog 110 Tryz.f110 (bodyOf Tryz.f110) := ⟨Tryz.func110, by kernel_rfl, rfl⟩
theorem fn111 : FnOk Tryz.prog 111 Tryz.f111 (bodyOf Tryz.f111) := ⟨Tryz.func111, by kernel_rfl, rfl⟩
theorem fn112 : FnOk Tryz.prog 112 Tryz.f112 (bodyOf Tryz.f112) := ⟨Tryz.func112, by kernel_rfl, rfl⟩
theorem fn113 : FnOk Tryz.prog 113 Tryz.f113 (bodyOf Tryz.f113) := ⟨Tryz.func113, by kernel_rfl, rfl⟩
theorem fn114 : FnOk Tryz.prog 114 Tryz.f114 (bodyOf Tryz.f114) := ⟨Tryz.func114, by kernel_rfl, rfl⟩
theorem fn115 : FnOk Tryz.prog 115 Tryz.f115 (bodyOf Tryz.f115) := ⟨Tryz.func115, by kernel_rfl, rfl⟩
theorem fn116 : FnOk Tryz.prog 116 Tryz.f116 (bodyOf Tryz.f116) := ⟨Tryz.func116, by kernel_rfl, rfl⟩
theorem fn117 : FnOk Tryz.prog 117 Tryz.f117 (bodyOf Tryz.f117) := ⟨Tryz.func117, by kernel_rfl, rfl⟩
theorem fn119 : FnOk Tryz.prog 119 Tryz.f119 (bodyOf Tryz.f119) := ⟨Tryz.func119, by kernel_rfl, rfl⟩
theorem fn120 : FnOk Tryz.prog 120 Tryz.f120 (bodyOf Tryz.f120) := ⟨Tryz.func120, by kernel_rfl, rfl⟩
theorem fn121 : FnOk Tryz.prog 121 Tryz.f121 (bodyOf Tryz.f121) := ⟨Tryz.func121, by kernel_rfl, rfl⟩
theorem fn128 : FnOk Tryz.prog 128 Tryz.f128 (bodyOf Tryz.f128) := ⟨Tryz.func128, by kernel_rfl, rfl⟩
theorem fn129 : FnOk Tryz.prog 129 Tryz.f129 (bodyOf Tryz.f129) := ⟨Tryz.func129, by kernel_rfl, rfl⟩
theorem fn130 : FnOk Tryz.prog 130 Tryz.f130 (bodyOf Tryz.f130) := ⟨Tryz.func130, by kernel_rfl, rfl⟩
theorem fn131 : FnOk Tryz.prog 131 Tryz.f131 (bodyOf Tryz.f131) := ⟨Tryz.func131, by kernel_rfl, rfl⟩
theorem fn133 : FnOk Tryz.prog 133 Tryz.f133 (bodyOf Tryz.f133) := ⟨Tryz.func133, by kernel_rfl, rfl⟩
theorem fn135 : FnOk Tryz.prog 135 Tryz.f135 (bodyOf Tryz.f135) := ⟨Tryz.func135, by kernel_rfl, rfl⟩
theorem fn136 : FnOk Tryz.prog 136 Tryz.f136 (bodyOf Tryz.f136) := ⟨Tryz.func136, by kernel_rfl, rfl⟩
theorem fn137 : FnOk Tryz.prog 137 Tryz.f137 (bodyOf Tryz.f137) := ⟨Tryz.func137, by kernel_rfl, rfl⟩
theorem fn138 : FnOk Tryz.prog 138 Tryz.f138 (bodyOf Tryz.f138) := ⟨Tryz.func138, by kernel_rfl, rfl⟩
theorem fn139 : FnOk Tryz.prog 139 Tryz.f139 (bodyOf Tryz.f139) := ⟨Tryz.func139, by kernel_rfl, rfl⟩
theorem fn140 : FnOk Tryz.prog 140 Tryz.f140 (bodyOf Tryz.f140) := ⟨Tryz.func140, by kernel_rfl, rfl⟩
theorem fn142 : FnOk Tryz.prog 142 Tryz.f142 (bodyOf Tryz.f142) := ⟨Tryz.func142, by kernel_rfl, rfl⟩
theorem fn143 : FnOk Tryz.prog 143 Tryz.f143 (bodyOf Tryz.f143) := ⟨Tryz.func143, by kernel_rfl, rfl⟩
theorem fn152 : FnOk Tryz.prog 152 Tryz.f152 (bodyOf Tryz.f152) := ⟨Tryz.func152, by kernel_rfl, rfl⟩
theorem fn153 : FnOk Tryz.prog 153 Tryz.f153 (bodyOf Tryz.f153) := ⟨Tryz.func153, by kernel_rfl, rfl⟩
theorem fn154 : FnOk Tryz.prog 154 Tryz.f154 (bodyOf Tryz.f154) := ⟨Tryz.func154, by kernel_rfl, rfl⟩
theorem fn155 : FnOk Tryz.prog 155 Tryz.f155 (bodyOf Tryz.f155) := ⟨Tryz.func155, by kernel_rfl, rfl⟩
theorem fn156 : FnOk Tryz.prog 156 Tryz.f156 (bodyOf Tryz.f156) := ⟨Tryz.func156, by kernel_rfl, rfl⟩
theorem fn166 : FnOk Tryz.prog 166 Tryz.f166 (bodyOf Tryz.f166) := ⟨Tryz.func166, by kernel_rfl, rfl⟩
theorem fn175 : FnOk Tryz.prog 175 Tryz.f175 (bodyOf Tryz.f175) := ⟨Tryz.func175, by kernel_rfl, rfl⟩
theorem fn176 : FnOk Tryz.prog 176 Tryz.f176 (bodyOf Tryz.f176) := ⟨Tryz.func176, by kernel_rfl, rfl⟩
theorem fn177 : FnOk Tryz.prog 177 Tryz.f177 (bodyOf Tryz.f177) := ⟨Tryz.func177, by kernel_rfl, rfl⟩
theorem fn178 : FnOk Tryz.prog 178 Tryz.f178 (bodyOf Tryz.f178) := ⟨Tryz.func178, by kernel_rfl, rfl⟩
theorem fn188 : FnOk Tryz.prog 188 Tryz.f188 (bodyOf Tryz.f188) := ⟨Tryz.func188, by kernel_rfl, rfl⟩
theorem fn189 : FnOk Tryz.prog 189 Tryz.f189 (bodyOf Tryz.f189) := ⟨Tryz.func189, by kernel_rfl, rfl⟩
theorem fn198 : FnOk Tryz.prog 198 Tryz.f198 (bodyOf Tryz.f198) := ⟨Tryz.func198, by kernel_rfl, rfl⟩
theorem fn199 : FnOk Tryz.prog 199 Tryz.f199 (bodyOf Tryz.f199) := ⟨Tryz.func199, by kernel_rfl, rfl⟩
theorem fn200 : FnOk Tryz.prog 200 Tryz.f200 (bodyOf Tryz.f200) := ⟨Tryz.func200, by kernel_rfl, rfl⟩
theorem law21_sum_ok (r : GQuery) (h : law21_sum = some r) : Pure Tryz.prog 25 [] (enc_GQuery true r) := by
 refine Pure.sym tyTab_ok fn25 (nt := 6) rfl rfl ?_ allNil
 unfold law21_sum at h
 obtain rfl := Option.some.inj h
 refine runT tmD [] ?_
 refine fin_ret rfl ?_
 exact (cv_agg (Cvs.cons .sc (Cvs.cons (cv_ref (es := List.map enc_GNode ((GQuery.mk 2 [(GNode.mk 4 0 0 0 0)] [0] false ([] : List GNode) (GWindow.mk 1 10 0) false 2).Arg)) rfl (by first | rfl | (simp; done) | (simp; rfl) | (simp []; done) | (simp []; rfl) | (simp [List.map_take, List.map_drop]; done) | (simp [List.map_take, List.map_drop]; rfl)) (by first | rfl | (simp; done) | (simp; omega) | (simp []; done) | (simp []; omega)) (flat_map flat_GNode ((GQuery.mk 2 [(GNode.mk 4 0 0 0 0)] [0] false ([] : List GNode) (GWindow.mk 1 10 0) false 2).Arg))) (Cvs.cons (cv_ref (es := List.map (aI .i64) ((GQuery.mk 2 [(GNode.mk 4 0 0 0 0)] [0] false ([] : List GNode) (GWindow.mk 1 10 0) false 2).Sources)) rfl (by first | rfl | (simp; done) | (simp; rfl) | (simp []; done) | (simp []; rfl) | (simp [List.map_take, List.map_drop]; done) | (simp [List.map_take, List.map_drop]; rfl)) (by first | rfl | (simp; done) | (simp; omega) | (simp []; done) | (simp []; omega)) (flat_map (fun _ => flatSc) ((GQuery.mk 2 [(GNode.mk 4 0 0 0 0)] [0] false ([] : List GNode) (GWindow.mk 1 10 0) false 2).Sources))) (Cvs.cons .sc (Cvs.cons .nils (Cvs.cons .sc (Cvs.cons .sc (Cvs.cons .sc (Cvs.cons .sc (Cvs.cons .sc Cvs.nil)))))))))))

theorem law21_at_ok (a0 : Int) (a1 : Int) (a2 : Int) (r : GEvent) (h : law21_at a0 a1 a2 = some r) : Pure Tryz.prog 26 [(aI .i64 a0), (aI .i64 a1), (aI .i64 a2)] (enc_GEvent r) := by
 refine Pure.sym tyTab_ok fn26 (nt := 12) rfl rfl ?_ (allCons .sc (allCons .sc (allCons .sc allNil)))
 unfold law21_at at h
 obtain rfl := Option.some.inj h
 refine runT tmD [] ?_
 refine fin_ret rfl ?_
 exact (cvf_GEvent (x := (GEvent.mk false 0 (GRecord.mk a0 a1 a2))))

theorem law21_mark_ok (a0 : Int) (r : GEvent) (h : law21_mark a0 = some r) : Pure Tryz.prog 27 [(aI .i64 a0)] (enc_GEvent r) := by
 refine Pure.sym tyTab_ok fn27 (nt := 5) rfl rfl ?_ (allCons .sc allNil)
 unfold law21_mark at h
 obtain rfl := Option.some.inj h
 refine runT tmD [] ?_
 refine fin_ret rfl ?_
 exact (cvf_GEvent (x := (GEvent.mk true a0 (GRecord.mk 0 0 0))))

theorem nodes_Parts_ok (a0 : Int) (r : Int × Int) (h : nodes_Parts a0 = some r) : Pure Tryz.prog 198 [(aI .u8 a0)] (AV.tup [(aI .i64 r.1), (aI .i64 r.2)]) := by
 refine Pure.sym tyTab_ok fn198 (nt := 25) rfl rfl ?_ (allCons .sc allNil)
 unfold nodes_Parts at h
 refine brE h ?_ ?_
 ·clear h; intro h1 h
  obtain rfl := Option.some.inj h
  refine runT tmD [.br true] ?_
  refine fin_ret rfl ?_
  exact (cv_tup (Cvs.cons .sc (Cvs.cons .sc Cvs.nil)))
 ·clear h; intro h1 h
  refine brE h ?_ ?_
  ·clear h; intro h2 h
   obtain rfl := Option.some.inj h
   refine runT tmD [.br false, .br true] ?_
   refine fin_ret rfl ?_
   exact (cv_tup (Cvs.cons .sc (Cvs.cons .sc Cvs.nil)))
  ·clear h; intro h2 h
   refine brE h ?_ ?_
   ·clear h; intro h3 h
    obtain rfl := Option.some.inj h
    refine runT tmD [.br false, .br false, .br true] ?_
    refine fin_ret rfl ?_
    exact (cv_tup (Cvs.cons .sc (Cvs.cons .sc Cvs.nil)))
   ·clear h; intro h3 h
    obtain rfl := Option.some.inj h
    refine runT tmD [.br false, .br false, .br false] ?_
    refine fin_ret rfl ?_
    exact (cv_tup (Cvs.cons .sc (Cvs.cons .sc Cvs.nil)))

theorem nodes_pop_nodes_top_ok (a0 : (List Gnodes_top)) (a1 : Int) (r : (List Gnodes_top) × (List Gnodes_top)) (h : nodes_pop_nodes_top a0 a1 = some r) : Pure Tryz.prog 199 [(AV.list false (List.map enc_Gnodes_top a0)), (aI .i64 a1)] (AV.tup [(AV.list false (List.map enc_Gnodes_top r.1)), (AV.list false (List.map enc_Gnodes_top r.2))]) := by
 refine Pure.sym tyTab_ok fn199 (nt := 18) rfl rfl ?_ (allCons .list (allCons .sc allNil))
 unfold nodes_pop_nodes_top at h
 refine bindE h ?_
 clear h; intro m1 h2 h
 obtain ⟨qah2, qbh2, qch2, qh2⟩ := sliceI_ok h2
 have qlh2 := sliceI_len h2
 refine bindE h ?_
 clear h; intro m3 h4 h
 obtain ⟨qah4, qbh4, qch4, qh4⟩ := sliceI_ok h4
 have qlh4 := sliceI_len h4
 obtain rfl := Option.some.inj h
 refine run_to tmD 4000 [.el (aI .i64 (List.length a0 : Int)), .wrap, .via (AV.list false (List.map enc_Gnodes_top m1)), .el (aI .i64 (List.length a0 : Int)), .wrap, .via (AV.list false (List.map enc_Gnodes_top m3))] rfl (by repeat' first | refine And.intro ?_ ?_ | (simp at qah2 qbh2 qch2 ⊢; omega) | (rw [qh2]; simp [List.map_take, List.map_drop]; done) | (simp at qah4 qbh4 qch4 ⊢; omega) | (rw [qh4]; simp [List.map_take, List.map_drop]; done) | exact oblA) ?_
 refine fin_ret rfl ?_
 exact (cv_tup (Cvs.cons (.listS rfl) (Cvs.cons (.listS rfl) Cvs.nil)))
end Go.Av.Tryz
