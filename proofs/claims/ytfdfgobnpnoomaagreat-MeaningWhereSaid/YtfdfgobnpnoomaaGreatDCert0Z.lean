/- Printed by decomp.py: that the program computes the functions. -/
import Derived.Test.YtfdfgobnpnoomaaGreatDFunZ
import Derived.Test.YtfdfgobnpnoomaaGreatTabZ
import Derived.Test.YtfdfgobnpnoomaaGreatDeleteZ
import Derived.Test.YtfdfgobnpnoomaaGreatInsertZ
set_option linter.all false

namespace Go.Av.Tryz
open Go.Proofs Go.D
set_option maxRecDepth 10000
set_option maxHeartbeats 40000000
theorem tmD : Xbd Tryz.prog X029.find /\ Tryz.prog.follows .mixedOrders = true := ⟨Xg, by kernel_rfl⟩
theorem fn9 : X2m Tryz.prog 9 Tryz.f9 (Xt Tryz.f9) := ⟨Tryz.func9, by kernel_rfl, rfl⟩
theorem fn15 : X2m Tryz.prog 15 Tryz.f15 (Xt Tryz.f15) := ⟨Tryz.func15, by kernel_rfl, rfl⟩
theorem fn16 : X2m Tryz.prog 16 Tryz.f16 (Xt Tryz.f16) := ⟨Tryz.func16, by kernel_rfl, rfl⟩
theorem fn17 : X2m Tryz.prog 17 Tryz.f17 (Xt Tryz.f17) := ⟨Tryz.func17, by kernel_rfl, rfl⟩
theorem fn19 : X2m Tryz.prog 19 Tryz.f19 (Xt Tryz.f19) := ⟨Tryz.func19, by kernel_rfl, rfl⟩
theorem fn21 : X2m Tryz.prog 21 Tryz.f21 (Xt Tryz.f21) := ⟨Tryz.func21, by kernel_rfl, rfl⟩
theorem fn23 : X2m Tryz.prog 23 Tryz.f23 (Xt Tryz.f23) := ⟨Tryz.func23, by kernel_rfl, rfl⟩
theorem fn25 : X2m Tryz.prog 25 Tryz.f25 (Xt Tryz.f25) := ⟨Tryz.func25, by kernel_rfl, rfl⟩
theorem fn26 : X2m Tryz.prog 26 Tryz.f26 (Xt Tryz.f26) := ⟨Tryz.func26, by kernel_rfl, rfl⟩
theorem fn27 : X2m Tryz.prog 27 Tryz.f27 (Xt Tryz.f27) := ⟨Tryz.func27, by kernel_rfl, rfl⟩
theorem fn28 : X2m Tryz.prog 28 Tryz.f28 (Xt Tryz.f28) := ⟨Tryz.func28, by kernel_rfl, rfl⟩
theorem fn29 : X2m Tryz.prog 29 Tryz.f29 (Xt Tryz.f29) := ⟨Tryz.func29, by kernel_rfl, rfl⟩
theorem fn30 : X2m Tryz.prog 30 Tryz.f30 (Xt Tryz.f30) := ⟨Tryz.func30, by kernel_rfl, rfl⟩
theorem fn31 : X2m Tryz.prog 31 Tryz.f31 (Xt Tryz.f31) := ⟨Tryz.func31, by kernel_rfl, rfl⟩
theorem fn32 : X2m Tryz.prog 32 Tryz.f32 (Xt Tryz.f32) := ⟨Tryz.func32, by kernel_rfl, rfl⟩
theorem fn34 : X2m Tryz.prog 34 Tryz.f34 (Xt Tryz.f34) := ⟨Tryz.func34, by kernel_rfl, rfl⟩
theorem fn35 : X2m Tryz.prog 35 Tryz.f35 (Xt Tryz.f35) := ⟨Tryz.func35, by kernel_rfl, rfl⟩
theorem fn43 : X2m Tryz.prog 43 Tryz.f43 (Xt Tryz.f43) := ⟨Tryz.func43, by kernel_rfl, rfl⟩
theorem fn44 : X2m Tryz.prog 44 Tryz.f44 (Xt Tryz.f44) := ⟨Tryz.func44, by kernel_rfl, rfl⟩
theorem fn45 : X2m Tryz.prog 45 Tryz.f45 (Xt Tryz.f45) := ⟨Tryz.func45, by kernel_rfl, rfl⟩
theorem fn46 : X2m Tryz.prog 46 Tryz.f46 (Xt Tryz.f46) := ⟨Tryz.func46, by kernel_rfl, rfl⟩
theorem fn48 : X2m Tryz.prog 48 Tryz.f48 (Xt Tryz.f48) := ⟨Tryz.func48, by kernel_rfl, rfl⟩
theorem fn49 : X2m Tryz.prog 49 Tryz.f49 (Xt Tryz.f49) := ⟨Tryz.func49, by kernel_rfl, rfl⟩
theorem fn50 : X2m Tryz.prog 50 Tryz.f50 (Xt Tryz.f50) := ⟨Tryz.func50, by kernel_rfl, rfl⟩
theorem fn51 : X2m Tryz.prog 51 Tryz.f51 (Xt Tryz.f51) := ⟨Tryz.func51, by kernel_rfl, rfl⟩
theorem fn52 : X2m Tryz.prog 52 Tryz.f52 (Xt Tryz.f52) := ⟨Tryz.func52, by kernel_rfl, rfl⟩
theorem fn53 : X2m Tryz.prog 53 Tryz.f53 (Xt Tryz.f53) := ⟨Tryz.func53, by kernel_rfl, rfl⟩
theorem fn56 : X2m Tryz.prog 56 Tryz.f56 (Xt Tryz.f56) := ⟨Tryz.func56, by kernel_rfl, rfl⟩
theorem fn57 : X2m Tryz.prog 57 Tryz.f57 (Xt Tryz.f57) := ⟨Tryz.func57, by kernel_rfl, rfl⟩
theorem fn58 : X2m Tryz.prog 58 Tryz.f58 (Xt Tryz.f58) := ⟨Tryz.func58, by kernel_rfl, rfl⟩
theorem fn59 : X2m Tryz.prog 59 Tryz.f59 (Xt Tryz.f59) := ⟨Tryz.func59, by kernel_rfl, rfl⟩
theorem fn65 : X2m Tryz.prog 65 Tryz.f65 (Xt Tryz.f65) := ⟨Tryz.func65, by kernel_rfl, rfl⟩
theorem fn66 : X2m Tryz.prog 66 Tryz.f66 (Xt Tryz.f66) := ⟨Tryz.func66, by kernel_rfl, rfl⟩
theorem fn70 : X2m Tryz.prog 70 Tryz.f70 (Xt Tryz.f70) := ⟨Tryz.func70, by kernel_rfl, rfl⟩
theorem fn71 : X2m Tryz.prog 71 Tryz.f71 (Xt Tryz.f71) := ⟨Tryz.func71, by kernel_rfl, rfl⟩
theorem fn72 : X2m Tryz.prog 72 Tryz.f72 (Xt Tryz.f72) := ⟨Tryz.func72, by kernel_rfl, rfl⟩
theorem fn73 : X2m Tryz.prog 73 Tryz.f73 (Xt Tryz.f73) := ⟨Tryz.func73, by kernel_rfl, rfl⟩
theorem fn74 : X2m Tryz.prog 74 Tryz.f74 (Xt Tryz.f74) := ⟨Tryz.func74, by kernel_rfl, rfl⟩
theorem fn75 : X2m Tryz.prog 75 Tryz.f75 (Xt Tryz.f75) := ⟨Tryz.func75, by kernel_rfl, rfl⟩
theorem fn76 : X2m Tryz.prog 76 Tryz.f76 (Xt Tryz.f76) := ⟨Tryz.func76, by kernel_rfl, rfl⟩
theorem fn77 : X2m Tryz.prog 77 Tryz.f77 (Xt Tryz.f77) := ⟨Tryz.func77, by kernel_rfl, rfl⟩
theorem fn78 : X2m Tryz.prog 78 Tryz.f78 (Xt Tryz.f78) := ⟨Tryz.func78, by kernel_rfl, rfl⟩
theorem fn79 : X2m Tryz.prog 79 Tryz.f79 (Xt Tryz.f79) := ⟨Tryz.func79, by kernel_rfl, rfl⟩
theorem fn80 : X2m Tryz.prog 80 Tryz.f80 (Xt Tryz.f80) := ⟨Tryz.func80, by kernel_rfl, rfl⟩
theorem fn81 : X2m Tryz.prog 81 Tryz.f81 (Xt Tryz.f81) := ⟨Tryz.func81, by kernel_rfl, rfl⟩
theorem fn82 : X2m Tryz.prog 82 Tryz.f82 (Xt Tryz.f82) := ⟨Tryz.func82, by kernel_rfl, rfl⟩
theorem fn83 : X2m Tryz.prog 83 Tryz.f83 (Xt Tryz.f83) := ⟨Tryz.func83, by kernel_rfl, rfl⟩
theorem fn84 : X2m Tryz.prog 84 Tryz.f84 (Xt Tryz.f84) := ⟨Tryz.func84, by kernel_rfl, rfl⟩
theorem fn85 : X2m Tryz.prog 85 Tryz.f85 (Xt Tryz.f85) := ⟨Tryz.func85, by kernel_rfl, rfl⟩
theorem fn92 : X2m Tryz.prog 92 Tryz.f92 (Xt Tryz.f92) := ⟨Tryz.func92, by kernel_rfl, rfl⟩
theorem fn93 : X2m Tryz.prog 93 Tryz.f93 (Xt Tryz.f93) := ⟨Tryz.func93, by kernel_rfl, rfl⟩
theorem fn94 : X2m Tryz.prog 94 Tryz.f94 (Xt Tryz.f94) := ⟨Tryz.func94, by kernel_rfl, rfl⟩
theorem fn95 : X2m Tryz.prog 95 Tryz.f95 (Xt Tryz.f95) := ⟨Tryz.func95, by kernel_rfl, rfl⟩
theorem fn96 : X2m Tryz.prog 96 Tryz.f96 (Xt Tryz.f96) := ⟨Tryz.func96, by kernel_rfl, rfl⟩
theorem fn97 : X2m Tryz.prog 97 Tryz.f97 (Xt Tryz.f97) := ⟨Tryz.func97, by kernel_rfl, rfl⟩
theorem X054 : X2m Tryz.prog 102 Tryz.f102 (Xt Tryz.f102) := ⟨Tryz.func102, by kernel_rfl, rfl⟩
theorem X053 : X2m Tryz.prog 104 Tryz.f104 (Xt Tryz.f104) := ⟨Tryz.func104, by kernel_rfl, rfl⟩
theorem Xtq : X2m Tryz.prog 105 Tryz.f105 (Xt Tryz.f105) := ⟨Tryz.func105, by kernel_rfl, rfl⟩
theorem X052 : X2m Tryz.prog 106 Tryz.f106 (Xt Tryz.f106) := ⟨Tryz.func106, by kernel_rfl, rfl⟩
theorem X051 : X2m Tryz.prog 107 Tryz.f107 (Xt Tryz.f107) := ⟨Tryz.func107, by kernel_rfl, rfl⟩
theorem X050 : X2m Tryz.prog 108 Tryz.f108 (Xt Tryz.f108) := ⟨Tryz.func108, by kernel_rfl, rfl⟩
theorem X04z : X2m Tryz.prog 109 Tryz.f109 (Xt Tryz.f109) := ⟨Tryz.func109, by kernel_rfl, rfl⟩
theorem X04y : X2m Tryz.prog 110 Tryz.f110 (Xt Tryz.f110) := ⟨Tryz.func110, by kernel_rfl, rfl⟩
theorem X04x : X2m Tryz.prog 111 Tryz.f111 (Xt Tryz.f111) := ⟨Tryz.func111, by kernel_rfl, rfl⟩
theorem X032 : X2m Tryz.prog 112 Tryz.f112 (Xt Tryz.f112) := ⟨Tryz.func112, by kernel_rfl, rfl⟩
theorem X031 : X2m Tryz.prog 113 Tryz.f113 (Xt Tryz.f113) := ⟨Tryz.func113, by kernel_rfl, rfl⟩
theorem X04w : X2m Tryz.prog 114 Tryz.f114 (Xt Tryz.f114) := ⟨Tryz.func114, by kernel_rfl, rfl⟩
theorem X015 : X2m Tryz.prog 115 Tryz.f115 (Xt Tryz.f115) := ⟨Tryz.func115, by kernel_rfl, rfl⟩
theorem X04v : X2m Tryz.prog 116 Tryz.f116 (Xt Tryz.f116) := ⟨Tryz.func116, by kernel_rfl, rfl⟩
theorem X04u : X2m Tryz.prog 117 Tryz.f117 (Xt Tryz.f117) := ⟨Tryz.func117, by kernel_rfl, rfl⟩
theorem X04t : X2m Tryz.prog 118 Tryz.f118 (Xt Tryz.f118) := ⟨Tryz.func118, by kernel_rfl, rfl⟩
theorem X04s : X2m Tryz.prog 119 Tryz.f119 (Xt Tryz.f119) := ⟨Tryz.func119, by kernel_rfl, rfl⟩
theorem Xtp : X2m Tryz.prog 120 Tryz.f120 (Xt Tryz.f120) := ⟨Tryz.func120, by kernel_rfl, rfl⟩
theorem X04r : X2m Tryz.prog 121 Tryz.f121 (Xt Tryz.f121) := ⟨Tryz.func121, by kernel_rfl, rfl⟩
theorem X04q : X2m Tryz.prog 128 Tryz.f128 (Xt Tryz.f128) := ⟨Tryz.func128, by kernel_rfl, rfl⟩
theorem X04p : X2m Tryz.prog 129 Tryz.f129 (Xt Tryz.f129) := ⟨Tryz.func129, by kernel_rfl, rfl⟩
theorem X04o : X2m Tryz.prog 130 Tryz.f130 (Xt Tryz.f130) := ⟨Tryz.func130, by kernel_rfl, rfl⟩
theorem X04n : X2m Tryz.prog 131 Tryz.f131 (Xt Tryz.f131) := ⟨Tryz.func131, by kernel_rfl, rfl⟩
theorem X04m : X2m Tryz.prog 133 Tryz.f133 (Xt Tryz.f133) := ⟨Tryz.func133, by kernel_rfl, rfl⟩
theorem X04l : X2m Tryz.prog 135 Tryz.f135 (Xt Tryz.f135) := ⟨Tryz.func135, by kernel_rfl, rfl⟩
theorem X04k : X2m Tryz.prog 136 Tryz.f136 (Xt Tryz.f136) := ⟨Tryz.func136, by kernel_rfl, rfl⟩
theorem X04j : X2m Tryz.prog 137 Tryz.f137 (Xt Tryz.f137) := ⟨Tryz.func137, by kernel_rfl, rfl⟩
theorem X04i : X2m Tryz.prog 138 Tryz.f138 (Xt Tryz.f138) := ⟨Tryz.func138, by kernel_rfl, rfl⟩
theorem X030 : X2m Tryz.prog 139 Tryz.f139 (Xt Tryz.f139) := ⟨Tryz.func139, by kernel_rfl, rfl⟩
theorem X02z : X2m Tryz.prog 140 Tryz.f140 (Xt Tryz.f140) := ⟨Tryz.func140, by kernel_rfl, rfl⟩
theorem X04h : X2m Tryz.prog 142 Tryz.f142 (Xt Tryz.f142) := ⟨Tryz.func142, by kernel_rfl, rfl⟩
theorem X04g : X2m Tryz.prog 143 Tryz.f143 (Xt Tryz.f143) := ⟨Tryz.func143, by kernel_rfl, rfl⟩
theorem X02y : X2m Tryz.prog 144 Tryz.f144 (Xt Tryz.f144) := ⟨Tryz.func144, by kernel_rfl, rfl⟩
theorem X04f : X2m Tryz.prog 152 Tryz.f152 (Xt Tryz.f152) := ⟨Tryz.func152, by kernel_rfl, rfl⟩
theorem X04e : X2m Tryz.prog 153 Tryz.f153 (Xt Tryz.f153) := ⟨Tryz.func153, by kernel_rfl, rfl⟩
theorem X04d : X2m Tryz.prog 154 Tryz.f154 (Xt Tryz.f154) := ⟨Tryz.func154, by kernel_rfl, rfl⟩
theorem X04c : X2m Tryz.prog 155 Tryz.f155 (Xt Tryz.f155) := ⟨Tryz.func155, by kernel_rfl, rfl⟩
theorem X04b : X2m Tryz.prog 156 Tryz.f156 (Xt Tryz.f156) := ⟨Tryz.func156, by kernel_rfl, rfl⟩
theorem X04a : X2m Tryz.prog 166 Tryz.f166 (Xt Tryz.f166) := ⟨Tryz.func166, by kernel_rfl, rfl⟩
theorem X049 : X2m Tryz.prog 175 Tryz.f175 (Xt Tryz.f175) := ⟨Tryz.func175, by kernel_rfl, rfl⟩
theorem X048 : X2m Tryz.prog 176 Tryz.f176 (Xt Tryz.f176) := ⟨Tryz.func176, by kernel_rfl, rfl⟩
theorem X02x : X2m Tryz.prog 177 Tryz.f177 (Xt Tryz.f177) := ⟨Tryz.func177, by kernel_rfl, rfl⟩
theorem X047 : X2m Tryz.prog 178 Tryz.f178 (Xt Tryz.f178) := ⟨Tryz.func178, by kernel_rfl, rfl⟩
theorem X02w : X2m Tryz.prog 179 Tryz.f179 (Xt Tryz.f179) := ⟨Tryz.func179, by kernel_rfl, rfl⟩
theorem X046 : X2m Tryz.prog 188 Tryz.f188 (Xt Tryz.f188) := ⟨Tryz.func188, by kernel_rfl, rfl⟩
theorem Xky : X2m Tryz.prog 189 Tryz.f189 (Xt Tryz.f189) := ⟨Tryz.func189, by kernel_rfl, rfl⟩
theorem X045 : X2m Tryz.prog 198 Tryz.f198 (Xt Tryz.f198) := ⟨Tryz.func198, by kernel_rfl, rfl⟩
theorem Xyd : X2m Tryz.prog 199 Tryz.f199 (Xt Tryz.f199) := ⟨Tryz.func199, by kernel_rfl, rfl⟩
theorem X02v : X2m Tryz.prog 200 Tryz.f200 (Xt Tryz.f200) := ⟨Tryz.func200, by kernel_rfl, rfl⟩
theorem X52 (a0 : Int) (a1 : Int) (a2 : Int) (r : Xi) (h : Xfs a0 a1 a2 = some r) : X19 Tryz.prog 26 [(aI .i64 a0), (aI .i64 a1), (aI .i64 a2)] (X4 r) := by
 refine X19.sym Xg fn26 (nt := 12) rfl rfl ?_ (Xf .sc (Xf .sc (Xf .sc X08)))
 unfold Xfs at h
 obtain rfl := oj h
 refine Xe tmD [] ?_
 exact X6 rfl (Xec (x := (Xi.mk false 0 (Xj.mk a0 a1 a2))))
theorem Xcg (a0 : Int) (r : Xi) (h : Xgp a0 = some r) : X19 Tryz.prog 27 [(aI .i64 a0)] (X4 r) := by
 refine X19.sym Xg fn27 (nt := 5) rfl rfl ?_ (Xf .sc X08)
 unfold Xgp at h
 obtain rfl := oj h
 refine Xe tmD [] ?_
 exact X6 rfl (Xec (x := (Xi.mk true a0 (Xj.mk 0 0 0))))
theorem Xdg (r : Xp) (h : Xja = some r) : X19 Tryz.prog 25 [] (Xh true r) := by
 refine X19.sym Xg fn25 (nt := 6) rfl rfl ?_ X08
 unfold Xja at h
 obtain rfl := oj h
 refine Xe tmD [] ?_
 exact X6 rfl (X0v (cc .sc (cc (X0o (es := List.map X1 ((Xp.mk 2 [(X00.mk 4 0 0 0 0)] [0] false ([] : List X00) (X0x.mk 1 10 0) false 2).Arg)) rfl (by first | rfl | (simp; done) | (simp; rfl) | (simp []; done) | (simp []; rfl) | (simp [Ym, Yd]; done) | (simp [Ym, Yd]; rfl)) (by first | rfl | (simp; done) | (simp; omega) | (simp []; done) | (simp []; omega)) (X0 X7 ((Xp.mk 2 [(X00.mk 4 0 0 0 0)] [0] false ([] : List X00) (X0x.mk 1 10 0) false 2).Arg))) (cc (X0o (es := List.map (aI .i64) ((Xp.mk 2 [(X00.mk 4 0 0 0 0)] [0] false ([] : List X00) (X0x.mk 1 10 0) false 2).Sources)) rfl (by first | rfl | (simp; done) | (simp; rfl) | (simp []; done) | (simp []; rfl) | (simp [Ym, Yd]; done) | (simp [Ym, Yd]; rfl)) (by first | rfl | (simp; done) | (simp; omega) | (simp []; done) | (simp []; omega)) (X0 (fun _ => X0e) ((Xp.mk 2 [(X00.mk 4 0 0 0 0)] [0] false ([] : List X00) (X0x.mk 1 10 0) false 2).Sources))) (cc .sc (cc .nils (cc .sc (cc .sc (cc .sc (cc .sc (cc .sc cn)))))))))))
theorem X1y (a0 : Int) (r : Int × Int) (h : Xa7 a0 = some r) : X19 Tryz.prog 198 [(aI .u8 a0)] (AV.tup [(aI .i64 r.1), (aI .i64 r.2)]) := by
 refine X19.sym Xg X045 (nt := 25) rfl rfl ?_ (Xf .sc X08)
 unfold Xa7 at h
 refine brE h ?_ ?_
 ·clear h; intro h1 h
  obtain rfl := oj h
  refine Xe tmD [Bt] ?_
  exact X6 rfl (Xl (cc .sc (cc .sc cn)))
 clear h; intro h1 h
 refine brE h ?_ ?_
 ·clear h; intro h2 h
  obtain rfl := oj h
  refine Xe tmD [Bf, Bt] ?_
  exact X6 rfl (Xl (cc .sc (cc .sc cn)))
 clear h; intro h2 h
 refine brE h ?_ ?_
 ·clear h; intro h3 h
  obtain rfl := oj h
  refine Xe tmD [Bf, Bf, Bt] ?_
  exact X6 rfl (Xl (cc .sc (cc .sc cn)))
 clear h; intro h3 h
 obtain rfl := oj h
 refine Xe tmD [Bf, Bf, Bf] ?_
 exact X6 rfl (Xl (cc .sc (cc .sc cn)))
end Go.Av.Tryz