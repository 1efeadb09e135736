/- Printed by decomp.py: that the program computes the functions. -/
import Derived.Test.YtoadgjfleafafaaGreatDFunA
import Derived.Test.YtoadgjfleafafaaGreatTabA
import Derived.Test.YtoadgjfleafafaaGreatInsertA
set_option linter.all false

namespace Go.Av.Tryz
open Go.Proofs Go.D
set_option maxRecDepth 10000
set_option maxHeartbeats 40000000
theorem tmD : X7o Tryz.prog Xpe.find /\ Tryz.prog.follows .mixedOrders = true := ⟨Xe, by kernel_rfl⟩
theorem fn3 : X2w Tryz.prog 3 Tryz.f3 (X01 Tryz.f3) := ⟨Tryz.func3, by kernel_rfl, rfl⟩
theorem fn4 : X2w Tryz.prog 4 Tryz.f4 (X01 Tryz.f4) := ⟨Tryz.func4, by kernel_rfl, rfl⟩
theorem fn5 : X2w Tryz.prog 5 Tryz.f5 (X01 Tryz.f5) := ⟨Tryz.func5, by kernel_rfl, rfl⟩
theorem fn6 : X2w Tryz.prog 6 Tryz.f6 (X01 Tryz.f6) := ⟨Tryz.func6, by kernel_rfl, rfl⟩
theorem fn7 : X2w Tryz.prog 7 Tryz.f7 (X01 Tryz.f7) := ⟨Tryz.func7, by kernel_rfl, rfl⟩
theorem fn8 : X2w Tryz.prog 8 Tryz.f8 (X01 Tryz.f8) := ⟨Tryz.func8, by kernel_rfl, rfl⟩
theorem fn9 : X2w Tryz.prog 9 Tryz.f9 (X01 Tryz.f9) := ⟨Tryz.func9, by kernel_rfl, rfl⟩
theorem Xt7 : X2w Tryz.prog 10 Tryz.f10 (X01 Tryz.f10) := ⟨Tryz.func10, by kernel_rfl, rfl⟩
theorem Xt6 : X2w Tryz.prog 11 Tryz.f11 (X01 Tryz.f11) := ⟨Tryz.func11, by kernel_rfl, rfl⟩
theorem Xt5 : X2w Tryz.prog 12 Tryz.f12 (X01 Tryz.f12) := ⟨Tryz.func12, by kernel_rfl, rfl⟩
theorem Xt4 : X2w Tryz.prog 13 Tryz.f13 (X01 Tryz.f13) := ⟨Tryz.func13, by kernel_rfl, rfl⟩
theorem Xt3 : X2w Tryz.prog 14 Tryz.f14 (X01 Tryz.f14) := ⟨Tryz.func14, by kernel_rfl, rfl⟩
theorem Xt2 : X2w Tryz.prog 15 Tryz.f15 (X01 Tryz.f15) := ⟨Tryz.func15, by kernel_rfl, rfl⟩
theorem Xt1 : X2w Tryz.prog 16 Tryz.f16 (X01 Tryz.f16) := ⟨Tryz.func16, by kernel_rfl, rfl⟩
theorem Xt0 : X2w Tryz.prog 17 Tryz.f17 (X01 Tryz.f17) := ⟨Tryz.func17, by kernel_rfl, rfl⟩
theorem Xsz : X2w Tryz.prog 18 Tryz.f18 (X01 Tryz.f18) := ⟨Tryz.func18, by kernel_rfl, rfl⟩
theorem Xsy : X2w Tryz.prog 19 Tryz.f19 (X01 Tryz.f19) := ⟨Tryz.func19, by kernel_rfl, rfl⟩
theorem Xsx : X2w Tryz.prog 20 Tryz.f20 (X01 Tryz.f20) := ⟨Tryz.func20, by kernel_rfl, rfl⟩
theorem Xsw : X2w Tryz.prog 21 Tryz.f21 (X01 Tryz.f21) := ⟨Tryz.func21, by kernel_rfl, rfl⟩
theorem Xsv : X2w Tryz.prog 22 Tryz.f22 (X01 Tryz.f22) := ⟨Tryz.func22, by kernel_rfl, rfl⟩
theorem Xsu : X2w Tryz.prog 23 Tryz.f23 (X01 Tryz.f23) := ⟨Tryz.func23, by kernel_rfl, rfl⟩
theorem Xr3 : X2w Tryz.prog 24 Tryz.f24 (X01 Tryz.f24) := ⟨Tryz.func24, by kernel_rfl, rfl⟩
theorem Xst : X2w Tryz.prog 25 Tryz.f25 (X01 Tryz.f25) := ⟨Tryz.func25, by kernel_rfl, rfl⟩
theorem Xss : X2w Tryz.prog 26 Tryz.f26 (X01 Tryz.f26) := ⟨Tryz.func26, by kernel_rfl, rfl⟩
theorem Xsr : X2w Tryz.prog 27 Tryz.f27 (X01 Tryz.f27) := ⟨Tryz.func27, by kernel_rfl, rfl⟩
theorem Xql : X2w Tryz.prog 28 Tryz.f28 (X01 Tryz.f28) := ⟨Tryz.func28, by kernel_rfl, rfl⟩
theorem Xsq : X2w Tryz.prog 29 Tryz.f29 (X01 Tryz.f29) := ⟨Tryz.func29, by kernel_rfl, rfl⟩
theorem Xsp : X2w Tryz.prog 30 Tryz.f30 (X01 Tryz.f30) := ⟨Tryz.func30, by kernel_rfl, rfl⟩
theorem Xso : X2w Tryz.prog 31 Tryz.f31 (X01 Tryz.f31) := ⟨Tryz.func31, by kernel_rfl, rfl⟩
theorem Xsn : X2w Tryz.prog 32 Tryz.f32 (X01 Tryz.f32) := ⟨Tryz.func32, by kernel_rfl, rfl⟩
theorem Xsm : X2w Tryz.prog 33 Tryz.f33 (X01 Tryz.f33) := ⟨Tryz.func33, by kernel_rfl, rfl⟩
theorem Xsl : X2w Tryz.prog 34 Tryz.f34 (X01 Tryz.f34) := ⟨Tryz.func34, by kernel_rfl, rfl⟩
theorem Xsk : X2w Tryz.prog 35 Tryz.f35 (X01 Tryz.f35) := ⟨Tryz.func35, by kernel_rfl, rfl⟩
theorem Xsj : X2w Tryz.prog 36 Tryz.f36 (X01 Tryz.f36) := ⟨Tryz.func36, by kernel_rfl, rfl⟩
theorem Xsi : X2w Tryz.prog 37 Tryz.f37 (X01 Tryz.f37) := ⟨Tryz.func37, by kernel_rfl, rfl⟩
theorem Xsh : X2w Tryz.prog 38 Tryz.f38 (X01 Tryz.f38) := ⟨Tryz.func38, by kernel_rfl, rfl⟩
theorem Xr2 : X2w Tryz.prog 39 Tryz.f39 (X01 Tryz.f39) := ⟨Tryz.func39, by kernel_rfl, rfl⟩
theorem Xsg : X2w Tryz.prog 42 Tryz.f42 (X01 Tryz.f42) := ⟨Tryz.func42, by kernel_rfl, rfl⟩
theorem Xr1 : X2w Tryz.prog 43 Tryz.f43 (X01 Tryz.f43) := ⟨Tryz.func43, by kernel_rfl, rfl⟩
theorem Xsf : X2w Tryz.prog 44 Tryz.f44 (X01 Tryz.f44) := ⟨Tryz.func44, by kernel_rfl, rfl⟩
theorem Xse : X2w Tryz.prog 45 Tryz.f45 (X01 Tryz.f45) := ⟨Tryz.func45, by kernel_rfl, rfl⟩
theorem Xr0 : X2w Tryz.prog 46 Tryz.f46 (X01 Tryz.f46) := ⟨Tryz.func46, by kernel_rfl, rfl⟩
theorem Xsd : X2w Tryz.prog 47 Tryz.f47 (X01 Tryz.f47) := ⟨Tryz.func47, by kernel_rfl, rfl⟩
theorem Xsc : X2w Tryz.prog 48 Tryz.f48 (X01 Tryz.f48) := ⟨Tryz.func48, by kernel_rfl, rfl⟩
theorem Xsb : X2w Tryz.prog 49 Tryz.f49 (X01 Tryz.f49) := ⟨Tryz.func49, by kernel_rfl, rfl⟩
theorem Xsa : X2w Tryz.prog 50 Tryz.f50 (X01 Tryz.f50) := ⟨Tryz.func50, by kernel_rfl, rfl⟩
theorem Xs9 : X2w Tryz.prog 51 Tryz.f51 (X01 Tryz.f51) := ⟨Tryz.func51, by kernel_rfl, rfl⟩
theorem Xs8 : X2w Tryz.prog 52 Tryz.f52 (X01 Tryz.f52) := ⟨Tryz.func52, by kernel_rfl, rfl⟩
theorem Xqk : X2w Tryz.prog 53 Tryz.f53 (X01 Tryz.f53) := ⟨Tryz.func53, by kernel_rfl, rfl⟩
theorem Xs7 : X2w Tryz.prog 54 Tryz.f54 (X01 Tryz.f54) := ⟨Tryz.func54, by kernel_rfl, rfl⟩
theorem Xs6 : X2w Tryz.prog 55 Tryz.f55 (X01 Tryz.f55) := ⟨Tryz.func55, by kernel_rfl, rfl⟩
theorem Xs5 : X2w Tryz.prog 56 Tryz.f56 (X01 Tryz.f56) := ⟨Tryz.func56, by kernel_rfl, rfl⟩
theorem Xs4 : X2w Tryz.prog 57 Tryz.f57 (X01 Tryz.f57) := ⟨Tryz.func57, by kernel_rfl, rfl⟩
theorem Xs3 : X2w Tryz.prog 58 Tryz.f58 (X01 Tryz.f58) := ⟨Tryz.func58, by kernel_rfl, rfl⟩
theorem Xs2 : X2w Tryz.prog 63 Tryz.f63 (X01 Tryz.f63) := ⟨Tryz.func63, by kernel_rfl, rfl⟩
theorem Xs1 : X2w Tryz.prog 65 Tryz.f65 (X01 Tryz.f65) := ⟨Tryz.func65, by kernel_rfl, rfl⟩
theorem Xs0 : X2w Tryz.prog 67 Tryz.f67 (X01 Tryz.f67) := ⟨Tryz.func67, by kernel_rfl, rfl⟩
theorem Xqj : X2w Tryz.prog 68 Tryz.f68 (X01 Tryz.f68) := ⟨Tryz.func68, by kernel_rfl, rfl⟩
theorem Xqz : X2w Tryz.prog 69 Tryz.f69 (X01 Tryz.f69) := ⟨Tryz.func69, by kernel_rfl, rfl⟩
theorem Xrz : X2w Tryz.prog 70 Tryz.f70 (X01 Tryz.f70) := ⟨Tryz.func70, by kernel_rfl, rfl⟩
theorem Xry : X2w Tryz.prog 71 Tryz.f71 (X01 Tryz.f71) := ⟨Tryz.func71, by kernel_rfl, rfl⟩
theorem Xrx : X2w Tryz.prog 72 Tryz.f72 (X01 Tryz.f72) := ⟨Tryz.func72, by kernel_rfl, rfl⟩
theorem Xrw : X2w Tryz.prog 73 Tryz.f73 (X01 Tryz.f73) := ⟨Tryz.func73, by kernel_rfl, rfl⟩
theorem Xrv : X2w Tryz.prog 74 Tryz.f74 (X01 Tryz.f74) := ⟨Tryz.func74, by kernel_rfl, rfl⟩
theorem Xqi : X2w Tryz.prog 76 Tryz.f76 (X01 Tryz.f76) := ⟨Tryz.func76, by kernel_rfl, rfl⟩
theorem Xru : X2w Tryz.prog 77 Tryz.f77 (X01 Tryz.f77) := ⟨Tryz.func77, by kernel_rfl, rfl⟩
theorem Xrt : X2w Tryz.prog 78 Tryz.f78 (X01 Tryz.f78) := ⟨Tryz.func78, by kernel_rfl, rfl⟩
theorem Xrs : X2w Tryz.prog 79 Tryz.f79 (X01 Tryz.f79) := ⟨Tryz.func79, by kernel_rfl, rfl⟩
theorem Xrr : X2w Tryz.prog 83 Tryz.f83 (X01 Tryz.f83) := ⟨Tryz.func83, by kernel_rfl, rfl⟩
theorem Xrq : X2w Tryz.prog 84 Tryz.f84 (X01 Tryz.f84) := ⟨Tryz.func84, by kernel_rfl, rfl⟩
theorem Xrp : X2w Tryz.prog 88 Tryz.f88 (X01 Tryz.f88) := ⟨Tryz.func88, by kernel_rfl, rfl⟩
theorem Xro : X2w Tryz.prog 89 Tryz.f89 (X01 Tryz.f89) := ⟨Tryz.func89, by kernel_rfl, rfl⟩
theorem Xrn : X2w Tryz.prog 90 Tryz.f90 (X01 Tryz.f90) := ⟨Tryz.func90, by kernel_rfl, rfl⟩
theorem Xrm : X2w Tryz.prog 91 Tryz.f91 (X01 Tryz.f91) := ⟨Tryz.func91, by kernel_rfl, rfl⟩
theorem Xrl : X2w Tryz.prog 92 Tryz.f92 (X01 Tryz.f92) := ⟨Tryz.func92, by kernel_rfl, rfl⟩
theorem Xrk : X2w Tryz.prog 93 Tryz.f93 (X01 Tryz.f93) := ⟨Tryz.func93, by kernel_rfl, rfl⟩
theorem Xrj : X2w Tryz.prog 96 Tryz.f96 (X01 Tryz.f96) := ⟨Tryz.func96, by kernel_rfl, rfl⟩
theorem Xri : X2w Tryz.prog 99 Tryz.f99 (X01 Tryz.f99) := ⟨Tryz.func99, by kernel_rfl, rfl⟩
theorem Xqo : X2w Tryz.prog 100 Tryz.f100 (X01 Tryz.f100) := ⟨Tryz.func100, by kernel_rfl, rfl⟩
theorem Xqn : X2w Tryz.prog 101 Tryz.f101 (X01 Tryz.f101) := ⟨Tryz.func101, by kernel_rfl, rfl⟩
theorem Xqm : X2w Tryz.prog 113 Tryz.f113 (X01 Tryz.f113) := ⟨Tryz.func113, by kernel_rfl, rfl⟩
theorem Xmh : X2w Tryz.prog 114 Tryz.f114 (X01 Tryz.f114) := ⟨Tryz.func114, by kernel_rfl, rfl⟩
theorem Xev : X2w Tryz.prog 115 Tryz.f115 (X01 Tryz.f115) := ⟨Tryz.func115, by kernel_rfl, rfl⟩
theorem Xcf (a0 : Int) (r : (List Int) × Int) (h : Xdv a0 = some r) : X16 Tryz.prog 15 [(aI .i64 a0)] (AV.tup [(AV.list true (List.map (aI .i64) r.1)), (aI .i64 r.2)]) := by
 refine X16.sym Xe Xt2 (nt := 13) rfl rfl ?_ (X6 .sc X08)
 unfold Xdv at h
 refine brE h ?_ ?_
 ·clear h; intro h1 h
  obtain rfl := oj h
  refine Xm tmD [Bt] ?_
  exact X8 rfl (X04 (cc (Zn (aI .i64)) (cc .sc cn)))
 clear h; intro h1 h
 refine brE h ?_ ?_
 ·clear h; intro h2 h
  obtain rfl : a0 = 1 := eq_of_beq h2
  refine rn tmD [Bf] rfl (by repeat' first | refine Ya ?_ ?_ | (decide +kernel)|exact X00) ?_
  refine Xa.inline Xe Xql rfl rfl rfl rfl rfl trivial trivial rfl rfl ?_
  refine rn tmD [Bf, .wrap, .wrap] rfl (by repeat' first | refine Ya ?_ ?_ | (decide +kernel)|exact X00) ?_
  refine Xa.inline Xe Xqk rfl rfl rfl rfl rfl trivial trivial rfl rfl ?_
  refine rn tmD [Bf] rfl (by repeat' first | refine Ya ?_ ?_ | (decide +kernel)|exact X00) ?_
  refine Xa.inline Xe Xqi rfl rfl rfl rfl rfl trivial trivial rfl rfl ?_
  refine rn tmD [] rfl (by repeat' first | refine Ya ?_ ?_ | (decide +kernel)|exact X00) ?_
  refine Xa.back (by intro id h; cases h) rfl ?_
  refine rn tmD [] rfl (by repeat' first | refine Ya ?_ ?_ | (decide +kernel)|exact X00) ?_
  refine Xa.back (by intro id h; cases h) rfl ?_
  refine rn tmD [.go true, .go true, Bf, .wrap] rfl (by repeat' first | refine Ya ?_ ?_ | (decide +kernel)|exact ((show ((8 : Nat) : Int) * 1 <= 281474976710656 by decide))|exact X00) ?_
  refine Xa.copyS [(aI .i64 (-9223372036854775808))] 1 Xe rfl rfl rfl rfl trivial rfl rfl rfl trivial (.ref rfl (by decide)) rfl rfl rfl rfl rfl rfl rfl rfl ?_
  refine rn tmD [] rfl (by repeat' first | refine Ya ?_ ?_ | (decide +kernel)|exact X00) ?_
  refine Xa.round ?_
  refine rn tmD [Bf] rfl (by repeat' first | refine Ya ?_ ?_ | (decide +kernel)|exact X00) ?_
  refine Xa.back (by intro id h; cases h) rfl ?_
  obtain rfl := oj h
  refine rn tmD [] rfl (by repeat' first | refine Ya ?_ ?_ | (decide +kernel)|exact X00) ?_
  exact X8 rfl (X04 (cc (X1b (es := List.map (aI .i64) [(-9223372036854775808)]) rfl (by first | rfl | (simp; done) | (simp; rfl) | (simp [h1, h2]; done) | (simp [h1, h2]; rfl) | (simp [h1, h2, Ym, Yd]; done) | (simp [h1, h2, Ym, Yd]; rfl)) (by first | rfl | (simp; done) | (simp; omega) | (simp [h1, h2]; done) | (simp [h1, h2]; omega)) (X0 (fun _ => X06) [(-9223372036854775808)])) (cc .sc cn)))
 clear h; intro h2 h
 refine brE h ?_ ?_
 ·clear h; intro h3 h
  obtain rfl : a0 = 2 := eq_of_beq h3
  refine rn tmD [Bf] rfl (by repeat' first | refine Ya ?_ ?_ | (decide +kernel)|exact X00) ?_
  refine Xa.inline Xe Xql rfl rfl rfl rfl rfl trivial trivial rfl rfl ?_
  refine rn tmD [Bf, .wrap, .wrap] rfl (by repeat' first | refine Ya ?_ ?_ | (decide +kernel)|exact X00) ?_
  refine Xa.inline Xe Xqk rfl rfl rfl rfl rfl trivial trivial rfl rfl ?_
  refine rn tmD [Bf] rfl (by repeat' first | refine Ya ?_ ?_ | (decide +kernel)|exact X00) ?_
  refine Xa.inline Xe Xqi rfl rfl rfl rfl rfl trivial trivial rfl rfl ?_
  refine rn tmD [] rfl (by repeat' first | refine Ya ?_ ?_ | (decide +kernel)|exact X00) ?_
  refine Xa.back (by intro id h; cases h) rfl ?_
  refine rn tmD [] rfl (by repeat' first | refine Ya ?_ ?_ | (decide +kernel)|exact X00) ?_
  refine Xa.back (by intro id h; cases h) rfl ?_
  refine rn tmD [.go true, .go true, Bf, .wrap] rfl (by repeat' first | refine Ya ?_ ?_ | (decide +kernel)|exact ((show ((8 : Nat) : Int) * 2 <= 281474976710656 by decide))|exact X00) ?_
  refine Xa.copyS [(aI .i64 (-9223372036854775808)), (aI .i64 0)] 1 Xe rfl rfl rfl rfl trivial rfl rfl rfl trivial (.ref rfl (by decide)) rfl rfl rfl rfl rfl rfl rfl rfl ?_
  refine rn tmD [] rfl (by repeat' first | refine Ya ?_ ?_ | (decide +kernel)|exact X00) ?_
  refine Xa.round ?_
  refine rn tmD [Bt, .stop 9] rfl (by repeat' first | refine Ya ?_ ?_ | (decide +kernel)|exact X00) ?_
  refine Xa.drawnCutF 7 tmD [] rfl rfl rfl rfl rfl rfl rfl (by decide) rfl rfl rfl (by decide) (by decide) (by decide) (by decide) rfl rfl rfl rfl rfl rfl rfl (by repeat' first | refine Ya ?_ ?_ | (decide +kernel)|exact X00) ?_
  refine rn tmD [] rfl (by repeat' first | refine Ya ?_ ?_ | (decide +kernel)|exact X00) ?_
  refine Xa.copyS [(aI .i64 (-9223372036854775808)), (aI .i64 (-9223372036854775808))] 1 Xe rfl rfl rfl rfl trivial rfl rfl rfl trivial (.ref rfl (by decide)) rfl rfl rfl rfl rfl rfl rfl rfl ?_
  refine rn tmD [] rfl (by repeat' first | refine Ya ?_ ?_ | (decide +kernel)|exact X00) ?_
  refine Xa.round ?_
  refine rn tmD [Bf] rfl (by repeat' first | refine Ya ?_ ?_ | (decide +kernel)|exact X00) ?_
  refine Xa.back (by intro id h; cases h) rfl ?_
  obtain rfl := oj h
  refine rn tmD [] rfl (by repeat' first | refine Ya ?_ ?_ | (decide +kernel)|exact X00) ?_
  exact X8 rfl (X04 (cc (X1b (es := List.map (aI .i64) [(-9223372036854775808), (-9223372036854775808)]) rfl (by first | rfl | (simp; done) | (simp; rfl) | (simp [h1, h2, h3]; done) | (simp [h1, h2, h3]; rfl) | (simp [h1, h2, h3, Ym, Yd]; done) | (simp [h1, h2, h3, Ym, Yd]; rfl)) (by first | rfl | (simp; done) | (simp; omega) | (simp [h1, h2, h3]; done) | (simp [h1, h2, h3]; omega)) (X0 (fun _ => X06) [(-9223372036854775808), (-9223372036854775808)])) (cc .sc cn)))
 clear h; intro h3 h
 refine brE h ?_ ?_
 ·clear h; intro h4 h
  obtain rfl : a0 = 4 := eq_of_beq h4
  refine rn tmD [Bf] rfl (by repeat' first | refine Ya ?_ ?_ | (decide +kernel)|exact X00) ?_
  refine Xa.inline Xe Xql rfl rfl rfl rfl rfl trivial trivial rfl rfl ?_
  refine rn tmD [Bf, .wrap, .wrap] rfl (by repeat' first | refine Ya ?_ ?_ | (decide +kernel)|exact X00) ?_
  refine Xa.inline Xe Xqk rfl rfl rfl rfl rfl trivial trivial rfl rfl ?_
  refine rn tmD [Bf] rfl (by repeat' first | refine Ya ?_ ?_ | (decide +kernel)|exact X00) ?_
  refine Xa.inline Xe Xqi rfl rfl rfl rfl rfl trivial trivial rfl rfl ?_
  refine rn tmD [] rfl (by repeat' first | refine Ya ?_ ?_ | (decide +kernel)|exact X00) ?_
  refine Xa.back (by intro id h; cases h) rfl ?_
  refine rn tmD [] rfl (by repeat' first | refine Ya ?_ ?_ | (decide +kernel)|exact X00) ?_
  refine Xa.back (by intro id h; cases h) rfl ?_
  refine rn tmD [.go true, .go true, Bf, .wrap] rfl (by repeat' first | refine Ya ?_ ?_ | (decide +kernel)|exact ((show ((8 : Nat) : Int) * 4 <= 281474976710656 by decide))|exact X00) ?_
  refine Xa.copyS [(aI .i64 (-9223372036854775808)), (aI .i64 0), (aI .i64 0), (aI .i64 0)] 1 Xe rfl rfl rfl rfl trivial rfl rfl rfl trivial (.ref rfl (by decide)) rfl rfl rfl rfl rfl rfl rfl rfl ?_
  refine rn tmD [] rfl (by repeat' first | refine Ya ?_ ?_ | (decide +kernel)|exact X00) ?_
  refine Xa.round ?_
  refine rn tmD [Bt, .stop 9] rfl (by repeat' first | refine Ya ?_ ?_ | (decide +kernel)|exact X00) ?_
  refine Xa.drawnCutF 7 tmD [] rfl rfl rfl rfl rfl rfl rfl (by decide) rfl rfl rfl (by decide) (by decide) (by decide) (by decide) rfl rfl rfl rfl rfl rfl rfl (by repeat' first | refine Ya ?_ ?_ | (decide +kernel)|exact X00) ?_
  refine rn tmD [] rfl (by repeat' first | refine Ya ?_ ?_ | (decide +kernel)|exact X00) ?_
  refine Xa.copyS [(aI .i64 (-9223372036854775808)), (aI .i64 (-9223372036854775808)), (aI .i64 0), (aI .i64 0)] 1 Xe rfl rfl rfl rfl trivial rfl rfl rfl trivial (.ref rfl (by decide)) rfl rfl rfl rfl rfl rfl rfl rfl ?_
  refine rn tmD [] rfl (by repeat' first | refine Ya ?_ ?_ | (decide +kernel)|exact X00) ?_
  refine Xa.round ?_
  refine rn tmD [Bt, .stop 9] rfl (by repeat' first | refine Ya ?_ ?_ | (decide +kernel)|exact X00) ?_
  refine Xa.drawnCutF 7 tmD [] rfl rfl rfl rfl rfl rfl rfl (by decide) rfl rfl rfl (by decide) (by decide) (by decide) (by decide) rfl rfl rfl rfl rfl rfl rfl (by repeat' first | refine Ya ?_ ?_ | (decide +kernel)|exact X00) ?_
  refine rn tmD [] rfl (by repeat' first | refine Ya ?_ ?_ | (decide +kernel)|exact X00) ?_
  refine Xa.copyS [(aI .i64 (-9223372036854775808)), (aI .i64 (-9223372036854775808)), (aI .i64 (-9223372036854775808)), (aI .i64 (-9223372036854775808))] 2 Xe rfl rfl rfl rfl trivial rfl rfl rfl trivial (.ref rfl (by decide)) rfl rfl rfl rfl rfl rfl rfl rfl ?_
  refine rn tmD [] rfl (by repeat' first | refine Ya ?_ ?_ | (decide +kernel)|exact X00) ?_
  refine Xa.round ?_
  refine rn tmD [Bf] rfl (by repeat' first | refine Ya ?_ ?_ | (decide +kernel)|exact X00) ?_
  refine Xa.back (by intro id h; cases h) rfl ?_
  obtain rfl := oj h
  refine rn tmD [] rfl (by repeat' first | refine Ya ?_ ?_ | (decide +kernel)|exact X00) ?_
  exact X8 rfl (X04 (cc (X1b (es := List.map (aI .i64) [(-9223372036854775808), (-9223372036854775808), (-9223372036854775808), (-9223372036854775808)]) rfl (by first | rfl | (simp; done) | (simp; rfl) | (simp [h1, h2, h3, h4]; done) | (simp [h1, h2, h3, h4]; rfl) | (simp [h1, h2, h3, h4, Ym, Yd]; done) | (simp [h1, h2, h3, h4, Ym, Yd]; rfl)) (by first | rfl | (simp; done) | (simp; omega) | (simp [h1, h2, h3, h4]; done) | (simp [h1, h2, h3, h4]; omega)) (X0 (fun _ => X06) [(-9223372036854775808), (-9223372036854775808), (-9223372036854775808), (-9223372036854775808)])) (cc .sc cn)))
 clear h; intro h4 h
 cases h
theorem X6b (a0 : Int) (a1 : Int) (r : Xn × Int) (h : X91 a0 a1 = some r) : X16 Tryz.prog 4 [(aI .i64 a0), (aI .i64 a1)] (AV.tup [(Xg true r.1), (aI .i64 r.2)]) := by
 refine X16.sym Xe fn4 (nt := 28) rfl rfl ?_ (X6 .sc (X6 .sc X08))
 unfold X91 at h
 refine X3 h ?_
 clear h; intro v1 h2 h
 refine brE h ?_ ?_
 ·clear h; intro h3 h
  obtain rfl := oj h
  refine rn tmD [.pure [(aI .i64 a1)] (AV.tup [(AV.list true (List.map (aI .i64) v1.1)), (aI .i64 v1.2)]), Bt] rfl (by repeat' first|apply Ya|exact (pn (Xcf _ _ h2) (cc .sc cn))|exact X00) ?_
  exact X8 rfl (X04 (cc (X0i (cc .sc (cc .sc (cc .sc (cc (Xu (es := List.map Xp ((Xn.mk (GOp.mk 0 0) 0 ([] : List Xz) ([] : List Int) ([] : List X9) ([] : List Xq) ([] : List X0j) ([] : List Xb)).Pending)) (by simp [*])) (cc (Xu (es := List.map (aI .i64) ((Xn.mk (GOp.mk 0 0) 0 ([] : List Xz) ([] : List Int) ([] : List X9) ([] : List Xq) ([] : List X0j) ([] : List Xb)).Marks)) (by simp [*])) (cc (Xu (es := List.map X2 ((Xn.mk (GOp.mk 0 0) 0 ([] : List Xz) ([] : List Int) ([] : List X9) ([] : List Xq) ([] : List X0j) ([] : List Xb)).Store)) (by simp [*])) (cc (Xu (es := List.map Xv ((Xn.mk (GOp.mk 0 0) 0 ([] : List Xz) ([] : List Int) ([] : List X9) ([] : List Xq) ([] : List X0j) ([] : List Xb)).Events)) (by simp [*])) (cc (Xu (es := List.map Xk ((Xn.mk (GOp.mk 0 0) 0 ([] : List Xz) ([] : List Int) ([] : List X9) ([] : List Xq) ([] : List X0j) ([] : List Xb)).Rows)) (by simp [*])) (cc (Xu (es := List.map Xs ((Xn.mk (GOp.mk 0 0) 0 ([] : List Xz) ([] : List Int) ([] : List X9) ([] : List Xq) ([] : List X0j) ([] : List Xb)).Late)) (by simp [*])) cn)))))))))) (cc .sc cn)))
 clear h; intro h3 h
 obtain rfl := oj h
 refine rn tmD [.pure [(aI .i64 a1)] (AV.tup [(AV.list true (List.map (aI .i64) v1.1)), (aI .i64 v1.2)]), Bf] rfl (by repeat' first|apply Ya|exact (pn (Xcf _ _ h2) (cc .sc cn))|exact X00) ?_
 exact X8 rfl (X04 (cc (X0i (cc .sc (cc .sc (cc .sc (cc (Xu (es := List.map Xp ((Xn.mk (GOp.mk 4 a0) 0 ([] : List Xz) v1.1 ([] : List X9) ([] : List Xq) ([] : List X0j) ([] : List Xb)).Pending)) (by simp [*])) (cc (.listS rfl) (cc (Xu (es := List.map X2 ((Xn.mk (GOp.mk 4 a0) 0 ([] : List Xz) v1.1 ([] : List X9) ([] : List Xq) ([] : List X0j) ([] : List Xb)).Store)) (by simp [*])) (cc (Xu (es := List.map Xv ((Xn.mk (GOp.mk 4 a0) 0 ([] : List Xz) v1.1 ([] : List X9) ([] : List Xq) ([] : List X0j) ([] : List Xb)).Events)) (by simp [*])) (cc (Xu (es := List.map Xk ((Xn.mk (GOp.mk 4 a0) 0 ([] : List Xz) v1.1 ([] : List X9) ([] : List Xq) ([] : List X0j) ([] : List Xb)).Rows)) (by simp [*])) (cc (Xu (es := List.map Xs ((Xn.mk (GOp.mk 4 a0) 0 ([] : List Xz) v1.1 ([] : List X9) ([] : List Xq) ([] : List X0j) ([] : List Xb)).Late)) (by simp [*])) cn)))))))))) (cc .sc cn)))
theorem X4p (r : X2n) (h : X7k = some r) : X16 Tryz.prog 5 [] (X02 true r) := by
 refine X16.sym Xe fn5 (nt := 4) rfl rfl ?_ X08
 unfold X7k at h
 obtain rfl := oj h
 refine Xm tmD [] ?_
 exact X8 rfl (X0i (cc .sc (cc .nils (cc (X1b (es := List.map (aI .i64) ((X2n.mk 1 ([] : List X2r) [0] false ([] : List X2r) (X48.mk 1 10 0) false 1).Sources)) rfl (by first | rfl | (simp; done) | (simp; rfl) | (simp []; done) | (simp []; rfl) | (simp [Ym, Yd]; done) | (simp [Ym, Yd]; rfl)) (by first | rfl | (simp; done) | (simp; omega) | (simp []; done) | (simp []; omega)) (X0 (fun _ => X06) ((X2n.mk 1 ([] : List X2r) [0] false ([] : List X2r) (X48.mk 1 10 0) false 1).Sources))) (cc .sc (cc .nils (cc .sc (cc .sc (cc .sc (cc .sc (cc .sc cn)))))))))))
theorem X2d (a0 : Int) (r : Xt) (h : Xd a0 = some r) : X16 Tryz.prog 7 [(aI .i64 a0)] (Xc r) := by
 refine X16.sym Xe fn7 (nt := 5) rfl rfl ?_ (X6 .sc X08)
 unfold Xd at h
 obtain rfl := oj h
 refine Xm tmD [] ?_
 exact X8 rfl (X0h (x := (Xt.mk 2 (Xb.mk 0 0 0) a0 (X0j.mk 0 (X14.mk 0 0) (V2.mk 0 0)))))
theorem X1l (a0 : Int) (r : Int × Int) (h : Xap a0 = some r) : X16 Tryz.prog 113 [(aI .u8 a0)] (AV.tup [(aI .i64 r.1), (aI .i64 r.2)]) := by
 refine X16.sym Xe Xqm (nt := 25) rfl rfl ?_ (X6 .sc X08)
 unfold Xap at h
 refine brE h ?_ ?_
 ·clear h; intro h1 h
  obtain rfl := oj h
  refine Xm tmD [Bt] ?_
  exact X8 rfl (X04 (cc .sc (cc .sc cn)))
 clear h; intro h1 h
 refine brE h ?_ ?_
 ·clear h; intro h2 h
  obtain rfl := oj h
  refine Xm tmD [Bf, Bt] ?_
  exact X8 rfl (X04 (cc .sc (cc .sc cn)))
 clear h; intro h2 h
 refine brE h ?_ ?_
 ·clear h; intro h3 h
  obtain rfl := oj h
  refine Xm tmD [Bf, Bf, Bt] ?_
  exact X8 rfl (X04 (cc .sc (cc .sc cn)))
 clear h; intro h3 h
 obtain rfl := oj h
 refine Xm tmD [Bf, Bf, Bf] ?_
 exact X8 rfl (X04 (cc .sc (cc .sc cn)))
end Go.Av.Tryz