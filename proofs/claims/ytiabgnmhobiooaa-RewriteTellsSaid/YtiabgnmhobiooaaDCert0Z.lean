/- Printed by decomp.py: that the program computes the functions. -/
import Derived.Test.YtiabgnmhobiooaaDFunZ
import Derived.Test.YtiabgnmhobiooaaTabZ
set_option linter.all false

namespace Go.Av.Try
open Go.Proofs Go.D
set_option maxRecDepth 10000
set_option maxHeartbeats 40000000
theorem tmD:X9r Try.prog Xrj.find/\Try.prog.follows .mixedOrders=true:=⟨X8,by kernel_rfl⟩
instance tmI:TmD Try.prog Xrj.find:=⟨tmD⟩
theorem fn3:X22 Try.prog 3 Try.f3 (Xe Try.f3):=⟨Try.func3,by kernel_rfl,rfl⟩
theorem fn4:X22 Try.prog 4 Try.f4 (Xe Try.f4):=⟨Try.func4,by kernel_rfl,rfl⟩
theorem fn5:X22 Try.prog 5 Try.f5 (Xe Try.f5):=⟨Try.func5,by kernel_rfl,rfl⟩
theorem fn6:X22 Try.prog 6 Try.f6 (Xe Try.f6):=⟨Try.func6,by kernel_rfl,rfl⟩
theorem fn7:X22 Try.prog 7 Try.f7 (Xe Try.f7):=⟨Try.func7,by kernel_rfl,rfl⟩
theorem fn8:X22 Try.prog 8 Try.f8 (Xe Try.f8):=⟨Try.func8,by kernel_rfl,rfl⟩
theorem fn9:X22 Try.prog 9 Try.f9 (Xe Try.f9):=⟨Try.func9,by kernel_rfl,rfl⟩
theorem Xyr:X22 Try.prog 10 Try.f10 (Xe Try.f10):=⟨Try.func10,by kernel_rfl,rfl⟩
theorem Xyq:X22 Try.prog 11 Try.f11 (Xe Try.f11):=⟨Try.func11,by kernel_rfl,rfl⟩
theorem Xyp:X22 Try.prog 12 Try.f12 (Xe Try.f12):=⟨Try.func12,by kernel_rfl,rfl⟩
theorem Xyo:X22 Try.prog 13 Try.f13 (Xe Try.f13):=⟨Try.func13,by kernel_rfl,rfl⟩
theorem Xyn:X22 Try.prog 14 Try.f14 (Xe Try.f14):=⟨Try.func14,by kernel_rfl,rfl⟩
theorem Xym:X22 Try.prog 15 Try.f15 (Xe Try.f15):=⟨Try.func15,by kernel_rfl,rfl⟩
theorem Xyl:X22 Try.prog 16 Try.f16 (Xe Try.f16):=⟨Try.func16,by kernel_rfl,rfl⟩
theorem Xyk:X22 Try.prog 17 Try.f17 (Xe Try.f17):=⟨Try.func17,by kernel_rfl,rfl⟩
theorem Xyj:X22 Try.prog 18 Try.f18 (Xe Try.f18):=⟨Try.func18,by kernel_rfl,rfl⟩
theorem Xyi:X22 Try.prog 19 Try.f19 (Xe Try.f19):=⟨Try.func19,by kernel_rfl,rfl⟩
theorem Xyh:X22 Try.prog 20 Try.f20 (Xe Try.f20):=⟨Try.func20,by kernel_rfl,rfl⟩
theorem Xyg:X22 Try.prog 21 Try.f21 (Xe Try.f21):=⟨Try.func21,by kernel_rfl,rfl⟩
theorem Xyf:X22 Try.prog 22 Try.f22 (Xe Try.f22):=⟨Try.func22,by kernel_rfl,rfl⟩
theorem Xye:X22 Try.prog 23 Try.f23 (Xe Try.f23):=⟨Try.func23,by kernel_rfl,rfl⟩
theorem Xyd:X22 Try.prog 24 Try.f24 (Xe Try.f24):=⟨Try.func24,by kernel_rfl,rfl⟩
theorem Xyc:X22 Try.prog 25 Try.f25 (Xe Try.f25):=⟨Try.func25,by kernel_rfl,rfl⟩
theorem Xyb:X22 Try.prog 26 Try.f26 (Xe Try.f26):=⟨Try.func26,by kernel_rfl,rfl⟩
theorem Xya:X22 Try.prog 27 Try.f27 (Xe Try.f27):=⟨Try.func27,by kernel_rfl,rfl⟩
theorem Xy9:X22 Try.prog 28 Try.f28 (Xe Try.f28):=⟨Try.func28,by kernel_rfl,rfl⟩
theorem Xy8:X22 Try.prog 29 Try.f29 (Xe Try.f29):=⟨Try.func29,by kernel_rfl,rfl⟩
theorem Xy7:X22 Try.prog 30 Try.f30 (Xe Try.f30):=⟨Try.func30,by kernel_rfl,rfl⟩
theorem Xy6:X22 Try.prog 31 Try.f31 (Xe Try.f31):=⟨Try.func31,by kernel_rfl,rfl⟩
theorem Xy5:X22 Try.prog 32 Try.f32 (Xe Try.f32):=⟨Try.func32,by kernel_rfl,rfl⟩
theorem Xy4:X22 Try.prog 33 Try.f33 (Xe Try.f33):=⟨Try.func33,by kernel_rfl,rfl⟩
theorem Xy3:X22 Try.prog 34 Try.f34 (Xe Try.f34):=⟨Try.func34,by kernel_rfl,rfl⟩
theorem Xvp:X22 Try.prog 35 Try.f35 (Xe Try.f35):=⟨Try.func35,by kernel_rfl,rfl⟩
theorem Xw6:X22 Try.prog 36 Try.f36 (Xe Try.f36):=⟨Try.func36,by kernel_rfl,rfl⟩
theorem Xy2:X22 Try.prog 37 Try.f37 (Xe Try.f37):=⟨Try.func37,by kernel_rfl,rfl⟩
theorem Xy1:X22 Try.prog 38 Try.f38 (Xe Try.f38):=⟨Try.func38,by kernel_rfl,rfl⟩
theorem Xy0:X22 Try.prog 39 Try.f39 (Xe Try.f39):=⟨Try.func39,by kernel_rfl,rfl⟩
theorem Xxz:X22 Try.prog 40 Try.f40 (Xe Try.f40):=⟨Try.func40,by kernel_rfl,rfl⟩
theorem Xxy:X22 Try.prog 41 Try.f41 (Xe Try.f41):=⟨Try.func41,by kernel_rfl,rfl⟩
theorem Xxx:X22 Try.prog 42 Try.f42 (Xe Try.f42):=⟨Try.func42,by kernel_rfl,rfl⟩
theorem Xxw:X22 Try.prog 43 Try.f43 (Xe Try.f43):=⟨Try.func43,by kernel_rfl,rfl⟩
theorem Xxv:X22 Try.prog 44 Try.f44 (Xe Try.f44):=⟨Try.func44,by kernel_rfl,rfl⟩
theorem Xxu:X22 Try.prog 45 Try.f45 (Xe Try.f45):=⟨Try.func45,by kernel_rfl,rfl⟩
theorem Xxt:X22 Try.prog 46 Try.f46 (Xe Try.f46):=⟨Try.func46,by kernel_rfl,rfl⟩
theorem Xxs:X22 Try.prog 47 Try.f47 (Xe Try.f47):=⟨Try.func47,by kernel_rfl,rfl⟩
theorem Xxr:X22 Try.prog 48 Try.f48 (Xe Try.f48):=⟨Try.func48,by kernel_rfl,rfl⟩
theorem Xxq:X22 Try.prog 49 Try.f49 (Xe Try.f49):=⟨Try.func49,by kernel_rfl,rfl⟩
theorem Xxp:X22 Try.prog 50 Try.f50 (Xe Try.f50):=⟨Try.func50,by kernel_rfl,rfl⟩
theorem Xxo:X22 Try.prog 51 Try.f51 (Xe Try.f51):=⟨Try.func51,by kernel_rfl,rfl⟩
theorem Xxn:X22 Try.prog 52 Try.f52 (Xe Try.f52):=⟨Try.func52,by kernel_rfl,rfl⟩
theorem Xxm:X22 Try.prog 53 Try.f53 (Xe Try.f53):=⟨Try.func53,by kernel_rfl,rfl⟩
theorem Xxl:X22 Try.prog 54 Try.f54 (Xe Try.f54):=⟨Try.func54,by kernel_rfl,rfl⟩
theorem Xw5:X22 Try.prog 55 Try.f55 (Xe Try.f55):=⟨Try.func55,by kernel_rfl,rfl⟩
theorem Xxk:X22 Try.prog 56 Try.f56 (Xe Try.f56):=⟨Try.func56,by kernel_rfl,rfl⟩
theorem Xxj:X22 Try.prog 57 Try.f57 (Xe Try.f57):=⟨Try.func57,by kernel_rfl,rfl⟩
theorem Xxi:X22 Try.prog 58 Try.f58 (Xe Try.f58):=⟨Try.func58,by kernel_rfl,rfl⟩
theorem Xxh:X22 Try.prog 59 Try.f59 (Xe Try.f59):=⟨Try.func59,by kernel_rfl,rfl⟩
theorem Xxg:X22 Try.prog 60 Try.f60 (Xe Try.f60):=⟨Try.func60,by kernel_rfl,rfl⟩
theorem Xxf:X22 Try.prog 61 Try.f61 (Xe Try.f61):=⟨Try.func61,by kernel_rfl,rfl⟩
theorem Xxe:X22 Try.prog 62 Try.f62 (Xe Try.f62):=⟨Try.func62,by kernel_rfl,rfl⟩
theorem Xxd:X22 Try.prog 63 Try.f63 (Xe Try.f63):=⟨Try.func63,by kernel_rfl,rfl⟩
theorem Xxc:X22 Try.prog 64 Try.f64 (Xe Try.f64):=⟨Try.func64,by kernel_rfl,rfl⟩
theorem Xxb:X22 Try.prog 65 Try.f65 (Xe Try.f65):=⟨Try.func65,by kernel_rfl,rfl⟩
theorem Xxa:X22 Try.prog 66 Try.f66 (Xe Try.f66):=⟨Try.func66,by kernel_rfl,rfl⟩
theorem Xx9:X22 Try.prog 67 Try.f67 (Xe Try.f67):=⟨Try.func67,by kernel_rfl,rfl⟩
theorem Xx8:X22 Try.prog 68 Try.f68 (Xe Try.f68):=⟨Try.func68,by kernel_rfl,rfl⟩
theorem Xx7:X22 Try.prog 69 Try.f69 (Xe Try.f69):=⟨Try.func69,by kernel_rfl,rfl⟩
theorem Xx6:X22 Try.prog 70 Try.f70 (Xe Try.f70):=⟨Try.func70,by kernel_rfl,rfl⟩
theorem Xx5:X22 Try.prog 71 Try.f71 (Xe Try.f71):=⟨Try.func71,by kernel_rfl,rfl⟩
theorem Xx4:X22 Try.prog 72 Try.f72 (Xe Try.f72):=⟨Try.func72,by kernel_rfl,rfl⟩
theorem Xx3:X22 Try.prog 73 Try.f73 (Xe Try.f73):=⟨Try.func73,by kernel_rfl,rfl⟩
theorem Xx2:X22 Try.prog 74 Try.f74 (Xe Try.f74):=⟨Try.func74,by kernel_rfl,rfl⟩
theorem Xw4:X22 Try.prog 75 Try.f75 (Xe Try.f75):=⟨Try.func75,by kernel_rfl,rfl⟩
theorem Xx1:X22 Try.prog 76 Try.f76 (Xe Try.f76):=⟨Try.func76,by kernel_rfl,rfl⟩
theorem Xom:X22 Try.prog 77 Try.f77 (Xe Try.f77):=⟨Try.func77,by kernel_rfl,rfl⟩
theorem Xx0:X22 Try.prog 78 Try.f78 (Xe Try.f78):=⟨Try.func78,by kernel_rfl,rfl⟩
theorem Xwz:X22 Try.prog 79 Try.f79 (Xe Try.f79):=⟨Try.func79,by kernel_rfl,rfl⟩
theorem Xwy:X22 Try.prog 80 Try.f80 (Xe Try.f80):=⟨Try.func80,by kernel_rfl,rfl⟩
theorem Xwx:X22 Try.prog 81 Try.f81 (Xe Try.f81):=⟨Try.func81,by kernel_rfl,rfl⟩
theorem Xww:X22 Try.prog 82 Try.f82 (Xe Try.f82):=⟨Try.func82,by kernel_rfl,rfl⟩
theorem Xwv:X22 Try.prog 83 Try.f83 (Xe Try.f83):=⟨Try.func83,by kernel_rfl,rfl⟩
theorem Xwu:X22 Try.prog 84 Try.f84 (Xe Try.f84):=⟨Try.func84,by kernel_rfl,rfl⟩
theorem Xwt:X22 Try.prog 85 Try.f85 (Xe Try.f85):=⟨Try.func85,by kernel_rfl,rfl⟩
theorem Xws:X22 Try.prog 86 Try.f86 (Xe Try.f86):=⟨Try.func86,by kernel_rfl,rfl⟩
theorem Xwr:X22 Try.prog 87 Try.f87 (Xe Try.f87):=⟨Try.func87,by kernel_rfl,rfl⟩
theorem Xwq:X22 Try.prog 88 Try.f88 (Xe Try.f88):=⟨Try.func88,by kernel_rfl,rfl⟩
theorem Xwp:X22 Try.prog 89 Try.f89 (Xe Try.f89):=⟨Try.func89,by kernel_rfl,rfl⟩
theorem Xwo:X22 Try.prog 90 Try.f90 (Xe Try.f90):=⟨Try.func90,by kernel_rfl,rfl⟩
theorem Xv3:X22 Try.prog 91 Try.f91 (Xe Try.f91):=⟨Try.func91,by kernel_rfl,rfl⟩
theorem Xwn:X22 Try.prog 92 Try.f92 (Xe Try.f92):=⟨Try.func92,by kernel_rfl,rfl⟩
theorem Xwm:X22 Try.prog 93 Try.f93 (Xe Try.f93):=⟨Try.func93,by kernel_rfl,rfl⟩
instance Xo7:PCs Try.prog 10 (∀ (a0:(List X1)) (r:Bool),X6y a0=some r->X0f Try.prog 10 [(Lf (a0.map X0))] (aB r)):=⟨λa0 r h=>by
 refine X0f.sym X8 Xyr (nt:=6) rfl rfl ?_ okM;unfold X6y at h;revert h;exact λe=>oj e▸Xa [.el (aI .i64 (a0.length:Int))] (k:=fi)⟩
instance Xo1:PCs Try.prog 4 (∀ (a0:X2) (r:Bool),X6u a0=some r->X0f Try.prog 4 [(X7 false a0)] (aB r)):=⟨λa0 r h=>by
 refine X0f.sym X8 fn4 (nt:=17) rfl rfl ?_ okM;unfold X6u at h;revert h;refine bI λXvl h14=>rnI [.stop 1] ?_;intro h;refine X4.join (s':=⟨fr [(2,(aB Xvl))],hp ([]),0⟩) ?_ (λJ=>X4.cut ?_)
 ·
  revert h;exact λe=>oj e▸Xa [] (k:=fi)
 clear h;revert h14;refine bI λv8 h9=>brI (λh10=>?_) λh10=>?_
 ·
  intro h;obtain rfl:=oj h;exact Xa [.pure _ (aB v8),Gf,Gf,Gf,Gf,Gf,Gf,Gf] (o:=by repeat' first|apply Ya|exact pcM|exact fq (Xl h10 rfl)|exact Xy) (k:=wkT [] (X4.glue J))
 refine bI λv11 h12=>brI (λh13=>?_) λh13=>?_
 ·
  intro h;obtain rfl:=oj h;exact Xa [.pure _ (aB v8),Gt,Gt,Gt,.pure _ (aB v11),Gf,Gf,Gf,Gf] (o:=by repeat' first|apply Ya|exact pcM|exact fq (Xo h10 h13)|exact Xy) (k:=wkT [] (X4.glue J))
 intro h;obtain rfl:=oj h;exact Xa [.pure _ (aB v8),Gt,Gt,Gt,.pure _ (aB v11),Gt,Gt,Gt,.el (aI .i64 (a0.Sources.length:Int)),Gt] (o:=by repeat' first|apply Ya|exact pcM|exact fq (Xo h10 h13)|exact Xy) (k:=wkT [] (X4.glue J))⟩
instance Xog:PCs Try.prog 72 (∀ (a0:Int) (r:Int×Int),X1z a0=some r->X0f Try.prog 72 [(aI .u8 a0)] (AV.tup [(aI .i64 r.1),(aI .i64 r.2)])):=⟨λa0 r h=>by
 refine X0f.sym X8 Xx4 (nt:=25) rfl rfl ?_ okM;unfold X1z at h;revert h;exact brI (λh1=>λe=>oj e▸Xa [Bt] (k:=fi)) λh1=>brI (λh2=>λe=>oj e▸Xa [Bf,Bt] (k:=fi)) λh2=>brI (λh3=>λe=>oj e▸Xa [Bf,Bf,Bt] (k:=fi)) λh3=>λe=>oj e▸Xa [Bf,Bf,Bf] (k:=fi)⟩
end Go.Av.Try