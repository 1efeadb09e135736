/- Printed by decomp.py: that the program computes the functions. -/
import Derived.Test.YtdpeaabenapeaaaGreatDFunZ
import Derived.Test.YtdpeaabenapeaaaGreatTabZ
import Derived.Test.YtdpeaabenapeaaaGreatDeleteZ
import Derived.Test.YtdpeaabenapeaaaGreatInsertZ
set_option linter.all false

namespace Go.Av.Tryz
open Go.Proofs Go.D
set_option maxRecDepth 10000
set_option maxHeartbeats 40000000
theorem tmD:Xb0 Tryz.prog Xy9.find/\Tryz.prog.follows .mixedOrders=true:=⟨X7,by kernel_rfl⟩
instance tmI:TmD Tryz.prog Xy9.find:=⟨tmD⟩
theorem fn3:X1m Tryz.prog 3 Tryz.f3 (Xh Tryz.f3):=⟨Tryz.func3,by kernel_rfl,rfl⟩
theorem fn4:X1m Tryz.prog 4 Tryz.f4 (Xh Tryz.f4):=⟨Tryz.func4,by kernel_rfl,rfl⟩
theorem fn5:X1m Tryz.prog 5 Tryz.f5 (Xh Tryz.f5):=⟨Tryz.func5,by kernel_rfl,rfl⟩
theorem fn6:X1m Tryz.prog 6 Tryz.f6 (Xh Tryz.f6):=⟨Tryz.func6,by kernel_rfl,rfl⟩
theorem fn7:X1m Tryz.prog 7 Tryz.f7 (Xh Tryz.f7):=⟨Tryz.func7,by kernel_rfl,rfl⟩
theorem fn8:X1m Tryz.prog 8 Tryz.f8 (Xh Tryz.f8):=⟨Tryz.func8,by kernel_rfl,rfl⟩
theorem fn9:X1m Tryz.prog 9 Tryz.f9 (Xh Tryz.f9):=⟨Tryz.func9,by kernel_rfl,rfl⟩
theorem fn10:X1m Tryz.prog 10 Tryz.f10 (Xh Tryz.f10):=⟨Tryz.func10,by kernel_rfl,rfl⟩
theorem fn11:X1m Tryz.prog 11 Tryz.f11 (Xh Tryz.f11):=⟨Tryz.func11,by kernel_rfl,rfl⟩
theorem fn12:X1m Tryz.prog 12 Tryz.f12 (Xh Tryz.f12):=⟨Tryz.func12,by kernel_rfl,rfl⟩
theorem fn13:X1m Tryz.prog 13 Tryz.f13 (Xh Tryz.f13):=⟨Tryz.func13,by kernel_rfl,rfl⟩
theorem fn14:X1m Tryz.prog 14 Tryz.f14 (Xh Tryz.f14):=⟨Tryz.func14,by kernel_rfl,rfl⟩
theorem fn15:X1m Tryz.prog 15 Tryz.f15 (Xh Tryz.f15):=⟨Tryz.func15,by kernel_rfl,rfl⟩
theorem fn16:X1m Tryz.prog 16 Tryz.f16 (Xh Tryz.f16):=⟨Tryz.func16,by kernel_rfl,rfl⟩
theorem fn17:X1m Tryz.prog 17 Tryz.f17 (Xh Tryz.f17):=⟨Tryz.func17,by kernel_rfl,rfl⟩
theorem fn18:X1m Tryz.prog 18 Tryz.f18 (Xh Tryz.f18):=⟨Tryz.func18,by kernel_rfl,rfl⟩
theorem fn19:X1m Tryz.prog 19 Tryz.f19 (Xh Tryz.f19):=⟨Tryz.func19,by kernel_rfl,rfl⟩
theorem fn20:X1m Tryz.prog 20 Tryz.f20 (Xh Tryz.f20):=⟨Tryz.func20,by kernel_rfl,rfl⟩
theorem fn21:X1m Tryz.prog 21 Tryz.f21 (Xh Tryz.f21):=⟨Tryz.func21,by kernel_rfl,rfl⟩
theorem fn22:X1m Tryz.prog 22 Tryz.f22 (Xh Tryz.f22):=⟨Tryz.func22,by kernel_rfl,rfl⟩
theorem fn23:X1m Tryz.prog 23 Tryz.f23 (Xh Tryz.f23):=⟨Tryz.func23,by kernel_rfl,rfl⟩
theorem fn24:X1m Tryz.prog 24 Tryz.f24 (Xh Tryz.f24):=⟨Tryz.func24,by kernel_rfl,rfl⟩
theorem fn25:X1m Tryz.prog 25 Tryz.f25 (Xh Tryz.f25):=⟨Tryz.func25,by kernel_rfl,rfl⟩
theorem fn26:X1m Tryz.prog 26 Tryz.f26 (Xh Tryz.f26):=⟨Tryz.func26,by kernel_rfl,rfl⟩
theorem fn27:X1m Tryz.prog 27 Tryz.f27 (Xh Tryz.f27):=⟨Tryz.func27,by kernel_rfl,rfl⟩
theorem fn28:X1m Tryz.prog 28 Tryz.f28 (Xh Tryz.f28):=⟨Tryz.func28,by kernel_rfl,rfl⟩
theorem fn29:X1m Tryz.prog 29 Tryz.f29 (Xh Tryz.f29):=⟨Tryz.func29,by kernel_rfl,rfl⟩
theorem fn30:X1m Tryz.prog 30 Tryz.f30 (Xh Tryz.f30):=⟨Tryz.func30,by kernel_rfl,rfl⟩
theorem fn31:X1m Tryz.prog 31 Tryz.f31 (Xh Tryz.f31):=⟨Tryz.func31,by kernel_rfl,rfl⟩
theorem fn32:X1m Tryz.prog 32 Tryz.f32 (Xh Tryz.f32):=⟨Tryz.func32,by kernel_rfl,rfl⟩
theorem fn33:X1m Tryz.prog 33 Tryz.f33 (Xh Tryz.f33):=⟨Tryz.func33,by kernel_rfl,rfl⟩
theorem fn34:X1m Tryz.prog 34 Tryz.f34 (Xh Tryz.f34):=⟨Tryz.func34,by kernel_rfl,rfl⟩
theorem fn35:X1m Tryz.prog 35 Tryz.f35 (Xh Tryz.f35):=⟨Tryz.func35,by kernel_rfl,rfl⟩
theorem fn36:X1m Tryz.prog 36 Tryz.f36 (Xh Tryz.f36):=⟨Tryz.func36,by kernel_rfl,rfl⟩
theorem fn37:X1m Tryz.prog 37 Tryz.f37 (Xh Tryz.f37):=⟨Tryz.func37,by kernel_rfl,rfl⟩
theorem fn38:X1m Tryz.prog 38 Tryz.f38 (Xh Tryz.f38):=⟨Tryz.func38,by kernel_rfl,rfl⟩
theorem fn39:X1m Tryz.prog 39 Tryz.f39 (Xh Tryz.f39):=⟨Tryz.func39,by kernel_rfl,rfl⟩
theorem fn40:X1m Tryz.prog 40 Tryz.f40 (Xh Tryz.f40):=⟨Tryz.func40,by kernel_rfl,rfl⟩
theorem fn41:X1m Tryz.prog 41 Tryz.f41 (Xh Tryz.f41):=⟨Tryz.func41,by kernel_rfl,rfl⟩
theorem fn42:X1m Tryz.prog 42 Tryz.f42 (Xh Tryz.f42):=⟨Tryz.func42,by kernel_rfl,rfl⟩
theorem fn43:X1m Tryz.prog 43 Tryz.f43 (Xh Tryz.f43):=⟨Tryz.func43,by kernel_rfl,rfl⟩
theorem fn44:X1m Tryz.prog 44 Tryz.f44 (Xh Tryz.f44):=⟨Tryz.func44,by kernel_rfl,rfl⟩
theorem fn45:X1m Tryz.prog 45 Tryz.f45 (Xh Tryz.f45):=⟨Tryz.func45,by kernel_rfl,rfl⟩
theorem fn46:X1m Tryz.prog 46 Tryz.f46 (Xh Tryz.f46):=⟨Tryz.func46,by kernel_rfl,rfl⟩
theorem fn47:X1m Tryz.prog 47 Tryz.f47 (Xh Tryz.f47):=⟨Tryz.func47,by kernel_rfl,rfl⟩
theorem fn48:X1m Tryz.prog 48 Tryz.f48 (Xh Tryz.f48):=⟨Tryz.func48,by kernel_rfl,rfl⟩
theorem fn49:X1m Tryz.prog 49 Tryz.f49 (Xh Tryz.f49):=⟨Tryz.func49,by kernel_rfl,rfl⟩
theorem fn50:X1m Tryz.prog 50 Tryz.f50 (Xh Tryz.f50):=⟨Tryz.func50,by kernel_rfl,rfl⟩
theorem fn51:X1m Tryz.prog 51 Tryz.f51 (Xh Tryz.f51):=⟨Tryz.func51,by kernel_rfl,rfl⟩
theorem fn52:X1m Tryz.prog 52 Tryz.f52 (Xh Tryz.f52):=⟨Tryz.func52,by kernel_rfl,rfl⟩
theorem fn53:X1m Tryz.prog 53 Tryz.f53 (Xh Tryz.f53):=⟨Tryz.func53,by kernel_rfl,rfl⟩
theorem fn54:X1m Tryz.prog 54 Tryz.f54 (Xh Tryz.f54):=⟨Tryz.func54,by kernel_rfl,rfl⟩
theorem fn55:X1m Tryz.prog 55 Tryz.f55 (Xh Tryz.f55):=⟨Tryz.func55,by kernel_rfl,rfl⟩
theorem fn56:X1m Tryz.prog 56 Tryz.f56 (Xh Tryz.f56):=⟨Tryz.func56,by kernel_rfl,rfl⟩
theorem fn57:X1m Tryz.prog 57 Tryz.f57 (Xh Tryz.f57):=⟨Tryz.func57,by kernel_rfl,rfl⟩
theorem fn58:X1m Tryz.prog 58 Tryz.f58 (Xh Tryz.f58):=⟨Tryz.func58,by kernel_rfl,rfl⟩
theorem fn59:X1m Tryz.prog 59 Tryz.f59 (Xh Tryz.f59):=⟨Tryz.func59,by kernel_rfl,rfl⟩
theorem fn60:X1m Tryz.prog 60 Tryz.f60 (Xh Tryz.f60):=⟨Tryz.func60,by kernel_rfl,rfl⟩
theorem fn61:X1m Tryz.prog 61 Tryz.f61 (Xh Tryz.f61):=⟨Tryz.func61,by kernel_rfl,rfl⟩
theorem fn62:X1m Tryz.prog 62 Tryz.f62 (Xh Tryz.f62):=⟨Tryz.func62,by kernel_rfl,rfl⟩
theorem fn63:X1m Tryz.prog 63 Tryz.f63 (Xh Tryz.f63):=⟨Tryz.func63,by kernel_rfl,rfl⟩
theorem fn64:X1m Tryz.prog 64 Tryz.f64 (Xh Tryz.f64):=⟨Tryz.func64,by kernel_rfl,rfl⟩
theorem fn65:X1m Tryz.prog 65 Tryz.f65 (Xh Tryz.f65):=⟨Tryz.func65,by kernel_rfl,rfl⟩
theorem fn66:X1m Tryz.prog 66 Tryz.f66 (Xh Tryz.f66):=⟨Tryz.func66,by kernel_rfl,rfl⟩
theorem fn67:X1m Tryz.prog 67 Tryz.f67 (Xh Tryz.f67):=⟨Tryz.func67,by kernel_rfl,rfl⟩
theorem fn68:X1m Tryz.prog 68 Tryz.f68 (Xh Tryz.f68):=⟨Tryz.func68,by kernel_rfl,rfl⟩
theorem fn69:X1m Tryz.prog 69 Tryz.f69 (Xh Tryz.f69):=⟨Tryz.func69,by kernel_rfl,rfl⟩
theorem fn70:X1m Tryz.prog 70 Tryz.f70 (Xh Tryz.f70):=⟨Tryz.func70,by kernel_rfl,rfl⟩
theorem fn71:X1m Tryz.prog 71 Tryz.f71 (Xh Tryz.f71):=⟨Tryz.func71,by kernel_rfl,rfl⟩
theorem fn72:X1m Tryz.prog 72 Tryz.f72 (Xh Tryz.f72):=⟨Tryz.func72,by kernel_rfl,rfl⟩
theorem fn73:X1m Tryz.prog 73 Tryz.f73 (Xh Tryz.f73):=⟨Tryz.func73,by kernel_rfl,rfl⟩
theorem fn74:X1m Tryz.prog 74 Tryz.f74 (Xh Tryz.f74):=⟨Tryz.func74,by kernel_rfl,rfl⟩
theorem fn75:X1m Tryz.prog 75 Tryz.f75 (Xh Tryz.f75):=⟨Tryz.func75,by kernel_rfl,rfl⟩
theorem fn76:X1m Tryz.prog 76 Tryz.f76 (Xh Tryz.f76):=⟨Tryz.func76,by kernel_rfl,rfl⟩
theorem fn77:X1m Tryz.prog 77 Tryz.f77 (Xh Tryz.f77):=⟨Tryz.func77,by kernel_rfl,rfl⟩
theorem fn78:X1m Tryz.prog 78 Tryz.f78 (Xh Tryz.f78):=⟨Tryz.func78,by kernel_rfl,rfl⟩
theorem fn79:X1m Tryz.prog 79 Tryz.f79 (Xh Tryz.f79):=⟨Tryz.func79,by kernel_rfl,rfl⟩
theorem fn80:X1m Tryz.prog 80 Tryz.f80 (Xh Tryz.f80):=⟨Tryz.func80,by kernel_rfl,rfl⟩
theorem fn81:X1m Tryz.prog 81 Tryz.f81 (Xh Tryz.f81):=⟨Tryz.func81,by kernel_rfl,rfl⟩
theorem fn82:X1m Tryz.prog 82 Tryz.f82 (Xh Tryz.f82):=⟨Tryz.func82,by kernel_rfl,rfl⟩
theorem fn84:X1m Tryz.prog 84 Tryz.f84 (Xh Tryz.f84):=⟨Tryz.func84,by kernel_rfl,rfl⟩
theorem fn85:X1m Tryz.prog 85 Tryz.f85 (Xh Tryz.f85):=⟨Tryz.func85,by kernel_rfl,rfl⟩
theorem fn86:X1m Tryz.prog 86 Tryz.f86 (Xh Tryz.f86):=⟨Tryz.func86,by kernel_rfl,rfl⟩
theorem fn89:X1m Tryz.prog 89 Tryz.f89 (Xh Tryz.f89):=⟨Tryz.func89,by kernel_rfl,rfl⟩
theorem fn90:X1m Tryz.prog 90 Tryz.f90 (Xh Tryz.f90):=⟨Tryz.func90,by kernel_rfl,rfl⟩
theorem fn91:X1m Tryz.prog 91 Tryz.f91 (Xh Tryz.f91):=⟨Tryz.func91,by kernel_rfl,rfl⟩
theorem fn92:X1m Tryz.prog 92 Tryz.f92 (Xh Tryz.f92):=⟨Tryz.func92,by kernel_rfl,rfl⟩
theorem fn93:X1m Tryz.prog 93 Tryz.f93 (Xh Tryz.f93):=⟨Tryz.func93,by kernel_rfl,rfl⟩
theorem fn94:X1m Tryz.prog 94 Tryz.f94 (Xh Tryz.f94):=⟨Tryz.func94,by kernel_rfl,rfl⟩
theorem fn95:X1m Tryz.prog 95 Tryz.f95 (Xh Tryz.f95):=⟨Tryz.func95,by kernel_rfl,rfl⟩
theorem fn96:X1m Tryz.prog 96 Tryz.f96 (Xh Tryz.f96):=⟨Tryz.func96,by kernel_rfl,rfl⟩
theorem fn97:X1m Tryz.prog 97 Tryz.f97 (Xh Tryz.f97):=⟨Tryz.func97,by kernel_rfl,rfl⟩
theorem fn98:X1m Tryz.prog 98 Tryz.f98 (Xh Tryz.f98):=⟨Tryz.func98,by kernel_rfl,rfl⟩
theorem fn99:X1m Tryz.prog 99 Tryz.f99 (Xh Tryz.f99):=⟨Tryz.func99,by kernel_rfl,rfl⟩
theorem X03b:X1m Tryz.prog 101 Tryz.f101 (Xh Tryz.f101):=⟨Tryz.func101,by kernel_rfl,rfl⟩
theorem X03a:X1m Tryz.prog 102 Tryz.f102 (Xh Tryz.f102):=⟨Tryz.func102,by kernel_rfl,rfl⟩
theorem X039:X1m Tryz.prog 103 Tryz.f103 (Xh Tryz.f103):=⟨Tryz.func103,by kernel_rfl,rfl⟩
theorem X038:X1m Tryz.prog 104 Tryz.f104 (Xh Tryz.f104):=⟨Tryz.func104,by kernel_rfl,rfl⟩
theorem X037:X1m Tryz.prog 105 Tryz.f105 (Xh Tryz.f105):=⟨Tryz.func105,by kernel_rfl,rfl⟩
theorem Xx2:X1m Tryz.prog 106 Tryz.f106 (Xh Tryz.f106):=⟨Tryz.func106,by kernel_rfl,rfl⟩
theorem Xhz:X1m Tryz.prog 107 Tryz.f107 (Xh Tryz.f107):=⟨Tryz.func107,by kernel_rfl,rfl⟩
theorem X01q:X1m Tryz.prog 108 Tryz.f108 (Xh Tryz.f108):=⟨Tryz.func108,by kernel_rfl,rfl⟩
theorem X036:X1m Tryz.prog 117 Tryz.f117 (Xh Tryz.f117):=⟨Tryz.func117,by kernel_rfl,rfl⟩
theorem X035:X1m Tryz.prog 119 Tryz.f119 (Xh Tryz.f119):=⟨Tryz.func119,by kernel_rfl,rfl⟩
instance Xz3:PCs Tryz.prog 9 (∀ (a0:Int) (a1:Int) (a2:Int) (r:Xa),Xae a0 a1 a2=some r->X0j Tryz.prog 9 [(aI .i64 a0),(aI .i64 a1),(aI .i64 a2)] (X0 r)):=⟨λa0 a1 a2 r h=>by
 refine X0j.sym X7 fn9 (nt:=12) rfl rfl ?_ okM;unfold Xae at h;revert h;exact λe=>oj e▸X8 [] (k:=fi)⟩
instance Xw6:PCs Tryz.prog 11 (∀ (a0:Int) (r:Xa),Xeb a0=some r->X0j Tryz.prog 11 [(aI .i64 a0)] (X0 r)):=⟨λa0 r h=>by
 refine X0j.sym X7 fn11 (nt:=5) rfl rfl ?_ okM;unfold Xeb at h;revert h;exact λe=>oj e▸X8 [] (k:=fi)⟩
instance Xxq:PCs Tryz.prog 12 (∀ (r:Xt),Xgo=some r->X0j Tryz.prog 12 [] (Xk true r)):=⟨λr h=>by
 refine X0j.sym X7 fn12 (nt:=6) rfl rfl ?_ okM;unfold Xgo at h;revert h;exact λe=>oj e▸X8 [] (k:=fi)⟩
instance Xv9:PCs Tryz.prog 105 (∀ (a0:Int) (r:Int×Int),X8f a0=some r->X0j Tryz.prog 105 [(aI .u8 a0)] (AV.tup [(aI .i64 r.1),(aI .i64 r.2)])):=⟨λa0 r h=>by
 refine X0j.sym X7 X037 (nt:=25) rfl rfl ?_ okM;unfold X8f at h;revert h;exact brI (λh1=>λe=>oj e▸X8 [Bt] (k:=fi)) λh1=>brI (λh2=>λe=>oj e▸X8 [Bf,Bt] (k:=fi)) λh2=>brI (λh3=>λe=>oj e▸X8 [Bf,Bf,Bt] (k:=fi)) λh3=>λe=>oj e▸X8 [Bf,Bf,Bf] (k:=fi)⟩
end Go.Av.Tryz