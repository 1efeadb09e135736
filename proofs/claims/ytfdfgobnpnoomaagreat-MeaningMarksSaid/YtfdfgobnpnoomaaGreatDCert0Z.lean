/- Printed by decomp.py: that the program computes the functions. -/
import Derived.Test.YtfdfgobnpnoomaaGreatDFunZ
import Derived.Test.YtfdfgobnpnoomaaGreatTabZ
import Derived.Test.YtfdfgobnpnoomaaGreatDeleteZ
import Derived.Test.YtfdfgobnpnoomaaGreatInsertZ
set_option linter.all false

namespace Go.Av.Tryz
open Go.Proofs Go.D
set_option maxRecDepth 10000
set_option maxHeartbeats 40000000
theorem tmD:Xaw Tryz.prog X024.find/\Tryz.prog.follows .mixedOrders=true:=⟨Xh,by kernel_rfl⟩
instance tmI:TmD Tryz.prog X024.find:=⟨tmD⟩
theorem fn7:X2d Tryz.prog 7 Tryz.f7 (Xu Tryz.f7):=⟨Tryz.func7,by kernel_rfl,rfl⟩
theorem fn10:X2d Tryz.prog 10 Tryz.f10 (Xu Tryz.f10):=⟨Tryz.func10,by kernel_rfl,rfl⟩
theorem fn15:X2d Tryz.prog 15 Tryz.f15 (Xu Tryz.f15):=⟨Tryz.func15,by kernel_rfl,rfl⟩
theorem fn16:X2d Tryz.prog 16 Tryz.f16 (Xu Tryz.f16):=⟨Tryz.func16,by kernel_rfl,rfl⟩
theorem fn17:X2d Tryz.prog 17 Tryz.f17 (Xu Tryz.f17):=⟨Tryz.func17,by kernel_rfl,rfl⟩
theorem fn19:X2d Tryz.prog 19 Tryz.f19 (Xu Tryz.f19):=⟨Tryz.func19,by kernel_rfl,rfl⟩
theorem fn21:X2d Tryz.prog 21 Tryz.f21 (Xu Tryz.f21):=⟨Tryz.func21,by kernel_rfl,rfl⟩
theorem fn23:X2d Tryz.prog 23 Tryz.f23 (Xu Tryz.f23):=⟨Tryz.func23,by kernel_rfl,rfl⟩
theorem fn25:X2d Tryz.prog 25 Tryz.f25 (Xu Tryz.f25):=⟨Tryz.func25,by kernel_rfl,rfl⟩
theorem fn26:X2d Tryz.prog 26 Tryz.f26 (Xu Tryz.f26):=⟨Tryz.func26,by kernel_rfl,rfl⟩
theorem fn27:X2d Tryz.prog 27 Tryz.f27 (Xu Tryz.f27):=⟨Tryz.func27,by kernel_rfl,rfl⟩
theorem fn28:X2d Tryz.prog 28 Tryz.f28 (Xu Tryz.f28):=⟨Tryz.func28,by kernel_rfl,rfl⟩
theorem fn29:X2d Tryz.prog 29 Tryz.f29 (Xu Tryz.f29):=⟨Tryz.func29,by kernel_rfl,rfl⟩
theorem fn30:X2d Tryz.prog 30 Tryz.f30 (Xu Tryz.f30):=⟨Tryz.func30,by kernel_rfl,rfl⟩
theorem fn31:X2d Tryz.prog 31 Tryz.f31 (Xu Tryz.f31):=⟨Tryz.func31,by kernel_rfl,rfl⟩
theorem fn34:X2d Tryz.prog 34 Tryz.f34 (Xu Tryz.f34):=⟨Tryz.func34,by kernel_rfl,rfl⟩
theorem fn35:X2d Tryz.prog 35 Tryz.f35 (Xu Tryz.f35):=⟨Tryz.func35,by kernel_rfl,rfl⟩
theorem fn43:X2d Tryz.prog 43 Tryz.f43 (Xu Tryz.f43):=⟨Tryz.func43,by kernel_rfl,rfl⟩
theorem fn44:X2d Tryz.prog 44 Tryz.f44 (Xu Tryz.f44):=⟨Tryz.func44,by kernel_rfl,rfl⟩
theorem fn45:X2d Tryz.prog 45 Tryz.f45 (Xu Tryz.f45):=⟨Tryz.func45,by kernel_rfl,rfl⟩
theorem fn46:X2d Tryz.prog 46 Tryz.f46 (Xu Tryz.f46):=⟨Tryz.func46,by kernel_rfl,rfl⟩
theorem fn48:X2d Tryz.prog 48 Tryz.f48 (Xu Tryz.f48):=⟨Tryz.func48,by kernel_rfl,rfl⟩
theorem fn49:X2d Tryz.prog 49 Tryz.f49 (Xu Tryz.f49):=⟨Tryz.func49,by kernel_rfl,rfl⟩
theorem fn50:X2d Tryz.prog 50 Tryz.f50 (Xu Tryz.f50):=⟨Tryz.func50,by kernel_rfl,rfl⟩
theorem fn51:X2d Tryz.prog 51 Tryz.f51 (Xu Tryz.f51):=⟨Tryz.func51,by kernel_rfl,rfl⟩
theorem fn52:X2d Tryz.prog 52 Tryz.f52 (Xu Tryz.f52):=⟨Tryz.func52,by kernel_rfl,rfl⟩
theorem fn53:X2d Tryz.prog 53 Tryz.f53 (Xu Tryz.f53):=⟨Tryz.func53,by kernel_rfl,rfl⟩
theorem fn56:X2d Tryz.prog 56 Tryz.f56 (Xu Tryz.f56):=⟨Tryz.func56,by kernel_rfl,rfl⟩
theorem fn57:X2d Tryz.prog 57 Tryz.f57 (Xu Tryz.f57):=⟨Tryz.func57,by kernel_rfl,rfl⟩
theorem fn58:X2d Tryz.prog 58 Tryz.f58 (Xu Tryz.f58):=⟨Tryz.func58,by kernel_rfl,rfl⟩
theorem fn59:X2d Tryz.prog 59 Tryz.f59 (Xu Tryz.f59):=⟨Tryz.func59,by kernel_rfl,rfl⟩
theorem fn65:X2d Tryz.prog 65 Tryz.f65 (Xu Tryz.f65):=⟨Tryz.func65,by kernel_rfl,rfl⟩
theorem fn66:X2d Tryz.prog 66 Tryz.f66 (Xu Tryz.f66):=⟨Tryz.func66,by kernel_rfl,rfl⟩
theorem fn70:X2d Tryz.prog 70 Tryz.f70 (Xu Tryz.f70):=⟨Tryz.func70,by kernel_rfl,rfl⟩
theorem fn71:X2d Tryz.prog 71 Tryz.f71 (Xu Tryz.f71):=⟨Tryz.func71,by kernel_rfl,rfl⟩
theorem fn72:X2d Tryz.prog 72 Tryz.f72 (Xu Tryz.f72):=⟨Tryz.func72,by kernel_rfl,rfl⟩
theorem fn73:X2d Tryz.prog 73 Tryz.f73 (Xu Tryz.f73):=⟨Tryz.func73,by kernel_rfl,rfl⟩
theorem fn74:X2d Tryz.prog 74 Tryz.f74 (Xu Tryz.f74):=⟨Tryz.func74,by kernel_rfl,rfl⟩
theorem fn75:X2d Tryz.prog 75 Tryz.f75 (Xu Tryz.f75):=⟨Tryz.func75,by kernel_rfl,rfl⟩
theorem fn76:X2d Tryz.prog 76 Tryz.f76 (Xu Tryz.f76):=⟨Tryz.func76,by kernel_rfl,rfl⟩
theorem fn77:X2d Tryz.prog 77 Tryz.f77 (Xu Tryz.f77):=⟨Tryz.func77,by kernel_rfl,rfl⟩
theorem fn78:X2d Tryz.prog 78 Tryz.f78 (Xu Tryz.f78):=⟨Tryz.func78,by kernel_rfl,rfl⟩
theorem fn79:X2d Tryz.prog 79 Tryz.f79 (Xu Tryz.f79):=⟨Tryz.func79,by kernel_rfl,rfl⟩
theorem fn80:X2d Tryz.prog 80 Tryz.f80 (Xu Tryz.f80):=⟨Tryz.func80,by kernel_rfl,rfl⟩
theorem fn81:X2d Tryz.prog 81 Tryz.f81 (Xu Tryz.f81):=⟨Tryz.func81,by kernel_rfl,rfl⟩
theorem fn82:X2d Tryz.prog 82 Tryz.f82 (Xu Tryz.f82):=⟨Tryz.func82,by kernel_rfl,rfl⟩
theorem fn83:X2d Tryz.prog 83 Tryz.f83 (Xu Tryz.f83):=⟨Tryz.func83,by kernel_rfl,rfl⟩
theorem fn84:X2d Tryz.prog 84 Tryz.f84 (Xu Tryz.f84):=⟨Tryz.func84,by kernel_rfl,rfl⟩
theorem fn85:X2d Tryz.prog 85 Tryz.f85 (Xu Tryz.f85):=⟨Tryz.func85,by kernel_rfl,rfl⟩
theorem fn92:X2d Tryz.prog 92 Tryz.f92 (Xu Tryz.f92):=⟨Tryz.func92,by kernel_rfl,rfl⟩
theorem fn93:X2d Tryz.prog 93 Tryz.f93 (Xu Tryz.f93):=⟨Tryz.func93,by kernel_rfl,rfl⟩
theorem fn94:X2d Tryz.prog 94 Tryz.f94 (Xu Tryz.f94):=⟨Tryz.func94,by kernel_rfl,rfl⟩
theorem fn95:X2d Tryz.prog 95 Tryz.f95 (Xu Tryz.f95):=⟨Tryz.func95,by kernel_rfl,rfl⟩
theorem fn96:X2d Tryz.prog 96 Tryz.f96 (Xu Tryz.f96):=⟨Tryz.func96,by kernel_rfl,rfl⟩
theorem fn97:X2d Tryz.prog 97 Tryz.f97 (Xu Tryz.f97):=⟨Tryz.func97,by kernel_rfl,rfl⟩
theorem X08a:X2d Tryz.prog 102 Tryz.f102 (Xu Tryz.f102):=⟨Tryz.func102,by kernel_rfl,rfl⟩
theorem X089:X2d Tryz.prog 104 Tryz.f104 (Xu Tryz.f104):=⟨Tryz.func104,by kernel_rfl,rfl⟩
theorem Xug:X2d Tryz.prog 105 Tryz.f105 (Xu Tryz.f105):=⟨Tryz.func105,by kernel_rfl,rfl⟩
theorem X088:X2d Tryz.prog 106 Tryz.f106 (Xu Tryz.f106):=⟨Tryz.func106,by kernel_rfl,rfl⟩
theorem X087:X2d Tryz.prog 107 Tryz.f107 (Xu Tryz.f107):=⟨Tryz.func107,by kernel_rfl,rfl⟩
theorem X086:X2d Tryz.prog 108 Tryz.f108 (Xu Tryz.f108):=⟨Tryz.func108,by kernel_rfl,rfl⟩
theorem X085:X2d Tryz.prog 109 Tryz.f109 (Xu Tryz.f109):=⟨Tryz.func109,by kernel_rfl,rfl⟩
theorem X084:X2d Tryz.prog 110 Tryz.f110 (Xu Tryz.f110):=⟨Tryz.func110,by kernel_rfl,rfl⟩
theorem X083:X2d Tryz.prog 111 Tryz.f111 (Xu Tryz.f111):=⟨Tryz.func111,by kernel_rfl,rfl⟩
theorem X062:X2d Tryz.prog 112 Tryz.f112 (Xu Tryz.f112):=⟨Tryz.func112,by kernel_rfl,rfl⟩
theorem X061:X2d Tryz.prog 113 Tryz.f113 (Xu Tryz.f113):=⟨Tryz.func113,by kernel_rfl,rfl⟩
theorem X082:X2d Tryz.prog 114 Tryz.f114 (Xu Tryz.f114):=⟨Tryz.func114,by kernel_rfl,rfl⟩
theorem X040:X2d Tryz.prog 115 Tryz.f115 (Xu Tryz.f115):=⟨Tryz.func115,by kernel_rfl,rfl⟩
theorem X081:X2d Tryz.prog 116 Tryz.f116 (Xu Tryz.f116):=⟨Tryz.func116,by kernel_rfl,rfl⟩
theorem X080:X2d Tryz.prog 117 Tryz.f117 (Xu Tryz.f117):=⟨Tryz.func117,by kernel_rfl,rfl⟩
theorem X07z:X2d Tryz.prog 118 Tryz.f118 (Xu Tryz.f118):=⟨Tryz.func118,by kernel_rfl,rfl⟩
theorem X07y:X2d Tryz.prog 119 Tryz.f119 (Xu Tryz.f119):=⟨Tryz.func119,by kernel_rfl,rfl⟩
theorem Xuf:X2d Tryz.prog 120 Tryz.f120 (Xu Tryz.f120):=⟨Tryz.func120,by kernel_rfl,rfl⟩
theorem X07x:X2d Tryz.prog 121 Tryz.f121 (Xu Tryz.f121):=⟨Tryz.func121,by kernel_rfl,rfl⟩
theorem X07w:X2d Tryz.prog 128 Tryz.f128 (Xu Tryz.f128):=⟨Tryz.func128,by kernel_rfl,rfl⟩
theorem X07v:X2d Tryz.prog 129 Tryz.f129 (Xu Tryz.f129):=⟨Tryz.func129,by kernel_rfl,rfl⟩
theorem X07u:X2d Tryz.prog 130 Tryz.f130 (Xu Tryz.f130):=⟨Tryz.func130,by kernel_rfl,rfl⟩
theorem X07t:X2d Tryz.prog 131 Tryz.f131 (Xu Tryz.f131):=⟨Tryz.func131,by kernel_rfl,rfl⟩
theorem X07s:X2d Tryz.prog 133 Tryz.f133 (Xu Tryz.f133):=⟨Tryz.func133,by kernel_rfl,rfl⟩
theorem X07r:X2d Tryz.prog 135 Tryz.f135 (Xu Tryz.f135):=⟨Tryz.func135,by kernel_rfl,rfl⟩
theorem X07q:X2d Tryz.prog 136 Tryz.f136 (Xu Tryz.f136):=⟨Tryz.func136,by kernel_rfl,rfl⟩
theorem X07p:X2d Tryz.prog 137 Tryz.f137 (Xu Tryz.f137):=⟨Tryz.func137,by kernel_rfl,rfl⟩
theorem X07o:X2d Tryz.prog 138 Tryz.f138 (Xu Tryz.f138):=⟨Tryz.func138,by kernel_rfl,rfl⟩
theorem X060:X2d Tryz.prog 139 Tryz.f139 (Xu Tryz.f139):=⟨Tryz.func139,by kernel_rfl,rfl⟩
theorem X05z:X2d Tryz.prog 140 Tryz.f140 (Xu Tryz.f140):=⟨Tryz.func140,by kernel_rfl,rfl⟩
theorem X07n:X2d Tryz.prog 142 Tryz.f142 (Xu Tryz.f142):=⟨Tryz.func142,by kernel_rfl,rfl⟩
theorem X07m:X2d Tryz.prog 143 Tryz.f143 (Xu Tryz.f143):=⟨Tryz.func143,by kernel_rfl,rfl⟩
theorem X05y:X2d Tryz.prog 144 Tryz.f144 (Xu Tryz.f144):=⟨Tryz.func144,by kernel_rfl,rfl⟩
theorem X07l:X2d Tryz.prog 152 Tryz.f152 (Xu Tryz.f152):=⟨Tryz.func152,by kernel_rfl,rfl⟩
theorem X07k:X2d Tryz.prog 153 Tryz.f153 (Xu Tryz.f153):=⟨Tryz.func153,by kernel_rfl,rfl⟩
theorem X07j:X2d Tryz.prog 154 Tryz.f154 (Xu Tryz.f154):=⟨Tryz.func154,by kernel_rfl,rfl⟩
theorem X07i:X2d Tryz.prog 155 Tryz.f155 (Xu Tryz.f155):=⟨Tryz.func155,by kernel_rfl,rfl⟩
theorem X07h:X2d Tryz.prog 156 Tryz.f156 (Xu Tryz.f156):=⟨Tryz.func156,by kernel_rfl,rfl⟩
theorem X07g:X2d Tryz.prog 166 Tryz.f166 (Xu Tryz.f166):=⟨Tryz.func166,by kernel_rfl,rfl⟩
theorem X07f:X2d Tryz.prog 175 Tryz.f175 (Xu Tryz.f175):=⟨Tryz.func175,by kernel_rfl,rfl⟩
theorem X07e:X2d Tryz.prog 176 Tryz.f176 (Xu Tryz.f176):=⟨Tryz.func176,by kernel_rfl,rfl⟩
theorem X05x:X2d Tryz.prog 177 Tryz.f177 (Xu Tryz.f177):=⟨Tryz.func177,by kernel_rfl,rfl⟩
theorem X07d:X2d Tryz.prog 178 Tryz.f178 (Xu Tryz.f178):=⟨Tryz.func178,by kernel_rfl,rfl⟩
theorem X05w:X2d Tryz.prog 179 Tryz.f179 (Xu Tryz.f179):=⟨Tryz.func179,by kernel_rfl,rfl⟩
theorem X07c:X2d Tryz.prog 188 Tryz.f188 (Xu Tryz.f188):=⟨Tryz.func188,by kernel_rfl,rfl⟩
theorem Xjr:X2d Tryz.prog 189 Tryz.f189 (Xu Tryz.f189):=⟨Tryz.func189,by kernel_rfl,rfl⟩
theorem X07b:X2d Tryz.prog 198 Tryz.f198 (Xu Tryz.f198):=⟨Tryz.func198,by kernel_rfl,rfl⟩
theorem X00u:X2d Tryz.prog 199 Tryz.f199 (Xu Tryz.f199):=⟨Tryz.func199,by kernel_rfl,rfl⟩
theorem X05v:X2d Tryz.prog 200 Tryz.f200 (Xu Tryz.f200):=⟨Tryz.func200,by kernel_rfl,rfl⟩
instance X02z:PCs Tryz.prog 26 (∀ (a0:Int) (a1:Int) (a2:Int) (r:Xb),Xf0 a0 a1 a2=some r->X11 Tryz.prog 26 [(aI .i64 a0),(aI .i64 a1),(aI .i64 a2)] (X0 r)):=⟨fun a0 a1 a2 r h=>by
 refine X11.sym Xh fn26 (nt:=12) rfl rfl ?_ okM
 unfold Xf0 at h
 revert h
 exact fun e=>oj e▸Xc [] (k:=fi)⟩
instance X000:PCs Tryz.prog 27 (∀ (a0:Int) (r:Xb),X98 a0=some r->X11 Tryz.prog 27 [(aI .i64 a0)] (X0 r)):=⟨fun a0 r h=>by
 refine X11.sym Xh fn27 (nt:=5) rfl rfl ?_ okM
 unfold X98 at h
 revert h
 exact fun e=>oj e▸Xc [] (k:=fi)⟩
instance X01l:PCs Tryz.prog 25 (∀ (r:X03),Xid=some r->X11 Tryz.prog 25 [] (Xl true r)):=⟨fun r h=>by
 refine X11.sym Xh fn25 (nt:=6) rfl rfl ?_ okM
 unfold Xid at h
 revert h
 exact fun e=>oj e▸Xc [] (k:=fi)⟩
instance Xz2:PCs Tryz.prog 198 (∀ (a0:Int) (r:Int×Int),X9w a0=some r->X11 Tryz.prog 198 [(aI .u8 a0)] (AV.tup [(aI .i64 r.1),(aI .i64 r.2)])):=⟨fun a0 r h=>by
 refine X11.sym Xh X07b (nt:=25) rfl rfl ?_ okM
 unfold X9w at h
 revert h
 exact brI (fun h1=>fun e=>oj e▸Xc [Bt] (k:=fi)) fun h1=>brI (fun h2=>fun e=>oj e▸Xc [Bf,Bt] (k:=fi)) fun h2=>brI (fun h3=>fun e=>oj e▸Xc [Bf,Bf,Bt] (k:=fi)) fun h3=>fun e=>oj e▸Xc [Bf,Bf,Bf] (k:=fi)⟩
end Go.Av.Tryz