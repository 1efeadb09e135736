/- Printed by decomp.py: that the program computes the functions. -/
import Derived.Test.YtfdfgobnpnoomaaGreatDFunZ
import Derived.Test.YtfdfgobnpnoomaaGreatTabZ
import Derived.Test.YtfdfgobnpnoomaaGreatDeleteZ
import Derived.Test.YtfdfgobnpnoomaaGreatInsertZ
set_option linter.all false

namespace Go.Av.Tryz
open Go.Proofs Go.D
set_option maxRecDepth 10000
set_option maxHeartbeats 40000000
theorem tmD:X9s Tryz.prog Xzj.find/\Tryz.prog.follows .mixedOrders=true:=⟨X9,by kernel_rfl⟩
instance tmI:TmD Tryz.prog Xzj.find:=⟨tmD⟩
theorem fn6:X1v Tryz.prog 6 Tryz.f6 (Xl Tryz.f6):=⟨Tryz.func6,by kernel_rfl,rfl⟩
theorem fn15:X1v Tryz.prog 15 Tryz.f15 (Xl Tryz.f15):=⟨Tryz.func15,by kernel_rfl,rfl⟩
theorem fn16:X1v Tryz.prog 16 Tryz.f16 (Xl Tryz.f16):=⟨Tryz.func16,by kernel_rfl,rfl⟩
theorem fn17:X1v Tryz.prog 17 Tryz.f17 (Xl Tryz.f17):=⟨Tryz.func17,by kernel_rfl,rfl⟩
theorem fn19:X1v Tryz.prog 19 Tryz.f19 (Xl Tryz.f19):=⟨Tryz.func19,by kernel_rfl,rfl⟩
theorem fn21:X1v Tryz.prog 21 Tryz.f21 (Xl Tryz.f21):=⟨Tryz.func21,by kernel_rfl,rfl⟩
theorem fn23:X1v Tryz.prog 23 Tryz.f23 (Xl Tryz.f23):=⟨Tryz.func23,by kernel_rfl,rfl⟩
theorem fn25:X1v Tryz.prog 25 Tryz.f25 (Xl Tryz.f25):=⟨Tryz.func25,by kernel_rfl,rfl⟩
theorem fn26:X1v Tryz.prog 26 Tryz.f26 (Xl Tryz.f26):=⟨Tryz.func26,by kernel_rfl,rfl⟩
theorem fn27:X1v Tryz.prog 27 Tryz.f27 (Xl Tryz.f27):=⟨Tryz.func27,by kernel_rfl,rfl⟩
theorem fn28:X1v Tryz.prog 28 Tryz.f28 (Xl Tryz.f28):=⟨Tryz.func28,by kernel_rfl,rfl⟩
theorem fn29:X1v Tryz.prog 29 Tryz.f29 (Xl Tryz.f29):=⟨Tryz.func29,by kernel_rfl,rfl⟩
theorem fn30:X1v Tryz.prog 30 Tryz.f30 (Xl Tryz.f30):=⟨Tryz.func30,by kernel_rfl,rfl⟩
theorem fn31:X1v Tryz.prog 31 Tryz.f31 (Xl Tryz.f31):=⟨Tryz.func31,by kernel_rfl,rfl⟩
theorem fn32:X1v Tryz.prog 32 Tryz.f32 (Xl Tryz.f32):=⟨Tryz.func32,by kernel_rfl,rfl⟩
theorem fn34:X1v Tryz.prog 34 Tryz.f34 (Xl Tryz.f34):=⟨Tryz.func34,by kernel_rfl,rfl⟩
theorem fn35:X1v Tryz.prog 35 Tryz.f35 (Xl Tryz.f35):=⟨Tryz.func35,by kernel_rfl,rfl⟩
theorem fn43:X1v Tryz.prog 43 Tryz.f43 (Xl Tryz.f43):=⟨Tryz.func43,by kernel_rfl,rfl⟩
theorem fn44:X1v Tryz.prog 44 Tryz.f44 (Xl Tryz.f44):=⟨Tryz.func44,by kernel_rfl,rfl⟩
theorem fn45:X1v Tryz.prog 45 Tryz.f45 (Xl Tryz.f45):=⟨Tryz.func45,by kernel_rfl,rfl⟩
theorem fn46:X1v Tryz.prog 46 Tryz.f46 (Xl Tryz.f46):=⟨Tryz.func46,by kernel_rfl,rfl⟩
theorem fn48:X1v Tryz.prog 48 Tryz.f48 (Xl Tryz.f48):=⟨Tryz.func48,by kernel_rfl,rfl⟩
theorem fn49:X1v Tryz.prog 49 Tryz.f49 (Xl Tryz.f49):=⟨Tryz.func49,by kernel_rfl,rfl⟩
theorem fn50:X1v Tryz.prog 50 Tryz.f50 (Xl Tryz.f50):=⟨Tryz.func50,by kernel_rfl,rfl⟩
theorem fn51:X1v Tryz.prog 51 Tryz.f51 (Xl Tryz.f51):=⟨Tryz.func51,by kernel_rfl,rfl⟩
theorem fn52:X1v Tryz.prog 52 Tryz.f52 (Xl Tryz.f52):=⟨Tryz.func52,by kernel_rfl,rfl⟩
theorem fn53:X1v Tryz.prog 53 Tryz.f53 (Xl Tryz.f53):=⟨Tryz.func53,by kernel_rfl,rfl⟩
theorem fn56:X1v Tryz.prog 56 Tryz.f56 (Xl Tryz.f56):=⟨Tryz.func56,by kernel_rfl,rfl⟩
theorem fn57:X1v Tryz.prog 57 Tryz.f57 (Xl Tryz.f57):=⟨Tryz.func57,by kernel_rfl,rfl⟩
theorem fn58:X1v Tryz.prog 58 Tryz.f58 (Xl Tryz.f58):=⟨Tryz.func58,by kernel_rfl,rfl⟩
theorem fn59:X1v Tryz.prog 59 Tryz.f59 (Xl Tryz.f59):=⟨Tryz.func59,by kernel_rfl,rfl⟩
theorem fn65:X1v Tryz.prog 65 Tryz.f65 (Xl Tryz.f65):=⟨Tryz.func65,by kernel_rfl,rfl⟩
theorem fn66:X1v Tryz.prog 66 Tryz.f66 (Xl Tryz.f66):=⟨Tryz.func66,by kernel_rfl,rfl⟩
theorem fn70:X1v Tryz.prog 70 Tryz.f70 (Xl Tryz.f70):=⟨Tryz.func70,by kernel_rfl,rfl⟩
theorem fn71:X1v Tryz.prog 71 Tryz.f71 (Xl Tryz.f71):=⟨Tryz.func71,by kernel_rfl,rfl⟩
theorem fn72:X1v Tryz.prog 72 Tryz.f72 (Xl Tryz.f72):=⟨Tryz.func72,by kernel_rfl,rfl⟩
theorem fn73:X1v Tryz.prog 73 Tryz.f73 (Xl Tryz.f73):=⟨Tryz.func73,by kernel_rfl,rfl⟩
theorem fn74:X1v Tryz.prog 74 Tryz.f74 (Xl Tryz.f74):=⟨Tryz.func74,by kernel_rfl,rfl⟩
theorem fn75:X1v Tryz.prog 75 Tryz.f75 (Xl Tryz.f75):=⟨Tryz.func75,by kernel_rfl,rfl⟩
theorem fn76:X1v Tryz.prog 76 Tryz.f76 (Xl Tryz.f76):=⟨Tryz.func76,by kernel_rfl,rfl⟩
theorem fn77:X1v Tryz.prog 77 Tryz.f77 (Xl Tryz.f77):=⟨Tryz.func77,by kernel_rfl,rfl⟩
theorem fn78:X1v Tryz.prog 78 Tryz.f78 (Xl Tryz.f78):=⟨Tryz.func78,by kernel_rfl,rfl⟩
theorem fn79:X1v Tryz.prog 79 Tryz.f79 (Xl Tryz.f79):=⟨Tryz.func79,by kernel_rfl,rfl⟩
theorem fn80:X1v Tryz.prog 80 Tryz.f80 (Xl Tryz.f80):=⟨Tryz.func80,by kernel_rfl,rfl⟩
theorem fn81:X1v Tryz.prog 81 Tryz.f81 (Xl Tryz.f81):=⟨Tryz.func81,by kernel_rfl,rfl⟩
theorem fn82:X1v Tryz.prog 82 Tryz.f82 (Xl Tryz.f82):=⟨Tryz.func82,by kernel_rfl,rfl⟩
theorem fn83:X1v Tryz.prog 83 Tryz.f83 (Xl Tryz.f83):=⟨Tryz.func83,by kernel_rfl,rfl⟩
theorem fn84:X1v Tryz.prog 84 Tryz.f84 (Xl Tryz.f84):=⟨Tryz.func84,by kernel_rfl,rfl⟩
theorem fn85:X1v Tryz.prog 85 Tryz.f85 (Xl Tryz.f85):=⟨Tryz.func85,by kernel_rfl,rfl⟩
theorem fn92:X1v Tryz.prog 92 Tryz.f92 (Xl Tryz.f92):=⟨Tryz.func92,by kernel_rfl,rfl⟩
theorem fn93:X1v Tryz.prog 93 Tryz.f93 (Xl Tryz.f93):=⟨Tryz.func93,by kernel_rfl,rfl⟩
theorem fn94:X1v Tryz.prog 94 Tryz.f94 (Xl Tryz.f94):=⟨Tryz.func94,by kernel_rfl,rfl⟩
theorem fn95:X1v Tryz.prog 95 Tryz.f95 (Xl Tryz.f95):=⟨Tryz.func95,by kernel_rfl,rfl⟩
theorem fn96:X1v Tryz.prog 96 Tryz.f96 (Xl Tryz.f96):=⟨Tryz.func96,by kernel_rfl,rfl⟩
theorem fn97:X1v Tryz.prog 97 Tryz.f97 (Xl Tryz.f97):=⟨Tryz.func97,by kernel_rfl,rfl⟩
theorem X05y:X1v Tryz.prog 102 Tryz.f102 (Xl Tryz.f102):=⟨Tryz.func102,by kernel_rfl,rfl⟩
theorem X05x:X1v Tryz.prog 104 Tryz.f104 (Xl Tryz.f104):=⟨Tryz.func104,by kernel_rfl,rfl⟩
theorem Xs0:X1v Tryz.prog 105 Tryz.f105 (Xl Tryz.f105):=⟨Tryz.func105,by kernel_rfl,rfl⟩
theorem X05w:X1v Tryz.prog 106 Tryz.f106 (Xl Tryz.f106):=⟨Tryz.func106,by kernel_rfl,rfl⟩
theorem X05v:X1v Tryz.prog 107 Tryz.f107 (Xl Tryz.f107):=⟨Tryz.func107,by kernel_rfl,rfl⟩
theorem X05u:X1v Tryz.prog 108 Tryz.f108 (Xl Tryz.f108):=⟨Tryz.func108,by kernel_rfl,rfl⟩
theorem X05t:X1v Tryz.prog 109 Tryz.f109 (Xl Tryz.f109):=⟨Tryz.func109,by kernel_rfl,rfl⟩
theorem X05s:X1v Tryz.prog 110 Tryz.f110 (Xl Tryz.f110):=⟨Tryz.func110,by kernel_rfl,rfl⟩
theorem X05r:X1v Tryz.prog 111 Tryz.f111 (Xl Tryz.f111):=⟨Tryz.func111,by kernel_rfl,rfl⟩
theorem X03n:X1v Tryz.prog 112 Tryz.f112 (Xl Tryz.f112):=⟨Tryz.func112,by kernel_rfl,rfl⟩
theorem X03m:X1v Tryz.prog 113 Tryz.f113 (Xl Tryz.f113):=⟨Tryz.func113,by kernel_rfl,rfl⟩
theorem X05q:X1v Tryz.prog 114 Tryz.f114 (Xl Tryz.f114):=⟨Tryz.func114,by kernel_rfl,rfl⟩
theorem X01h:X1v Tryz.prog 115 Tryz.f115 (Xl Tryz.f115):=⟨Tryz.func115,by kernel_rfl,rfl⟩
theorem X05p:X1v Tryz.prog 116 Tryz.f116 (Xl Tryz.f116):=⟨Tryz.func116,by kernel_rfl,rfl⟩
theorem X05o:X1v Tryz.prog 117 Tryz.f117 (Xl Tryz.f117):=⟨Tryz.func117,by kernel_rfl,rfl⟩
theorem X05n:X1v Tryz.prog 118 Tryz.f118 (Xl Tryz.f118):=⟨Tryz.func118,by kernel_rfl,rfl⟩
theorem X05m:X1v Tryz.prog 119 Tryz.f119 (Xl Tryz.f119):=⟨Tryz.func119,by kernel_rfl,rfl⟩
theorem Xrz:X1v Tryz.prog 120 Tryz.f120 (Xl Tryz.f120):=⟨Tryz.func120,by kernel_rfl,rfl⟩
theorem X05l:X1v Tryz.prog 121 Tryz.f121 (Xl Tryz.f121):=⟨Tryz.func121,by kernel_rfl,rfl⟩
theorem X05k:X1v Tryz.prog 128 Tryz.f128 (Xl Tryz.f128):=⟨Tryz.func128,by kernel_rfl,rfl⟩
theorem X05j:X1v Tryz.prog 129 Tryz.f129 (Xl Tryz.f129):=⟨Tryz.func129,by kernel_rfl,rfl⟩
theorem X05i:X1v Tryz.prog 130 Tryz.f130 (Xl Tryz.f130):=⟨Tryz.func130,by kernel_rfl,rfl⟩
theorem X05h:X1v Tryz.prog 131 Tryz.f131 (Xl Tryz.f131):=⟨Tryz.func131,by kernel_rfl,rfl⟩
theorem X05g:X1v Tryz.prog 133 Tryz.f133 (Xl Tryz.f133):=⟨Tryz.func133,by kernel_rfl,rfl⟩
theorem X05f:X1v Tryz.prog 135 Tryz.f135 (Xl Tryz.f135):=⟨Tryz.func135,by kernel_rfl,rfl⟩
theorem X05e:X1v Tryz.prog 136 Tryz.f136 (Xl Tryz.f136):=⟨Tryz.func136,by kernel_rfl,rfl⟩
theorem X05d:X1v Tryz.prog 137 Tryz.f137 (Xl Tryz.f137):=⟨Tryz.func137,by kernel_rfl,rfl⟩
theorem X05c:X1v Tryz.prog 138 Tryz.f138 (Xl Tryz.f138):=⟨Tryz.func138,by kernel_rfl,rfl⟩
theorem X03l:X1v Tryz.prog 139 Tryz.f139 (Xl Tryz.f139):=⟨Tryz.func139,by kernel_rfl,rfl⟩
theorem X03k:X1v Tryz.prog 140 Tryz.f140 (Xl Tryz.f140):=⟨Tryz.func140,by kernel_rfl,rfl⟩
theorem X05b:X1v Tryz.prog 142 Tryz.f142 (Xl Tryz.f142):=⟨Tryz.func142,by kernel_rfl,rfl⟩
theorem X05a:X1v Tryz.prog 143 Tryz.f143 (Xl Tryz.f143):=⟨Tryz.func143,by kernel_rfl,rfl⟩
theorem X03j:X1v Tryz.prog 144 Tryz.f144 (Xl Tryz.f144):=⟨Tryz.func144,by kernel_rfl,rfl⟩
theorem X059:X1v Tryz.prog 152 Tryz.f152 (Xl Tryz.f152):=⟨Tryz.func152,by kernel_rfl,rfl⟩
theorem X058:X1v Tryz.prog 153 Tryz.f153 (Xl Tryz.f153):=⟨Tryz.func153,by kernel_rfl,rfl⟩
theorem X057:X1v Tryz.prog 154 Tryz.f154 (Xl Tryz.f154):=⟨Tryz.func154,by kernel_rfl,rfl⟩
theorem X056:X1v Tryz.prog 155 Tryz.f155 (Xl Tryz.f155):=⟨Tryz.func155,by kernel_rfl,rfl⟩
theorem X055:X1v Tryz.prog 156 Tryz.f156 (Xl Tryz.f156):=⟨Tryz.func156,by kernel_rfl,rfl⟩
theorem X054:X1v Tryz.prog 166 Tryz.f166 (Xl Tryz.f166):=⟨Tryz.func166,by kernel_rfl,rfl⟩
theorem X053:X1v Tryz.prog 175 Tryz.f175 (Xl Tryz.f175):=⟨Tryz.func175,by kernel_rfl,rfl⟩
theorem X052:X1v Tryz.prog 176 Tryz.f176 (Xl Tryz.f176):=⟨Tryz.func176,by kernel_rfl,rfl⟩
theorem X03i:X1v Tryz.prog 177 Tryz.f177 (Xl Tryz.f177):=⟨Tryz.func177,by kernel_rfl,rfl⟩
theorem X051:X1v Tryz.prog 178 Tryz.f178 (Xl Tryz.f178):=⟨Tryz.func178,by kernel_rfl,rfl⟩
theorem X03h:X1v Tryz.prog 179 Tryz.f179 (Xl Tryz.f179):=⟨Tryz.func179,by kernel_rfl,rfl⟩
theorem X050:X1v Tryz.prog 188 Tryz.f188 (Xl Tryz.f188):=⟨Tryz.func188,by kernel_rfl,rfl⟩
theorem Xin:X1v Tryz.prog 189 Tryz.f189 (Xl Tryz.f189):=⟨Tryz.func189,by kernel_rfl,rfl⟩
theorem X04z:X1v Tryz.prog 198 Tryz.f198 (Xl Tryz.f198):=⟨Tryz.func198,by kernel_rfl,rfl⟩
theorem Xy7:X1v Tryz.prog 199 Tryz.f199 (Xl Tryz.f199):=⟨Tryz.func199,by kernel_rfl,rfl⟩
theorem X03g:X1v Tryz.prog 200 Tryz.f200 (Xl Tryz.f200):=⟨Tryz.func200,by kernel_rfl,rfl⟩
instance X00j:PCs Tryz.prog 26 (∀ (a0:Int) (a1:Int) (a2:Int) (r:Xg),Xdj a0 a1 a2=some r->X0o Tryz.prog 26 [(aI .i64 a0),(aI .i64 a1),(aI .i64 a2)] (Xa r)):=⟨fun a0 a1 a2 r h=>by
 refine X0o.sym X9 fn26 (nt:=12) rfl rfl ?_ okM
 unfold Xdj at h
 revert h
 exact fun e=>oj e▸X8 [] (k:=fi)⟩
instance Xxb:PCs Tryz.prog 27 (∀ (a0:Int) (r:Xg),Xee a0=some r->X0o Tryz.prog 27 [(aI .i64 a0)] (Xa r)):=⟨fun a0 r h=>by
 refine X0o.sym X9 fn27 (nt:=5) rfl rfl ?_ okM
 unfold Xee at h
 revert h
 exact fun e=>oj e▸X8 [] (k:=fi)⟩
instance Xz1:PCs Tryz.prog 25 (∀ (r:Xu),Xh8=some r->X0o Tryz.prog 25 [] (Xq true r)):=⟨fun r h=>by
 refine X0o.sym X9 fn25 (nt:=6) rfl rfl ?_ okM
 unfold Xh8 at h
 revert h
 exact fun e=>oj e▸X8 [] (k:=fi)⟩
instance Xwf:PCs Tryz.prog 198 (∀ (a0:Int) (r:Int×Int),X8t a0=some r->X0o Tryz.prog 198 [(aI .u8 a0)] (AV.tup [(aI .i64 r.1),(aI .i64 r.2)])):=⟨fun a0 r h=>by
 refine X0o.sym X9 X04z (nt:=25) rfl rfl ?_ okM
 unfold X8t at h
 revert h
 exact brI (fun h1=>fun e=>oj e▸X8 [Bt] (k:=fi)) fun h1=>brI (fun h2=>fun e=>oj e▸X8 [Bf,Bt] (k:=fi)) fun h2=>brI (fun h3=>fun e=>oj e▸X8 [Bf,Bf,Bt] (k:=fi)) fun h3=>fun e=>oj e▸X8 [Bf,Bf,Bf] (k:=fi)⟩
end Go.Av.Tryz