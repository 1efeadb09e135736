/- Printed by decomp.py: that the program computes the functions. -/
import Derived.Test.YtkjlgmgfhgamlaaGreatDFunZ
import Derived.Test.YtkjlgmgfhgamlaaGreatTabZ
import Derived.Test.YtkjlgmgfhgamlaaGreatDeleteZ
import Derived.Test.YtkjlgmgfhgamlaaGreatInsertZ
set_option linter.all false

namespace Go.Av.Tryz
open Go.Proofs Go.D
set_option maxRecDepth 10000
set_option maxHeartbeats 40000000
theorem tmD:Xbd Tryz.prog Xzs.find/\Tryz.prog.follows .mixedOrders=true:=⟨X8,by kernel_rfl⟩
instance tmI:TmD Tryz.prog Xzs.find:=⟨tmD⟩
theorem fn6:X1p Tryz.prog 6 Tryz.f6 (Xd Tryz.f6):=⟨Tryz.func6,by kernel_rfl,rfl⟩
theorem fn13:X1p Tryz.prog 13 Tryz.f13 (Xd Tryz.f13):=⟨Tryz.func13,by kernel_rfl,rfl⟩
theorem fn14:X1p Tryz.prog 14 Tryz.f14 (Xd Tryz.f14):=⟨Tryz.func14,by kernel_rfl,rfl⟩
theorem fn15:X1p Tryz.prog 15 Tryz.f15 (Xd Tryz.f15):=⟨Tryz.func15,by kernel_rfl,rfl⟩
theorem fn19:X1p Tryz.prog 19 Tryz.f19 (Xd Tryz.f19):=⟨Tryz.func19,by kernel_rfl,rfl⟩
theorem fn20:X1p Tryz.prog 20 Tryz.f20 (Xd Tryz.f20):=⟨Tryz.func20,by kernel_rfl,rfl⟩
theorem fn21:X1p Tryz.prog 21 Tryz.f21 (Xd Tryz.f21):=⟨Tryz.func21,by kernel_rfl,rfl⟩
theorem fn22:X1p Tryz.prog 22 Tryz.f22 (Xd Tryz.f22):=⟨Tryz.func22,by kernel_rfl,rfl⟩
theorem fn24:X1p Tryz.prog 24 Tryz.f24 (Xd Tryz.f24):=⟨Tryz.func24,by kernel_rfl,rfl⟩
theorem fn25:X1p Tryz.prog 25 Tryz.f25 (Xd Tryz.f25):=⟨Tryz.func25,by kernel_rfl,rfl⟩
theorem fn26:X1p Tryz.prog 26 Tryz.f26 (Xd Tryz.f26):=⟨Tryz.func26,by kernel_rfl,rfl⟩
theorem fn27:X1p Tryz.prog 27 Tryz.f27 (Xd Tryz.f27):=⟨Tryz.func27,by kernel_rfl,rfl⟩
theorem fn28:X1p Tryz.prog 28 Tryz.f28 (Xd Tryz.f28):=⟨Tryz.func28,by kernel_rfl,rfl⟩
theorem fn29:X1p Tryz.prog 29 Tryz.f29 (Xd Tryz.f29):=⟨Tryz.func29,by kernel_rfl,rfl⟩
theorem fn37:X1p Tryz.prog 37 Tryz.f37 (Xd Tryz.f37):=⟨Tryz.func37,by kernel_rfl,rfl⟩
theorem fn41:X1p Tryz.prog 41 Tryz.f41 (Xd Tryz.f41):=⟨Tryz.func41,by kernel_rfl,rfl⟩
theorem fn49:X1p Tryz.prog 49 Tryz.f49 (Xd Tryz.f49):=⟨Tryz.func49,by kernel_rfl,rfl⟩
theorem fn50:X1p Tryz.prog 50 Tryz.f50 (Xd Tryz.f50):=⟨Tryz.func50,by kernel_rfl,rfl⟩
theorem fn51:X1p Tryz.prog 51 Tryz.f51 (Xd Tryz.f51):=⟨Tryz.func51,by kernel_rfl,rfl⟩
theorem fn52:X1p Tryz.prog 52 Tryz.f52 (Xd Tryz.f52):=⟨Tryz.func52,by kernel_rfl,rfl⟩
theorem fn54:X1p Tryz.prog 54 Tryz.f54 (Xd Tryz.f54):=⟨Tryz.func54,by kernel_rfl,rfl⟩
theorem fn55:X1p Tryz.prog 55 Tryz.f55 (Xd Tryz.f55):=⟨Tryz.func55,by kernel_rfl,rfl⟩
theorem fn56:X1p Tryz.prog 56 Tryz.f56 (Xd Tryz.f56):=⟨Tryz.func56,by kernel_rfl,rfl⟩
theorem fn57:X1p Tryz.prog 57 Tryz.f57 (Xd Tryz.f57):=⟨Tryz.func57,by kernel_rfl,rfl⟩
theorem fn58:X1p Tryz.prog 58 Tryz.f58 (Xd Tryz.f58):=⟨Tryz.func58,by kernel_rfl,rfl⟩
theorem fn59:X1p Tryz.prog 59 Tryz.f59 (Xd Tryz.f59):=⟨Tryz.func59,by kernel_rfl,rfl⟩
theorem fn60:X1p Tryz.prog 60 Tryz.f60 (Xd Tryz.f60):=⟨Tryz.func60,by kernel_rfl,rfl⟩
theorem fn61:X1p Tryz.prog 61 Tryz.f61 (Xd Tryz.f61):=⟨Tryz.func61,by kernel_rfl,rfl⟩
theorem fn62:X1p Tryz.prog 62 Tryz.f62 (Xd Tryz.f62):=⟨Tryz.func62,by kernel_rfl,rfl⟩
theorem fn63:X1p Tryz.prog 63 Tryz.f63 (Xd Tryz.f63):=⟨Tryz.func63,by kernel_rfl,rfl⟩
theorem fn64:X1p Tryz.prog 64 Tryz.f64 (Xd Tryz.f64):=⟨Tryz.func64,by kernel_rfl,rfl⟩
theorem fn65:X1p Tryz.prog 65 Tryz.f65 (Xd Tryz.f65):=⟨Tryz.func65,by kernel_rfl,rfl⟩
theorem fn66:X1p Tryz.prog 66 Tryz.f66 (Xd Tryz.f66):=⟨Tryz.func66,by kernel_rfl,rfl⟩
theorem fn67:X1p Tryz.prog 67 Tryz.f67 (Xd Tryz.f67):=⟨Tryz.func67,by kernel_rfl,rfl⟩
theorem fn68:X1p Tryz.prog 68 Tryz.f68 (Xd Tryz.f68):=⟨Tryz.func68,by kernel_rfl,rfl⟩
theorem fn75:X1p Tryz.prog 75 Tryz.f75 (Xd Tryz.f75):=⟨Tryz.func75,by kernel_rfl,rfl⟩
theorem fn77:X1p Tryz.prog 77 Tryz.f77 (Xd Tryz.f77):=⟨Tryz.func77,by kernel_rfl,rfl⟩
theorem fn78:X1p Tryz.prog 78 Tryz.f78 (Xd Tryz.f78):=⟨Tryz.func78,by kernel_rfl,rfl⟩
theorem fn79:X1p Tryz.prog 79 Tryz.f79 (Xd Tryz.f79):=⟨Tryz.func79,by kernel_rfl,rfl⟩
theorem fn80:X1p Tryz.prog 80 Tryz.f80 (Xd Tryz.f80):=⟨Tryz.func80,by kernel_rfl,rfl⟩
theorem fn81:X1p Tryz.prog 81 Tryz.f81 (Xd Tryz.f81):=⟨Tryz.func81,by kernel_rfl,rfl⟩
theorem fn82:X1p Tryz.prog 82 Tryz.f82 (Xd Tryz.f82):=⟨Tryz.func82,by kernel_rfl,rfl⟩
theorem fn83:X1p Tryz.prog 83 Tryz.f83 (Xd Tryz.f83):=⟨Tryz.func83,by kernel_rfl,rfl⟩
theorem fn84:X1p Tryz.prog 84 Tryz.f84 (Xd Tryz.f84):=⟨Tryz.func84,by kernel_rfl,rfl⟩
theorem fn86:X1p Tryz.prog 86 Tryz.f86 (Xd Tryz.f86):=⟨Tryz.func86,by kernel_rfl,rfl⟩
theorem fn87:X1p Tryz.prog 87 Tryz.f87 (Xd Tryz.f87):=⟨Tryz.func87,by kernel_rfl,rfl⟩
theorem fn88:X1p Tryz.prog 88 Tryz.f88 (Xd Tryz.f88):=⟨Tryz.func88,by kernel_rfl,rfl⟩
theorem fn89:X1p Tryz.prog 89 Tryz.f89 (Xd Tryz.f89):=⟨Tryz.func89,by kernel_rfl,rfl⟩
theorem fn90:X1p Tryz.prog 90 Tryz.f90 (Xd Tryz.f90):=⟨Tryz.func90,by kernel_rfl,rfl⟩
theorem fn91:X1p Tryz.prog 91 Tryz.f91 (Xd Tryz.f91):=⟨Tryz.func91,by kernel_rfl,rfl⟩
theorem fn92:X1p Tryz.prog 92 Tryz.f92 (Xd Tryz.f92):=⟨Tryz.func92,by kernel_rfl,rfl⟩
theorem fn93:X1p Tryz.prog 93 Tryz.f93 (Xd Tryz.f93):=⟨Tryz.func93,by kernel_rfl,rfl⟩
theorem fn94:X1p Tryz.prog 94 Tryz.f94 (Xd Tryz.f94):=⟨Tryz.func94,by kernel_rfl,rfl⟩
theorem fn95:X1p Tryz.prog 95 Tryz.f95 (Xd Tryz.f95):=⟨Tryz.func95,by kernel_rfl,rfl⟩
theorem fn96:X1p Tryz.prog 96 Tryz.f96 (Xd Tryz.f96):=⟨Tryz.func96,by kernel_rfl,rfl⟩
theorem fn97:X1p Tryz.prog 97 Tryz.f97 (Xd Tryz.f97):=⟨Tryz.func97,by kernel_rfl,rfl⟩
theorem fn98:X1p Tryz.prog 98 Tryz.f98 (Xd Tryz.f98):=⟨Tryz.func98,by kernel_rfl,rfl⟩
theorem fn99:X1p Tryz.prog 99 Tryz.f99 (Xd Tryz.f99):=⟨Tryz.func99,by kernel_rfl,rfl⟩
theorem X06y:X1p Tryz.prog 100 Tryz.f100 (Xd Tryz.f100):=⟨Tryz.func100,by kernel_rfl,rfl⟩
theorem X06x:X1p Tryz.prog 101 Tryz.f101 (Xd Tryz.f101):=⟨Tryz.func101,by kernel_rfl,rfl⟩
theorem X06w:X1p Tryz.prog 102 Tryz.f102 (Xd Tryz.f102):=⟨Tryz.func102,by kernel_rfl,rfl⟩
theorem X06v:X1p Tryz.prog 103 Tryz.f103 (Xd Tryz.f103):=⟨Tryz.func103,by kernel_rfl,rfl⟩
theorem X047:X1p Tryz.prog 104 Tryz.f104 (Xd Tryz.f104):=⟨Tryz.func104,by kernel_rfl,rfl⟩
theorem X06u:X1p Tryz.prog 105 Tryz.f105 (Xd Tryz.f105):=⟨Tryz.func105,by kernel_rfl,rfl⟩
theorem Xyf:X1p Tryz.prog 114 Tryz.f114 (Xd Tryz.f114):=⟨Tryz.func114,by kernel_rfl,rfl⟩
theorem X06t:X1p Tryz.prog 115 Tryz.f115 (Xd Tryz.f115):=⟨Tryz.func115,by kernel_rfl,rfl⟩
theorem X06s:X1p Tryz.prog 116 Tryz.f116 (Xd Tryz.f116):=⟨Tryz.func116,by kernel_rfl,rfl⟩
theorem X06r:X1p Tryz.prog 117 Tryz.f117 (Xd Tryz.f117):=⟨Tryz.func117,by kernel_rfl,rfl⟩
theorem X046:X1p Tryz.prog 118 Tryz.f118 (Xd Tryz.f118):=⟨Tryz.func118,by kernel_rfl,rfl⟩
theorem X045:X1p Tryz.prog 119 Tryz.f119 (Xd Tryz.f119):=⟨Tryz.func119,by kernel_rfl,rfl⟩
theorem X06q:X1p Tryz.prog 120 Tryz.f120 (Xd Tryz.f120):=⟨Tryz.func120,by kernel_rfl,rfl⟩
theorem X01t:X1p Tryz.prog 121 Tryz.f121 (Xd Tryz.f121):=⟨Tryz.func121,by kernel_rfl,rfl⟩
theorem X06p:X1p Tryz.prog 122 Tryz.f122 (Xd Tryz.f122):=⟨Tryz.func122,by kernel_rfl,rfl⟩
theorem X06o:X1p Tryz.prog 123 Tryz.f123 (Xd Tryz.f123):=⟨Tryz.func123,by kernel_rfl,rfl⟩
theorem X06n:X1p Tryz.prog 124 Tryz.f124 (Xd Tryz.f124):=⟨Tryz.func124,by kernel_rfl,rfl⟩
theorem X06m:X1p Tryz.prog 125 Tryz.f125 (Xd Tryz.f125):=⟨Tryz.func125,by kernel_rfl,rfl⟩
theorem Xs2:X1p Tryz.prog 126 Tryz.f126 (Xd Tryz.f126):=⟨Tryz.func126,by kernel_rfl,rfl⟩
theorem X06l:X1p Tryz.prog 127 Tryz.f127 (Xd Tryz.f127):=⟨Tryz.func127,by kernel_rfl,rfl⟩
theorem X06k:X1p Tryz.prog 128 Tryz.f128 (Xd Tryz.f128):=⟨Tryz.func128,by kernel_rfl,rfl⟩
theorem X06j:X1p Tryz.prog 129 Tryz.f129 (Xd Tryz.f129):=⟨Tryz.func129,by kernel_rfl,rfl⟩
theorem X06i:X1p Tryz.prog 130 Tryz.f130 (Xd Tryz.f130):=⟨Tryz.func130,by kernel_rfl,rfl⟩
theorem X06h:X1p Tryz.prog 131 Tryz.f131 (Xd Tryz.f131):=⟨Tryz.func131,by kernel_rfl,rfl⟩
theorem X06g:X1p Tryz.prog 132 Tryz.f132 (Xd Tryz.f132):=⟨Tryz.func132,by kernel_rfl,rfl⟩
theorem X06f:X1p Tryz.prog 133 Tryz.f133 (Xd Tryz.f133):=⟨Tryz.func133,by kernel_rfl,rfl⟩
theorem X06e:X1p Tryz.prog 134 Tryz.f134 (Xd Tryz.f134):=⟨Tryz.func134,by kernel_rfl,rfl⟩
theorem X06d:X1p Tryz.prog 135 Tryz.f135 (Xd Tryz.f135):=⟨Tryz.func135,by kernel_rfl,rfl⟩
theorem X044:X1p Tryz.prog 136 Tryz.f136 (Xd Tryz.f136):=⟨Tryz.func136,by kernel_rfl,rfl⟩
theorem X06c:X1p Tryz.prog 137 Tryz.f137 (Xd Tryz.f137):=⟨Tryz.func137,by kernel_rfl,rfl⟩
theorem X06b:X1p Tryz.prog 138 Tryz.f138 (Xd Tryz.f138):=⟨Tryz.func138,by kernel_rfl,rfl⟩
theorem X06a:X1p Tryz.prog 139 Tryz.f139 (Xd Tryz.f139):=⟨Tryz.func139,by kernel_rfl,rfl⟩
theorem Xye:X1p Tryz.prog 144 Tryz.f144 (Xd Tryz.f144):=⟨Tryz.func144,by kernel_rfl,rfl⟩
theorem X069:X1p Tryz.prog 145 Tryz.f145 (Xd Tryz.f145):=⟨Tryz.func145,by kernel_rfl,rfl⟩
theorem X068:X1p Tryz.prog 146 Tryz.f146 (Xd Tryz.f146):=⟨Tryz.func146,by kernel_rfl,rfl⟩
theorem X043:X1p Tryz.prog 147 Tryz.f147 (Xd Tryz.f147):=⟨Tryz.func147,by kernel_rfl,rfl⟩
theorem X042:X1p Tryz.prog 148 Tryz.f148 (Xd Tryz.f148):=⟨Tryz.func148,by kernel_rfl,rfl⟩
theorem X067:X1p Tryz.prog 150 Tryz.f150 (Xd Tryz.f150):=⟨Tryz.func150,by kernel_rfl,rfl⟩
theorem X066:X1p Tryz.prog 151 Tryz.f151 (Xd Tryz.f151):=⟨Tryz.func151,by kernel_rfl,rfl⟩
theorem X041:X1p Tryz.prog 152 Tryz.f152 (Xd Tryz.f152):=⟨Tryz.func152,by kernel_rfl,rfl⟩
theorem X065:X1p Tryz.prog 155 Tryz.f155 (Xd Tryz.f155):=⟨Tryz.func155,by kernel_rfl,rfl⟩
theorem X064:X1p Tryz.prog 156 Tryz.f156 (Xd Tryz.f156):=⟨Tryz.func156,by kernel_rfl,rfl⟩
theorem X063:X1p Tryz.prog 157 Tryz.f157 (Xd Tryz.f157):=⟨Tryz.func157,by kernel_rfl,rfl⟩
theorem X062:X1p Tryz.prog 158 Tryz.f158 (Xd Tryz.f158):=⟨Tryz.func158,by kernel_rfl,rfl⟩
theorem X061:X1p Tryz.prog 159 Tryz.f159 (Xd Tryz.f159):=⟨Tryz.func159,by kernel_rfl,rfl⟩
theorem Xyd:X1p Tryz.prog 166 Tryz.f166 (Xd Tryz.f166):=⟨Tryz.func166,by kernel_rfl,rfl⟩
theorem X060:X1p Tryz.prog 167 Tryz.f167 (Xd Tryz.f167):=⟨Tryz.func167,by kernel_rfl,rfl⟩
theorem X040:X1p Tryz.prog 168 Tryz.f168 (Xd Tryz.f168):=⟨Tryz.func168,by kernel_rfl,rfl⟩
theorem X05z:X1p Tryz.prog 169 Tryz.f169 (Xd Tryz.f169):=⟨Tryz.func169,by kernel_rfl,rfl⟩
theorem X05y:X1p Tryz.prog 170 Tryz.f170 (Xd Tryz.f170):=⟨Tryz.func170,by kernel_rfl,rfl⟩
theorem X03z:X1p Tryz.prog 171 Tryz.f171 (Xd Tryz.f171):=⟨Tryz.func171,by kernel_rfl,rfl⟩
theorem X05x:X1p Tryz.prog 173 Tryz.f173 (Xd Tryz.f173):=⟨Tryz.func173,by kernel_rfl,rfl⟩
theorem X05w:X1p Tryz.prog 174 Tryz.f174 (Xd Tryz.f174):=⟨Tryz.func174,by kernel_rfl,rfl⟩
theorem X05v:X1p Tryz.prog 175 Tryz.f175 (Xd Tryz.f175):=⟨Tryz.func175,by kernel_rfl,rfl⟩
theorem X05u:X1p Tryz.prog 176 Tryz.f176 (Xd Tryz.f176):=⟨Tryz.func176,by kernel_rfl,rfl⟩
theorem X05t:X1p Tryz.prog 177 Tryz.f177 (Xd Tryz.f177):=⟨Tryz.func177,by kernel_rfl,rfl⟩
theorem X05s:X1p Tryz.prog 178 Tryz.f178 (Xd Tryz.f178):=⟨Tryz.func178,by kernel_rfl,rfl⟩
theorem X05r:X1p Tryz.prog 179 Tryz.f179 (Xd Tryz.f179):=⟨Tryz.func179,by kernel_rfl,rfl⟩
theorem X05q:X1p Tryz.prog 180 Tryz.f180 (Xd Tryz.f180):=⟨Tryz.func180,by kernel_rfl,rfl⟩
theorem X05p:X1p Tryz.prog 181 Tryz.f181 (Xd Tryz.f181):=⟨Tryz.func181,by kernel_rfl,rfl⟩
theorem X03y:X1p Tryz.prog 185 Tryz.f185 (Xd Tryz.f185):=⟨Tryz.func185,by kernel_rfl,rfl⟩
theorem X05o:X1p Tryz.prog 194 Tryz.f194 (Xd Tryz.f194):=⟨Tryz.func194,by kernel_rfl,rfl⟩
theorem X05n:X1p Tryz.prog 196 Tryz.f196 (Xd Tryz.f196):=⟨Tryz.func196,by kernel_rfl,rfl⟩
theorem X05m:X1p Tryz.prog 197 Tryz.f197 (Xd Tryz.f197):=⟨Tryz.func197,by kernel_rfl,rfl⟩
theorem X05l:X1p Tryz.prog 198 Tryz.f198 (Xd Tryz.f198):=⟨Tryz.func198,by kernel_rfl,rfl⟩
theorem X05k:X1p Tryz.prog 199 Tryz.f199 (Xd Tryz.f199):=⟨Tryz.func199,by kernel_rfl,rfl⟩
theorem X05j:X1p Tryz.prog 210 Tryz.f210 (Xd Tryz.f210):=⟨Tryz.func210,by kernel_rfl,rfl⟩
theorem Xyc:X1p Tryz.prog 211 Tryz.f211 (Xd Tryz.f211):=⟨Tryz.func211,by kernel_rfl,rfl⟩
theorem Xjx:X1p Tryz.prog 212 Tryz.f212 (Xd Tryz.f212):=⟨Tryz.func212,by kernel_rfl,rfl⟩
instance Xwl:PCs Tryz.prog 50 (∀ (r:X0b),Xe3=some r->X0h Tryz.prog 50 [] (X05 true r)):=⟨fun r h=>by
 refine X0h.sym X8 fn50 (nt:=4) rfl rfl ?_ okM
 unfold Xe3 at h
 revert h
 exact fun e=>oj e▸Xb [] (k:=fi)⟩
instance Xze:PCs Tryz.prog 51 (∀ (a0:Int) (a1:Int) (a2:Int) (r:Xj),Xen a0 a1 a2=some r->X0h Tryz.prog 51 [(aI .i64 a0),(aI .i64 a1),(aI .i64 a2)] (X00 r)):=⟨fun a0 a1 a2 r h=>by
 refine X0h.sym X8 fn51 (nt:=12) rfl rfl ?_ okM
 unfold Xen at h
 revert h
 exact fun e=>oj e▸Xb [] (k:=fi)⟩
instance Xxr:PCs Tryz.prog 22 (∀ (a0:Int) (r:Xj),Xb7 a0=some r->X0h Tryz.prog 22 [(aI .i64 a0)] (X00 r)):=⟨fun a0 r h=>by
 refine X0h.sym X8 fn22 (nt:=5) rfl rfl ?_ okM
 unfold Xb7 at h
 revert h
 exact fun e=>oj e▸Xb [] (k:=fi)⟩
instance Xzb:PCs Tryz.prog 75 (∀ (a0:Int) (r:(List Int)×Int),Xii a0=some r->X0h Tryz.prog 75 [(aI .i64 a0)] (AV.tup [(AV.list true (List.map (aI .i64) r.1)),(aI .i64 r.2)])):=⟨fun a0 r h=>by
 refine X0h.sym X8 fn75 (nt:=13) rfl rfl ?_ okM
 unfold Xii at h
 revert h
 refine brI (fun h1=>fun e=>oj e▸Xb [Bt] (k:=fi)) fun h1=>?_
 refine brI (fun h2=>?_) fun h2=>?_
 ·
  intro h
  obtain rfl:a0=1:=eq_of_beq h2
  refine X09 [Bf] (o:=by repeat' first|apply Ya|exact pcM|(decide +kernel)|exact Xr) ?_
  refine X5.inline X8 Xyf rfl rfl rfl rfl rfl trivial trivial rfl rfl ?_
  refine X09 [Bf,.wrap,.wrap] (o:=by repeat' first|apply Ya|exact pcM|(decide +kernel)|exact Xr) ?_
  refine X5.inline X8 Xye rfl rfl rfl rfl rfl trivial trivial rfl rfl ?_
  refine X09 [Bf] (o:=by repeat' first|apply Ya|exact pcM|(decide +kernel)|exact Xr) ?_
  refine X5.inline X8 Xyd rfl rfl rfl rfl rfl trivial trivial rfl rfl ?_
  refine X09 [] (o:=by repeat' first|apply Ya|exact pcM|(decide +kernel)|exact Xr) ?_
  refine X5.back (by intro id h;cases h) rfl ?_
  refine X09 [] (o:=by repeat' first|apply Ya|exact pcM|(decide +kernel)|exact Xr) ?_
  refine X5.back (by intro id h;cases h) rfl ?_
  refine X09 [.go true,.go true,Bf,.wrap] (o:=by repeat' first|apply Ya|exact pcM|(decide +kernel)|exact((show((8:Nat):Int)*1<=281474976710656 by decide))|exact Xr) ?_
  refine X5.copyS [(aI .i64 (-9223372036854775808))] 1 X8 rfl rfl rfl rfl trivial rfl rfl rfl trivial (.ref rfl (by decide)) rfl rfl rfl rfl rfl rfl rfl rfl ?_
  refine X09 [] (o:=by repeat' first|apply Ya|exact pcM|(decide +kernel)|exact Xr) ?_
  refine X5.round ?_
  refine X09 [Bf] (o:=by repeat' first|apply Ya|exact pcM|(decide +kernel)|exact Xr) ?_
  refine X5.back (by intro id h;cases h) rfl ?_
  revert h
  exact fun e=>oj e▸Xb [] (o:=by repeat' first|apply Ya|exact pcM|(decide +kernel)|exact Xr) (k:=fi)
 refine brI (fun h3=>?_) fun h3=>?_
 ·
  intro h
  obtain rfl:a0=2:=eq_of_beq h3
  refine X09 [Bf] (o:=by repeat' first|apply Ya|exact pcM|(decide +kernel)|exact Xr) ?_
  refine X5.inline X8 Xyf rfl rfl rfl rfl rfl trivial trivial rfl rfl ?_
  refine X09 [Bf,.wrap,.wrap] (o:=by repeat' first|apply Ya|exact pcM|(decide +kernel)|exact Xr) ?_
  refine X5.inline X8 Xye rfl rfl rfl rfl rfl trivial trivial rfl rfl ?_
  refine X09 [Bf] (o:=by repeat' first|apply Ya|exact pcM|(decide +kernel)|exact Xr) ?_
  refine X5.inline X8 Xyd rfl rfl rfl rfl rfl trivial trivial rfl rfl ?_
  refine X09 [] (o:=by repeat' first|apply Ya|exact pcM|(decide +kernel)|exact Xr) ?_
  refine X5.back (by intro id h;cases h) rfl ?_
  refine X09 [] (o:=by repeat' first|apply Ya|exact pcM|(decide +kernel)|exact Xr) ?_
  refine X5.back (by intro id h;cases h) rfl ?_
  refine X09 [.go true,.go true,Bf,.wrap] (o:=by repeat' first|apply Ya|exact pcM|(decide +kernel)|exact((show((8:Nat):Int)*2<=281474976710656 by decide))|exact Xr) ?_
  refine X5.copyS [(aI .i64 (-9223372036854775808)),(aI .i64 0)] 1 X8 rfl rfl rfl rfl trivial rfl rfl rfl trivial (.ref rfl (by decide)) rfl rfl rfl rfl rfl rfl rfl rfl ?_
  refine X09 [] (o:=by repeat' first|apply Ya|exact pcM|(decide +kernel)|exact Xr) ?_
  refine X5.round ?_
  refine X09 [Bt,.stop 9] (o:=by repeat' first|apply Ya|exact pcM|(decide +kernel)|exact Xr) ?_
  refine X5.drawnCutF 7 tmD [] rfl rfl rfl rfl rfl rfl rfl (by decide) rfl rfl rfl (by decide) (by decide) (by decide) (by decide) rfl rfl rfl rfl rfl rfl rfl (by repeat' first|apply Ya|exact pcM|(decide +kernel)|exact Xr) ?_
  refine X09 [] (o:=by repeat' first|apply Ya|exact pcM|(decide +kernel)|exact Xr) ?_
  refine X5.copyS [(aI .i64 (-9223372036854775808)),(aI .i64 (-9223372036854775808))] 1 X8 rfl rfl rfl rfl trivial rfl rfl rfl trivial (.ref rfl (by decide)) rfl rfl rfl rfl rfl rfl rfl rfl ?_
  refine X09 [] (o:=by repeat' first|apply Ya|exact pcM|(decide +kernel)|exact Xr) ?_
  refine X5.round ?_
  refine X09 [Bf] (o:=by repeat' first|apply Ya|exact pcM|(decide +kernel)|exact Xr) ?_
  refine X5.back (by intro id h;cases h) rfl ?_
  revert h
  exact fun e=>oj e▸Xb [] (o:=by repeat' first|apply Ya|exact pcM|(decide +kernel)|exact Xr) (k:=fi)
 refine brI (fun h4=>?_) fun h4=>?_
 ·
  intro h
  obtain rfl:a0=3:=eq_of_beq h4
  refine X09 [Bf] (o:=by repeat' first|apply Ya|exact pcM|(decide +kernel)|exact Xr) ?_
  refine X5.inline X8 Xyf rfl rfl rfl rfl rfl trivial trivial rfl rfl ?_
  refine X09 [Bf,.wrap,.wrap] (o:=by repeat' first|apply Ya|exact pcM|(decide +kernel)|exact Xr) ?_
  refine X5.inline X8 Xye rfl rfl rfl rfl rfl trivial trivial rfl rfl ?_
  refine X09 [Bf] (o:=by repeat' first|apply Ya|exact pcM|(decide +kernel)|exact Xr) ?_
  refine X5.inline X8 Xyd rfl rfl rfl rfl rfl trivial trivial rfl rfl ?_
  refine X09 [] (o:=by repeat' first|apply Ya|exact pcM|(decide +kernel)|exact Xr) ?_
  refine X5.back (by intro id h;cases h) rfl ?_
  refine X09 [] (o:=by repeat' first|apply Ya|exact pcM|(decide +kernel)|exact Xr) ?_
  refine X5.back (by intro id h;cases h) rfl ?_
  refine X09 [.go true,.go true,Bf,.wrap] (o:=by repeat' first|apply Ya|exact pcM|(decide +kernel)|exact((show((8:Nat):Int)*3<=281474976710656 by decide))|exact Xr) ?_
  refine X5.copyS [(aI .i64 (-9223372036854775808)),(aI .i64 0),(aI .i64 0)] 1 X8 rfl rfl rfl rfl trivial rfl rfl rfl trivial (.ref rfl (by decide)) rfl rfl rfl rfl rfl rfl rfl rfl ?_
  refine X09 [] (o:=by repeat' first|apply Ya|exact pcM|(decide +kernel)|exact Xr) ?_
  refine X5.round ?_
  refine X09 [Bt,.stop 9] (o:=by repeat' first|apply Ya|exact pcM|(decide +kernel)|exact Xr) ?_
  refine X5.drawnCutF 7 tmD [] rfl rfl rfl rfl rfl rfl rfl (by decide) rfl rfl rfl (by decide) (by decide) (by decide) (by decide) rfl rfl rfl rfl rfl rfl rfl (by repeat' first|apply Ya|exact pcM|(decide +kernel)|exact Xr) ?_
  refine X09 [] (o:=by repeat' first|apply Ya|exact pcM|(decide +kernel)|exact Xr) ?_
  refine X5.copyS [(aI .i64 (-9223372036854775808)),(aI .i64 (-9223372036854775808)),(aI .i64 0)] 1 X8 rfl rfl rfl rfl trivial rfl rfl rfl trivial (.ref rfl (by decide)) rfl rfl rfl rfl rfl rfl rfl rfl ?_
  refine X09 [] (o:=by repeat' first|apply Ya|exact pcM|(decide +kernel)|exact Xr) ?_
  refine X5.round ?_
  refine X09 [Bt,.stop 9] (o:=by repeat' first|apply Ya|exact pcM|(decide +kernel)|exact Xr) ?_
  refine X5.drawnCutF 7 tmD [] rfl rfl rfl rfl rfl rfl rfl (by decide) rfl rfl rfl (by decide) (by decide) (by decide) (by decide) rfl rfl rfl rfl rfl rfl rfl (by repeat' first|apply Ya|exact pcM|(decide +kernel)|exact Xr) ?_
  refine X09 [] (o:=by repeat' first|apply Ya|exact pcM|(decide +kernel)|exact Xr) ?_
  refine X5.copyS [(aI .i64 (-9223372036854775808)),(aI .i64 (-9223372036854775808)),(aI .i64 (-9223372036854775808))] 1 X8 rfl rfl rfl rfl trivial rfl rfl rfl trivial (.ref rfl (by decide)) rfl rfl rfl rfl rfl rfl rfl rfl ?_
  refine X09 [] (o:=by repeat' first|apply Ya|exact pcM|(decide +kernel)|exact Xr) ?_
  refine X5.round ?_
  refine X09 [Bf] (o:=by repeat' first|apply Ya|exact pcM|(decide +kernel)|exact Xr) ?_
  refine X5.back (by intro id h;cases h) rfl ?_
  revert h
  exact fun e=>oj e▸Xb [] (o:=by repeat' first|apply Ya|exact pcM|(decide +kernel)|exact Xr) (k:=fi)
 refine brI (fun h5=>?_) fun h5=>?_
 ·
  intro h
  obtain rfl:a0=4:=eq_of_beq h5
  refine X09 [Bf] (o:=by repeat' first|apply Ya|exact pcM|(decide +kernel)|exact Xr) ?_
  refine X5.inline X8 Xyf rfl rfl rfl rfl rfl trivial trivial rfl rfl ?_
  refine X09 [Bf,.wrap,.wrap] (o:=by repeat' first|apply Ya|exact pcM|(decide +kernel)|exact Xr) ?_
  refine X5.inline X8 Xye rfl rfl rfl rfl rfl trivial trivial rfl rfl ?_
  refine X09 [Bf] (o:=by repeat' first|apply Ya|exact pcM|(decide +kernel)|exact Xr) ?_
  refine X5.inline X8 Xyd rfl rfl rfl rfl rfl trivial trivial rfl rfl ?_
  refine X09 [] (o:=by repeat' first|apply Ya|exact pcM|(decide +kernel)|exact Xr) ?_
  refine X5.back (by intro id h;cases h) rfl ?_
  refine X09 [] (o:=by repeat' first|apply Ya|exact pcM|(decide +kernel)|exact Xr) ?_
  refine X5.back (by intro id h;cases h) rfl ?_
  refine X09 [.go true,.go true,Bf,.wrap] (o:=by repeat' first|apply Ya|exact pcM|(decide +kernel)|exact((show((8:Nat):Int)*4<=281474976710656 by decide))|exact Xr) ?_
  refine X5.copyS [(aI .i64 (-9223372036854775808)),(aI .i64 0),(aI .i64 0),(aI .i64 0)] 1 X8 rfl rfl rfl rfl trivial rfl rfl rfl trivial (.ref rfl (by decide)) rfl rfl rfl rfl rfl rfl rfl rfl ?_
  refine X09 [] (o:=by repeat' first|apply Ya|exact pcM|(decide +kernel)|exact Xr) ?_
  refine X5.round ?_
  refine X09 [Bt,.stop 9] (o:=by repeat' first|apply Ya|exact pcM|(decide +kernel)|exact Xr) ?_
  refine X5.drawnCutF 7 tmD [] rfl rfl rfl rfl rfl rfl rfl (by decide) rfl rfl rfl (by decide) (by decide) (by decide) (by decide) rfl rfl rfl rfl rfl rfl rfl (by repeat' first|apply Ya|exact pcM|(decide +kernel)|exact Xr) ?_
  refine X09 [] (o:=by repeat' first|apply Ya|exact pcM|(decide +kernel)|exact Xr) ?_
  refine X5.copyS [(aI .i64 (-9223372036854775808)),(aI .i64 (-9223372036854775808)),(aI .i64 0),(aI .i64 0)] 1 X8 rfl rfl rfl rfl trivial rfl rfl rfl trivial (.ref rfl (by decide)) rfl rfl rfl rfl rfl rfl rfl rfl ?_
  refine X09 [] (o:=by repeat' first|apply Ya|exact pcM|(decide +kernel)|exact Xr) ?_
  refine X5.round ?_
  refine X09 [Bt,.stop 9] (o:=by repeat' first|apply Ya|exact pcM|(decide +kernel)|exact Xr) ?_
  refine X5.drawnCutF 7 tmD [] rfl rfl rfl rfl rfl rfl rfl (by decide) rfl rfl rfl (by decide) (by decide) (by decide) (by decide) rfl rfl rfl rfl rfl rfl rfl (by repeat' first|apply Ya|exact pcM|(decide +kernel)|exact Xr) ?_
  refine X09 [] (o:=by repeat' first|apply Ya|exact pcM|(decide +kernel)|exact Xr) ?_
  refine X5.copyS [(aI .i64 (-9223372036854775808)),(aI .i64 (-9223372036854775808)),(aI .i64 (-9223372036854775808)),(aI .i64 (-9223372036854775808))] 2 X8 rfl rfl rfl rfl trivial rfl rfl rfl trivial (.ref rfl (by decide)) rfl rfl rfl rfl rfl rfl rfl rfl ?_
  refine X09 [] (o:=by repeat' first|apply Ya|exact pcM|(decide +kernel)|exact Xr) ?_
  refine X5.round ?_
  refine X09 [Bf] (o:=by repeat' first|apply Ya|exact pcM|(decide +kernel)|exact Xr) ?_
  refine X5.back (by intro id h;cases h) rfl ?_
  revert h
  exact fun e=>oj e▸Xb [] (o:=by repeat' first|apply Ya|exact pcM|(decide +kernel)|exact Xr) (k:=fi)
 intro h
 cases h⟩
instance X032:PCs Tryz.prog 41 (∀ (a0:Int) (a1:Int) (r:Xo×Int),Xpv a0 a1=some r->X0h Tryz.prog 41 [(aI .i64 a0),(aI .i64 a1)] (AV.tup [(Xc true r.1),(aI .i64 r.2)])):=⟨fun a0 a1 r h=>by
 refine X0h.sym X8 fn41 (nt:=28) rfl rfl ?_ okM
 unfold Xpv at h
 revert h
 exact bI fun v1 h2=>brI (fun h3=>fun e=>oj e▸Xb [.pure _ (AV.tup [(AV.list true (List.map (aI .i64) v1.1)),(aI .i64 v1.2)]),Bt] (k:=fi)) fun h3=>fun e=>oj e▸Xb [.pure _ (AV.tup [(AV.list true (List.map (aI .i64) v1.1)),(aI .i64 v1.2)]),Bf] (k:=fi)⟩
instance Xwd:PCs Tryz.prog 210 (∀ (a0:Int) (r:Int×Int),X9r a0=some r->X0h Tryz.prog 210 [(aI .u8 a0)] (AV.tup [(aI .i64 r.1),(aI .i64 r.2)])):=⟨fun a0 r h=>by
 refine X0h.sym X8 X05j (nt:=25) rfl rfl ?_ okM
 unfold X9r at h
 revert h
 exact brI (fun h1=>fun e=>oj e▸Xb [Bt] (k:=fi)) fun h1=>brI (fun h2=>fun e=>oj e▸Xb [Bf,Bt] (k:=fi)) fun h2=>brI (fun h3=>fun e=>oj e▸Xb [Bf,Bf,Bt] (k:=fi)) fun h3=>fun e=>oj e▸Xb [Bf,Bf,Bf] (k:=fi)⟩
end Go.Av.Tryz