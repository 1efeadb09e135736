/- Printed by decomp.py: that the program computes the functions. -/
import Derived.Test.YtkjlgmgfhgamlaaGreatDFunZ
import Derived.Test.YtkjlgmgfhgamlaaGreatTabZ
import Derived.Test.YtkjlgmgfhgamlaaGreatDeleteZ
import Derived.Test.YtkjlgmgfhgamlaaGreatInsertZ
set_option linter.all false

namespace Go.Av.Tryz
open Go.Proofs Go.D
set_option maxRecDepth 60000
set_option maxHeartbeats 40000000
theorem tmD:Xdb Tryz.prog X05k.find/\Tryz.prog.follows .mixedOrders=true:=⟨X3,by kernel_rfl⟩
instance tmI:TmD Tryz.prog X05k.find:=⟨tmD⟩
theorem fn7:X17 Tryz.prog 7 Tryz.f7 (Xd Tryz.f7):=⟨Tryz.func7,by kernel_rfl,rfl⟩
theorem fn12:X17 Tryz.prog 12 Tryz.f12 (Xd Tryz.f12):=⟨Tryz.func12,by kernel_rfl,rfl⟩
theorem fn13:X17 Tryz.prog 13 Tryz.f13 (Xd Tryz.f13):=⟨Tryz.func13,by kernel_rfl,rfl⟩
theorem fn14:X17 Tryz.prog 14 Tryz.f14 (Xd Tryz.f14):=⟨Tryz.func14,by kernel_rfl,rfl⟩
theorem fn15:X17 Tryz.prog 15 Tryz.f15 (Xd Tryz.f15):=⟨Tryz.func15,by kernel_rfl,rfl⟩
theorem fn23:X17 Tryz.prog 23 Tryz.f23 (Xd Tryz.f23):=⟨Tryz.func23,by kernel_rfl,rfl⟩
theorem fn25:X17 Tryz.prog 25 Tryz.f25 (Xd Tryz.f25):=⟨Tryz.func25,by kernel_rfl,rfl⟩
theorem fn26:X17 Tryz.prog 26 Tryz.f26 (Xd Tryz.f26):=⟨Tryz.func26,by kernel_rfl,rfl⟩
theorem fn27:X17 Tryz.prog 27 Tryz.f27 (Xd Tryz.f27):=⟨Tryz.func27,by kernel_rfl,rfl⟩
theorem fn29:X17 Tryz.prog 29 Tryz.f29 (Xd Tryz.f29):=⟨Tryz.func29,by kernel_rfl,rfl⟩
theorem fn30:X17 Tryz.prog 30 Tryz.f30 (Xd Tryz.f30):=⟨Tryz.func30,by kernel_rfl,rfl⟩
theorem fn31:X17 Tryz.prog 31 Tryz.f31 (Xd Tryz.f31):=⟨Tryz.func31,by kernel_rfl,rfl⟩
theorem fn32:X17 Tryz.prog 32 Tryz.f32 (Xd Tryz.f32):=⟨Tryz.func32,by kernel_rfl,rfl⟩
theorem fn33:X17 Tryz.prog 33 Tryz.f33 (Xd Tryz.f33):=⟨Tryz.func33,by kernel_rfl,rfl⟩
theorem fn34:X17 Tryz.prog 34 Tryz.f34 (Xd Tryz.f34):=⟨Tryz.func34,by kernel_rfl,rfl⟩
theorem fn35:X17 Tryz.prog 35 Tryz.f35 (Xd Tryz.f35):=⟨Tryz.func35,by kernel_rfl,rfl⟩
theorem fn36:X17 Tryz.prog 36 Tryz.f36 (Xd Tryz.f36):=⟨Tryz.func36,by kernel_rfl,rfl⟩
theorem fn37:X17 Tryz.prog 37 Tryz.f37 (Xd Tryz.f37):=⟨Tryz.func37,by kernel_rfl,rfl⟩
theorem fn49:X17 Tryz.prog 49 Tryz.f49 (Xd Tryz.f49):=⟨Tryz.func49,by kernel_rfl,rfl⟩
theorem fn53:X17 Tryz.prog 53 Tryz.f53 (Xd Tryz.f53):=⟨Tryz.func53,by kernel_rfl,rfl⟩
theorem fn54:X17 Tryz.prog 54 Tryz.f54 (Xd Tryz.f54):=⟨Tryz.func54,by kernel_rfl,rfl⟩
theorem fn55:X17 Tryz.prog 55 Tryz.f55 (Xd Tryz.f55):=⟨Tryz.func55,by kernel_rfl,rfl⟩
theorem fn56:X17 Tryz.prog 56 Tryz.f56 (Xd Tryz.f56):=⟨Tryz.func56,by kernel_rfl,rfl⟩
theorem fn57:X17 Tryz.prog 57 Tryz.f57 (Xd Tryz.f57):=⟨Tryz.func57,by kernel_rfl,rfl⟩
theorem fn58:X17 Tryz.prog 58 Tryz.f58 (Xd Tryz.f58):=⟨Tryz.func58,by kernel_rfl,rfl⟩
theorem fn59:X17 Tryz.prog 59 Tryz.f59 (Xd Tryz.f59):=⟨Tryz.func59,by kernel_rfl,rfl⟩
theorem fn61:X17 Tryz.prog 61 Tryz.f61 (Xd Tryz.f61):=⟨Tryz.func61,by kernel_rfl,rfl⟩
theorem fn62:X17 Tryz.prog 62 Tryz.f62 (Xd Tryz.f62):=⟨Tryz.func62,by kernel_rfl,rfl⟩
theorem fn63:X17 Tryz.prog 63 Tryz.f63 (Xd Tryz.f63):=⟨Tryz.func63,by kernel_rfl,rfl⟩
theorem fn64:X17 Tryz.prog 64 Tryz.f64 (Xd Tryz.f64):=⟨Tryz.func64,by kernel_rfl,rfl⟩
theorem fn65:X17 Tryz.prog 65 Tryz.f65 (Xd Tryz.f65):=⟨Tryz.func65,by kernel_rfl,rfl⟩
theorem fn68:X17 Tryz.prog 68 Tryz.f68 (Xd Tryz.f68):=⟨Tryz.func68,by kernel_rfl,rfl⟩
theorem fn69:X17 Tryz.prog 69 Tryz.f69 (Xd Tryz.f69):=⟨Tryz.func69,by kernel_rfl,rfl⟩
theorem fn70:X17 Tryz.prog 70 Tryz.f70 (Xd Tryz.f70):=⟨Tryz.func70,by kernel_rfl,rfl⟩
theorem fn71:X17 Tryz.prog 71 Tryz.f71 (Xd Tryz.f71):=⟨Tryz.func71,by kernel_rfl,rfl⟩
theorem fn72:X17 Tryz.prog 72 Tryz.f72 (Xd Tryz.f72):=⟨Tryz.func72,by kernel_rfl,rfl⟩
theorem fn73:X17 Tryz.prog 73 Tryz.f73 (Xd Tryz.f73):=⟨Tryz.func73,by kernel_rfl,rfl⟩
theorem fn74:X17 Tryz.prog 74 Tryz.f74 (Xd Tryz.f74):=⟨Tryz.func74,by kernel_rfl,rfl⟩
theorem fn75:X17 Tryz.prog 75 Tryz.f75 (Xd Tryz.f75):=⟨Tryz.func75,by kernel_rfl,rfl⟩
theorem fn76:X17 Tryz.prog 76 Tryz.f76 (Xd Tryz.f76):=⟨Tryz.func76,by kernel_rfl,rfl⟩
theorem fn77:X17 Tryz.prog 77 Tryz.f77 (Xd Tryz.f77):=⟨Tryz.func77,by kernel_rfl,rfl⟩
theorem fn78:X17 Tryz.prog 78 Tryz.f78 (Xd Tryz.f78):=⟨Tryz.func78,by kernel_rfl,rfl⟩
theorem fn79:X17 Tryz.prog 79 Tryz.f79 (Xd Tryz.f79):=⟨Tryz.func79,by kernel_rfl,rfl⟩
theorem fn80:X17 Tryz.prog 80 Tryz.f80 (Xd Tryz.f80):=⟨Tryz.func80,by kernel_rfl,rfl⟩
theorem fn81:X17 Tryz.prog 81 Tryz.f81 (Xd Tryz.f81):=⟨Tryz.func81,by kernel_rfl,rfl⟩
theorem fn82:X17 Tryz.prog 82 Tryz.f82 (Xd Tryz.f82):=⟨Tryz.func82,by kernel_rfl,rfl⟩
theorem fn83:X17 Tryz.prog 83 Tryz.f83 (Xd Tryz.f83):=⟨Tryz.func83,by kernel_rfl,rfl⟩
theorem fn84:X17 Tryz.prog 84 Tryz.f84 (Xd Tryz.f84):=⟨Tryz.func84,by kernel_rfl,rfl⟩
theorem fn86:X17 Tryz.prog 86 Tryz.f86 (Xd Tryz.f86):=⟨Tryz.func86,by kernel_rfl,rfl⟩
theorem fn87:X17 Tryz.prog 87 Tryz.f87 (Xd Tryz.f87):=⟨Tryz.func87,by kernel_rfl,rfl⟩
theorem fn88:X17 Tryz.prog 88 Tryz.f88 (Xd Tryz.f88):=⟨Tryz.func88,by kernel_rfl,rfl⟩
theorem fn89:X17 Tryz.prog 89 Tryz.f89 (Xd Tryz.f89):=⟨Tryz.func89,by kernel_rfl,rfl⟩
theorem fn90:X17 Tryz.prog 90 Tryz.f90 (Xd Tryz.f90):=⟨Tryz.func90,by kernel_rfl,rfl⟩
theorem fn91:X17 Tryz.prog 91 Tryz.f91 (Xd Tryz.f91):=⟨Tryz.func91,by kernel_rfl,rfl⟩
theorem fn92:X17 Tryz.prog 92 Tryz.f92 (Xd Tryz.f92):=⟨Tryz.func92,by kernel_rfl,rfl⟩
theorem fn93:X17 Tryz.prog 93 Tryz.f93 (Xd Tryz.f93):=⟨Tryz.func93,by kernel_rfl,rfl⟩
theorem fn94:X17 Tryz.prog 94 Tryz.f94 (Xd Tryz.f94):=⟨Tryz.func94,by kernel_rfl,rfl⟩
theorem fn95:X17 Tryz.prog 95 Tryz.f95 (Xd Tryz.f95):=⟨Tryz.func95,by kernel_rfl,rfl⟩
theorem fn96:X17 Tryz.prog 96 Tryz.f96 (Xd Tryz.f96):=⟨Tryz.func96,by kernel_rfl,rfl⟩
theorem fn97:X17 Tryz.prog 97 Tryz.f97 (Xd Tryz.f97):=⟨Tryz.func97,by kernel_rfl,rfl⟩
theorem fn98:X17 Tryz.prog 98 Tryz.f98 (Xd Tryz.f98):=⟨Tryz.func98,by kernel_rfl,rfl⟩
theorem fn99:X17 Tryz.prog 99 Tryz.f99 (Xd Tryz.f99):=⟨Tryz.func99,by kernel_rfl,rfl⟩
theorem X0dr:X17 Tryz.prog 100 Tryz.f100 (Xd Tryz.f100):=⟨Tryz.func100,by kernel_rfl,rfl⟩
theorem X0dq:X17 Tryz.prog 101 Tryz.f101 (Xd Tryz.f101):=⟨Tryz.func101,by kernel_rfl,rfl⟩
theorem X0dp:X17 Tryz.prog 102 Tryz.f102 (Xd Tryz.f102):=⟨Tryz.func102,by kernel_rfl,rfl⟩
theorem X0do:X17 Tryz.prog 103 Tryz.f103 (Xd Tryz.f103):=⟨Tryz.func103,by kernel_rfl,rfl⟩
theorem X0a8:X17 Tryz.prog 104 Tryz.f104 (Xd Tryz.f104):=⟨Tryz.func104,by kernel_rfl,rfl⟩
theorem X0dn:X17 Tryz.prog 106 Tryz.f106 (Xd Tryz.f106):=⟨Tryz.func106,by kernel_rfl,rfl⟩
theorem X0dm:X17 Tryz.prog 107 Tryz.f107 (Xd Tryz.f107):=⟨Tryz.func107,by kernel_rfl,rfl⟩
theorem X0dl:X17 Tryz.prog 108 Tryz.f108 (Xd Tryz.f108):=⟨Tryz.func108,by kernel_rfl,rfl⟩
theorem X0dk:X17 Tryz.prog 109 Tryz.f109 (Xd Tryz.f109):=⟨Tryz.func109,by kernel_rfl,rfl⟩
theorem X0dj:X17 Tryz.prog 110 Tryz.f110 (Xd Tryz.f110):=⟨Tryz.func110,by kernel_rfl,rfl⟩
theorem X0di:X17 Tryz.prog 111 Tryz.f111 (Xd Tryz.f111):=⟨Tryz.func111,by kernel_rfl,rfl⟩
theorem X0dh:X17 Tryz.prog 112 Tryz.f112 (Xd Tryz.f112):=⟨Tryz.func112,by kernel_rfl,rfl⟩
theorem X0dg:X17 Tryz.prog 113 Tryz.f113 (Xd Tryz.f113):=⟨Tryz.func113,by kernel_rfl,rfl⟩
theorem X048:X17 Tryz.prog 114 Tryz.f114 (Xd Tryz.f114):=⟨Tryz.func114,by kernel_rfl,rfl⟩
theorem X0df:X17 Tryz.prog 115 Tryz.f115 (Xd Tryz.f115):=⟨Tryz.func115,by kernel_rfl,rfl⟩
theorem X0de:X17 Tryz.prog 116 Tryz.f116 (Xd Tryz.f116):=⟨Tryz.func116,by kernel_rfl,rfl⟩
theorem X0dd:X17 Tryz.prog 117 Tryz.f117 (Xd Tryz.f117):=⟨Tryz.func117,by kernel_rfl,rfl⟩
theorem X0a7:X17 Tryz.prog 118 Tryz.f118 (Xd Tryz.f118):=⟨Tryz.func118,by kernel_rfl,rfl⟩
theorem X0a6:X17 Tryz.prog 119 Tryz.f119 (Xd Tryz.f119):=⟨Tryz.func119,by kernel_rfl,rfl⟩
theorem X0dc:X17 Tryz.prog 120 Tryz.f120 (Xd Tryz.f120):=⟨Tryz.func120,by kernel_rfl,rfl⟩
theorem X07r:X17 Tryz.prog 121 Tryz.f121 (Xd Tryz.f121):=⟨Tryz.func121,by kernel_rfl,rfl⟩
theorem X0db:X17 Tryz.prog 122 Tryz.f122 (Xd Tryz.f122):=⟨Tryz.func122,by kernel_rfl,rfl⟩
theorem X0da:X17 Tryz.prog 123 Tryz.f123 (Xd Tryz.f123):=⟨Tryz.func123,by kernel_rfl,rfl⟩
theorem X0d9:X17 Tryz.prog 124 Tryz.f124 (Xd Tryz.f124):=⟨Tryz.func124,by kernel_rfl,rfl⟩
theorem X0d8:X17 Tryz.prog 125 Tryz.f125 (Xd Tryz.f125):=⟨Tryz.func125,by kernel_rfl,rfl⟩
theorem Xvz:X17 Tryz.prog 126 Tryz.f126 (Xd Tryz.f126):=⟨Tryz.func126,by kernel_rfl,rfl⟩
theorem X0d7:X17 Tryz.prog 127 Tryz.f127 (Xd Tryz.f127):=⟨Tryz.func127,by kernel_rfl,rfl⟩
theorem X0d6:X17 Tryz.prog 128 Tryz.f128 (Xd Tryz.f128):=⟨Tryz.func128,by kernel_rfl,rfl⟩
theorem X0d5:X17 Tryz.prog 129 Tryz.f129 (Xd Tryz.f129):=⟨Tryz.func129,by kernel_rfl,rfl⟩
theorem X0d4:X17 Tryz.prog 130 Tryz.f130 (Xd Tryz.f130):=⟨Tryz.func130,by kernel_rfl,rfl⟩
theorem X0d3:X17 Tryz.prog 131 Tryz.f131 (Xd Tryz.f131):=⟨Tryz.func131,by kernel_rfl,rfl⟩
theorem X0d2:X17 Tryz.prog 132 Tryz.f132 (Xd Tryz.f132):=⟨Tryz.func132,by kernel_rfl,rfl⟩
theorem X0d1:X17 Tryz.prog 133 Tryz.f133 (Xd Tryz.f133):=⟨Tryz.func133,by kernel_rfl,rfl⟩
theorem X0d0:X17 Tryz.prog 134 Tryz.f134 (Xd Tryz.f134):=⟨Tryz.func134,by kernel_rfl,rfl⟩
theorem X0cz:X17 Tryz.prog 135 Tryz.f135 (Xd Tryz.f135):=⟨Tryz.func135,by kernel_rfl,rfl⟩
theorem X0a5:X17 Tryz.prog 136 Tryz.f136 (Xd Tryz.f136):=⟨Tryz.func136,by kernel_rfl,rfl⟩
theorem X0cy:X17 Tryz.prog 137 Tryz.f137 (Xd Tryz.f137):=⟨Tryz.func137,by kernel_rfl,rfl⟩
theorem X0cx:X17 Tryz.prog 138 Tryz.f138 (Xd Tryz.f138):=⟨Tryz.func138,by kernel_rfl,rfl⟩
theorem X0cw:X17 Tryz.prog 139 Tryz.f139 (Xd Tryz.f139):=⟨Tryz.func139,by kernel_rfl,rfl⟩
theorem X0cv:X17 Tryz.prog 140 Tryz.f140 (Xd Tryz.f140):=⟨Tryz.func140,by kernel_rfl,rfl⟩
theorem X0cu:X17 Tryz.prog 141 Tryz.f141 (Xd Tryz.f141):=⟨Tryz.func141,by kernel_rfl,rfl⟩
theorem X0ct:X17 Tryz.prog 142 Tryz.f142 (Xd Tryz.f142):=⟨Tryz.func142,by kernel_rfl,rfl⟩
theorem X0cs:X17 Tryz.prog 143 Tryz.f143 (Xd Tryz.f143):=⟨Tryz.func143,by kernel_rfl,rfl⟩
theorem X047:X17 Tryz.prog 144 Tryz.f144 (Xd Tryz.f144):=⟨Tryz.func144,by kernel_rfl,rfl⟩
theorem X0cr:X17 Tryz.prog 145 Tryz.f145 (Xd Tryz.f145):=⟨Tryz.func145,by kernel_rfl,rfl⟩
theorem X0cq:X17 Tryz.prog 146 Tryz.f146 (Xd Tryz.f146):=⟨Tryz.func146,by kernel_rfl,rfl⟩
theorem X0a4:X17 Tryz.prog 147 Tryz.f147 (Xd Tryz.f147):=⟨Tryz.func147,by kernel_rfl,rfl⟩
theorem X0a3:X17 Tryz.prog 148 Tryz.f148 (Xd Tryz.f148):=⟨Tryz.func148,by kernel_rfl,rfl⟩
theorem X0cp:X17 Tryz.prog 150 Tryz.f150 (Xd Tryz.f150):=⟨Tryz.func150,by kernel_rfl,rfl⟩
theorem X0co:X17 Tryz.prog 151 Tryz.f151 (Xd Tryz.f151):=⟨Tryz.func151,by kernel_rfl,rfl⟩
theorem X0a2:X17 Tryz.prog 152 Tryz.f152 (Xd Tryz.f152):=⟨Tryz.func152,by kernel_rfl,rfl⟩
theorem X0cn:X17 Tryz.prog 155 Tryz.f155 (Xd Tryz.f155):=⟨Tryz.func155,by kernel_rfl,rfl⟩
theorem X0cm:X17 Tryz.prog 156 Tryz.f156 (Xd Tryz.f156):=⟨Tryz.func156,by kernel_rfl,rfl⟩
theorem X0cl:X17 Tryz.prog 157 Tryz.f157 (Xd Tryz.f157):=⟨Tryz.func157,by kernel_rfl,rfl⟩
theorem X0ck:X17 Tryz.prog 158 Tryz.f158 (Xd Tryz.f158):=⟨Tryz.func158,by kernel_rfl,rfl⟩
theorem X0cj:X17 Tryz.prog 159 Tryz.f159 (Xd Tryz.f159):=⟨Tryz.func159,by kernel_rfl,rfl⟩
theorem X0ci:X17 Tryz.prog 160 Tryz.f160 (Xd Tryz.f160):=⟨Tryz.func160,by kernel_rfl,rfl⟩
theorem X0ch:X17 Tryz.prog 161 Tryz.f161 (Xd Tryz.f161):=⟨Tryz.func161,by kernel_rfl,rfl⟩
theorem X0cg:X17 Tryz.prog 162 Tryz.f162 (Xd Tryz.f162):=⟨Tryz.func162,by kernel_rfl,rfl⟩
theorem X0cf:X17 Tryz.prog 163 Tryz.f163 (Xd Tryz.f163):=⟨Tryz.func163,by kernel_rfl,rfl⟩
theorem X0ce:X17 Tryz.prog 164 Tryz.f164 (Xd Tryz.f164):=⟨Tryz.func164,by kernel_rfl,rfl⟩
theorem X046:X17 Tryz.prog 166 Tryz.f166 (Xd Tryz.f166):=⟨Tryz.func166,by kernel_rfl,rfl⟩
theorem X0cd:X17 Tryz.prog 167 Tryz.f167 (Xd Tryz.f167):=⟨Tryz.func167,by kernel_rfl,rfl⟩
theorem X0a1:X17 Tryz.prog 168 Tryz.f168 (Xd Tryz.f168):=⟨Tryz.func168,by kernel_rfl,rfl⟩
theorem X0cc:X17 Tryz.prog 169 Tryz.f169 (Xd Tryz.f169):=⟨Tryz.func169,by kernel_rfl,rfl⟩
theorem X0cb:X17 Tryz.prog 170 Tryz.f170 (Xd Tryz.f170):=⟨Tryz.func170,by kernel_rfl,rfl⟩
theorem X0a0:X17 Tryz.prog 171 Tryz.f171 (Xd Tryz.f171):=⟨Tryz.func171,by kernel_rfl,rfl⟩
theorem X0ca:X17 Tryz.prog 173 Tryz.f173 (Xd Tryz.f173):=⟨Tryz.func173,by kernel_rfl,rfl⟩
theorem X0c9:X17 Tryz.prog 174 Tryz.f174 (Xd Tryz.f174):=⟨Tryz.func174,by kernel_rfl,rfl⟩
theorem X0c8:X17 Tryz.prog 175 Tryz.f175 (Xd Tryz.f175):=⟨Tryz.func175,by kernel_rfl,rfl⟩
theorem X0c7:X17 Tryz.prog 176 Tryz.f176 (Xd Tryz.f176):=⟨Tryz.func176,by kernel_rfl,rfl⟩
theorem X0c6:X17 Tryz.prog 177 Tryz.f177 (Xd Tryz.f177):=⟨Tryz.func177,by kernel_rfl,rfl⟩
theorem X0c5:X17 Tryz.prog 178 Tryz.f178 (Xd Tryz.f178):=⟨Tryz.func178,by kernel_rfl,rfl⟩
theorem X0c4:X17 Tryz.prog 179 Tryz.f179 (Xd Tryz.f179):=⟨Tryz.func179,by kernel_rfl,rfl⟩
theorem X0c3:X17 Tryz.prog 180 Tryz.f180 (Xd Tryz.f180):=⟨Tryz.func180,by kernel_rfl,rfl⟩
theorem X0c2:X17 Tryz.prog 181 Tryz.f181 (Xd Tryz.f181):=⟨Tryz.func181,by kernel_rfl,rfl⟩
theorem X0c1:X17 Tryz.prog 182 Tryz.f182 (Xd Tryz.f182):=⟨Tryz.func182,by kernel_rfl,rfl⟩
theorem X0c0:X17 Tryz.prog 183 Tryz.f183 (Xd Tryz.f183):=⟨Tryz.func183,by kernel_rfl,rfl⟩
theorem X0bz:X17 Tryz.prog 184 Tryz.f184 (Xd Tryz.f184):=⟨Tryz.func184,by kernel_rfl,rfl⟩
theorem X09z:X17 Tryz.prog 185 Tryz.f185 (Xd Tryz.f185):=⟨Tryz.func185,by kernel_rfl,rfl⟩
theorem X0by:X17 Tryz.prog 194 Tryz.f194 (Xd Tryz.f194):=⟨Tryz.func194,by kernel_rfl,rfl⟩
theorem X0bx:X17 Tryz.prog 196 Tryz.f196 (Xd Tryz.f196):=⟨Tryz.func196,by kernel_rfl,rfl⟩
theorem X0bw:X17 Tryz.prog 197 Tryz.f197 (Xd Tryz.f197):=⟨Tryz.func197,by kernel_rfl,rfl⟩
theorem X0bv:X17 Tryz.prog 198 Tryz.f198 (Xd Tryz.f198):=⟨Tryz.func198,by kernel_rfl,rfl⟩
theorem X0bu:X17 Tryz.prog 199 Tryz.f199 (Xd Tryz.f199):=⟨Tryz.func199,by kernel_rfl,rfl⟩
theorem X0bt:X17 Tryz.prog 200 Tryz.f200 (Xd Tryz.f200):=⟨Tryz.func200,by kernel_rfl,rfl⟩
theorem X0bs:X17 Tryz.prog 201 Tryz.f201 (Xd Tryz.f201):=⟨Tryz.func201,by kernel_rfl,rfl⟩
theorem X0br:X17 Tryz.prog 202 Tryz.f202 (Xd Tryz.f202):=⟨Tryz.func202,by kernel_rfl,rfl⟩
theorem X0bq:X17 Tryz.prog 203 Tryz.f203 (Xd Tryz.f203):=⟨Tryz.func203,by kernel_rfl,rfl⟩
theorem X0bp:X17 Tryz.prog 204 Tryz.f204 (Xd Tryz.f204):=⟨Tryz.func204,by kernel_rfl,rfl⟩
theorem X0bo:X17 Tryz.prog 210 Tryz.f210 (Xd Tryz.f210):=⟨Tryz.func210,by kernel_rfl,rfl⟩
theorem X045:X17 Tryz.prog 211 Tryz.f211 (Xd Tryz.f211):=⟨Tryz.func211,by kernel_rfl,rfl⟩
theorem Xn1:X17 Tryz.prog 212 Tryz.f212 (Xd Tryz.f212):=⟨Tryz.func212,by kernel_rfl,rfl⟩
instance X01x:PCs Tryz.prog 12 (∀ (a0:X0g) (r:Bool),Xbl a0=some r->X0b Tryz.prog 12 [(X07 false a0)] (aB r)):=⟨λa0 r h=>by
 refine X0b.sym X3 fn12 (nt:=19) rfl rfl ?_ okM;unfold Xbl at h;revert h;refine bI λj3_2 h6=>rnI [.stop 1] ?_;intro h;refine X2.join (s':=⟨fr [(2,(aB j3_2))],hp ([]),0⟩) ?_ (λJ=>X2.cut ?_)
 ·
  revert h;exact λe=>oj e▸X6 [] (k:=fi)
 clear h;revert h6;refine brI (λh4=>?_) λh4=>?_
 ·
  intro h;obtain rfl:=oj h;exact X6 [.el (aI .i64 (a0.Arg.length:Int)),Gf,Gf,Gf,Gf,Gf,Gf,Gf,Gf] (o:=by repeat' first|apply Ya|exact pcM|exact fq (X7 h4 rfl)|exact Xu) (k:=wkT [] (X2.glue J))
 refine brI (λh5=>?_) λh5=>?_
 ·
  intro h;obtain rfl:=oj h;exact X6 [.el (aI .i64 (a0.Arg.length:Int)),Gt,Gt,Gt,.el (aI .i64 (a0.Where.length:Int)),Gt,Gf,Gf,Gf,Gf] (o:=by repeat' first|apply Ya|exact pcM|exact fq (Xb h4 h5)|exact Xu) (k:=wkT [] (X2.glue J))
 intro h;obtain rfl:=oj h;exact X6 [.el (aI .i64 (a0.Arg.length:Int)),Gt,Gt,Gt,.el (aI .i64 (a0.Where.length:Int)),Gt,Gt,Gt,Gt,.el (aI .i64 (a0.Sources.length:Int)),Gt] (o:=by repeat' first|apply Ya|exact pcM|exact fq (Xb h4 h5)|exact Xu) (k:=wkT [] (X2.glue J))⟩
instance X014:PCs Tryz.prog 25 (∀ (a0:Xo) (r:Bool),X8s a0=some r->X0b Tryz.prog 25 [(Xa false a0)] (aB r)):=⟨λa0 r h=>by
 refine X0b.sym X3 fn25 (nt:=56) rfl rfl ?_ okM;unfold X8s at h;refine X0j [.el (aI .i64 (a0.Pending.length:Int)),.el (aI .i64 (a0.Rows.length:Int)),.el (aI .i64 (a0.Late.length:Int))] ?_;refine X2.round ?_;revert h;refine bI λX076 h6=>rnI [Bt,.stop 5] ?_;intro h;refine X2.join (s':=⟨fr [(1,(AV.ptr 0 0 0)),(3,(AV.ref 1 0 3)),(4,(aI .i64 0)),(39,(aB X076))],hp ([(0,Ob [(Xa false a0)] 9),(1,Ob [(aI .i64 (a0.Pending.length:Int)),(aI .i64 (a0.Rows.length:Int)),(aI .i64 (a0.Late.length:Int))] 1)]),2⟩) ?_ (λJ=>X2.cut ?_)
 ·
  revert h;refine brI (λh7=>λe=>oj e▸X6 [Bt] (k:=fi)) λh7=>rnI [Bf] ?_;intro h;refine X2.round ?_;revert h;refine bI λXzh h13=>rnI [Bt,.stop 5] ?_;intro h;refine X2.join (s':=⟨fr [(1,(AV.ptr 0 0 0)),(3,(AV.ref 1 0 3)),(4,(aI .i64 1)),(39,(aB Xzh))],hp ([(0,Ob [(Xa false a0)] 9),(1,Ob [(aI .i64 (a0.Pending.length:Int)),(aI .i64 (a0.Rows.length:Int)),(aI .i64 (a0.Late.length:Int))] 1)]),2⟩) ?_ (λJ=>X2.cut ?_)
  ·
   revert h;refine brI (λh14=>λe=>oj e▸X6 [Bt] (k:=fi)) λh14=>rnI [Bf] ?_;intro h;refine X2.round ?_;revert h;refine bI λXzc h20=>rnI [Bt,.stop 5] ?_;intro h;refine X2.join (s':=⟨fr [(1,(AV.ptr 0 0 0)),(3,(AV.ref 1 0 3)),(4,(aI .i64 2)),(39,(aB Xzc))],hp ([(0,Ob [(Xa false a0)] 9),(1,Ob [(aI .i64 (a0.Pending.length:Int)),(aI .i64 (a0.Rows.length:Int)),(aI .i64 (a0.Late.length:Int))] 1)]),2⟩) ?_ (λJ=>X2.cut ?_)
   ·
    revert h;refine brI (λh21=>λe=>oj e▸X6 [Bt] (k:=fi)) λh21=>rnI [Bf] ?_;intro h;refine X2.round ?_;revert h;refine bI λX07h h27=>rnI [Bf,.stop 7] ?_;intro h;refine X2.join (s':=⟨fr [(2,(aB X07h))],hp ([]),0⟩) ?_ (λJ=>X2.cut ?_)
    ·
     revert h;exact λe=>oj e▸X6 [] (k:=fi)
    clear h;revert h27;refine brI (λh25=>?_) λh25=>?_
    ·
     intro h;obtain rfl:=oj h;exact X6 [.el (aI .i64 (a0.Store.length:Int)),Gf,Gf,Gf,Gf,Gf,Gf,Gf,Gf] (o:=by repeat' first|apply Ya|exact pcM|exact fq (X7 h25 rfl)|exact Xu) (k:=wkT [] (X2.glue J))
    refine brI (λh26=>?_) λh26=>?_
    ·
     intro h;obtain rfl:=oj h;exact X6 [.el (aI .i64 (a0.Store.length:Int)),Gt,Gt,Gt,.el (aI .i64 (a0.Events.length:Int)),Gt,Gf,Gf,Gf,Gf] (o:=by repeat' first|apply Ya|exact pcM|exact fq (Xb h25 h26)|exact Xu) (k:=wkT [] (X2.glue J))
    intro h;obtain rfl:=oj h;exact X6 [.el (aI .i64 (a0.Store.length:Int)),Gt,Gt,Gt,.el (aI .i64 (a0.Events.length:Int)),Gt,Gt,Gt,Gt,.el (aI .i64 (a0.Marks.length:Int)),Gt] (o:=by repeat' first|apply Ya|exact pcM|exact fq (Xb h25 h26)|exact Xu) (k:=wkT [] (X2.glue J))
   clear h;revert h20;refine brI (λh18=>?_) λh18=>?_
   ·
    refine brI (λh19=>?_) λh19=>?_
    ·
     intro h;obtain rfl:=oj h;exact X6 [.el ((aI .i64 (a0.Late.length:Int))),Gt,Gt,Gt,.el ((aI .i64 (a0.Late.length:Int))),Gt,Gt,Gf,Gf,Gf,Gf,Gf] (o:=by repeat' first|apply Ya|exact pcM|exact fq (X7 h18 h19)|exact Xu) (k:=wkT [] (X2.glue J))
    intro h;obtain rfl:=oj h;exact X6 [.el ((aI .i64 (a0.Late.length:Int))),Gt,Gt,Gt,.el ((aI .i64 (a0.Late.length:Int))),Gt,Gt,Gt,Gt,Gt,.el ((aI .i64 (a0.Late.length:Int))),Gt,Gt] (o:=by repeat' first|apply Ya|exact pcM|exact fq (X7 h18 h19)|exact Xu) (k:=wkT [] (X2.glue J))
   intro h;obtain rfl:=oj h;exact X6 [.el ((aI .i64 (a0.Late.length:Int))),Gf,Gf,Gf,Gf,Gf,Gt,Gt,Gt,.el ((aI .i64 (a0.Late.length:Int))),Gt,Gt] (o:=by repeat' first|apply Ya|exact pcM|exact fq (Xb h18 rfl)|exact Xu) (k:=wkT [] (X2.glue J))
  clear h;revert h13;refine brI (λh11=>?_) λh11=>?_
  ·
   refine brI (λh12=>?_) λh12=>?_
   ·
    intro h;obtain rfl:=oj h;exact X6 [.el ((aI .i64 (a0.Rows.length:Int))),Gt,Gt,Gt,.el ((aI .i64 (a0.Rows.length:Int))),Gt,Gt,Gf,Gf,Gf,Gf,Gf] (o:=by repeat' first|apply Ya|exact pcM|exact fq (X7 h11 h12)|exact Xu) (k:=wkT [] (X2.glue J))
   intro h;obtain rfl:=oj h;exact X6 [.el ((aI .i64 (a0.Rows.length:Int))),Gt,Gt,Gt,.el ((aI .i64 (a0.Rows.length:Int))),Gt,Gt,Gt,Gt,Gt,.el ((aI .i64 (a0.Rows.length:Int))),Gt,Gt] (o:=by repeat' first|apply Ya|exact pcM|exact fq (X7 h11 h12)|exact Xu) (k:=wkT [] (X2.glue J))
  intro h;obtain rfl:=oj h;exact X6 [.el ((aI .i64 (a0.Rows.length:Int))),Gf,Gf,Gf,Gf,Gf,Gt,Gt,Gt,.el ((aI .i64 (a0.Rows.length:Int))),Gt,Gt] (o:=by repeat' first|apply Ya|exact pcM|exact fq (Xb h11 rfl)|exact Xu) (k:=wkT [] (X2.glue J))
 clear h;revert h6;refine brI (λh4=>?_) λh4=>?_
 ·
  refine brI (λh5=>?_) λh5=>?_
  ·
   intro h;obtain rfl:=oj h;exact X6 [.el ((aI .i64 (a0.Pending.length:Int))),Gt,Gt,Gt,.el ((aI .i64 (a0.Pending.length:Int))),Gt,Gt,Gf,Gf,Gf,Gf,Gf] (o:=by repeat' first|apply Ya|exact pcM|exact fq (X7 h4 h5)|exact Xu) (k:=wkT [] (X2.glue J))
  intro h;obtain rfl:=oj h;exact X6 [.el ((aI .i64 (a0.Pending.length:Int))),Gt,Gt,Gt,.el ((aI .i64 (a0.Pending.length:Int))),Gt,Gt,Gt,Gt,Gt,.el ((aI .i64 (a0.Pending.length:Int))),Gt,Gt] (o:=by repeat' first|apply Ya|exact pcM|exact fq (X7 h4 h5)|exact Xu) (k:=wkT [] (X2.glue J))
 intro h;obtain rfl:=oj h;exact X6 [.el ((aI .i64 (a0.Pending.length:Int))),Gf,Gf,Gf,Gf,Gf,Gt,Gt,Gt,.el ((aI .i64 (a0.Pending.length:Int))),Gt,Gt] (o:=by repeat' first|apply Ya|exact pcM|exact fq (Xb h4 rfl)|exact Xu) (k:=wkT [] (X2.glue J))⟩
def Xcr:AV->AV
 |.list true es=>.list false es
 |a=>a
def Xgq:AV->AV
 |.agg cs=>.agg (cs.map Xcr)
 |a=>Xcr a
theorem Xl0 (e:AV):(Xgq e).cells=e.cells.map Xcr:=by
 cases e<;>try rfl
 rename_i own es;cases own<;>rfl
theorem Xnc {c:Ctx} {d:Bool} {a:AV} {v:Value} (h:X13 c d a v):X13 c d (Xcr a) v:=by
 unfold Xcr;split
 ·cases h with
  |listNil=>exact .listNil
  |list vf hne hS hn hcap hsz hc h1 hr=>exact .list vf hne (.inr (hS.resolve_left λh=>by cases h.1)) hn hcap hsz hc h1 hr
 exact h
theorem Xpk {M:Nat->Prop} {a:AV} (h:a.Ok M):(Xcr a).Ok M:=by
 unfold Xcr;split
 ·exact .list
 exact h
theorem Xx1 {c:Ctx} {p:Pl} {y:Obj} (h:Xqu c p y):Xqu c p { y with es:=y.es.map Xgq }:=by
 obtain⟨⟨cur,h1,h2,h3⟩,h4,h5,h6⟩:=h;refine⟨⟨cur,h1,h2,λi e he=>?_⟩,by simpa using h4,h5,h6⟩;simp only[List.getElem?_map,Option.map_eq_some_iff] at he;obtain⟨e0,he0,rfl⟩:=he;obtain⟨g1,g2⟩:=h3 i e0 he0;rw[Xl0];refine⟨by simpa using g1,λk a ha=>?_⟩;simp only[List.getElem?_map,Option.map_eq_some_iff] at ha;obtain⟨a0,ha0,rfl⟩:=ha;obtain⟨v,v1,v2,v3⟩:=g2 k a0 ha0;exact⟨v,v1,Xnc v2,v3⟩
theorem X2.unown {P:Program} {nt n0 n:Nat} {Q:X03->St->Mu->Prop} {cf:Cf} {K:List Kn} {μ:Mu} {L:List (Nat×AV)} {G:List (Nat×Obj)} {y:Obj} (q:Nat) (es':List AV) (hy:hp G q=some y) (he:y.es.map Xgq=es')
  (h:X2 P nt n0 Q cf K ⟨fr L,hp ((q,{ y with es:=es' })::G),n⟩ μ):X2 P nt n0 Q cf K ⟨fr L,hp G,n⟩ μ:=by
 subst he;have hd:∀ o x',hp ((q,{ y with es:=y.es.map Xgq })::G) o=some x'->∃ x,hp G o=some x/\x'.esz=x.esz/\x'.solo=x.solo/\x'.spent=x.spent/\x'.es.length=x.es.length/\(x'=x\/(o=q/\x=y/\x'={ y with es:=y.es.map Xgq })):=by
  intro o x' hx;by_cases ho:o=q
  ·subst ho;rw[show hp ((o,{ y with es:=y.es.map Xgq })::G) o=some { y with es:=y.es.map Xgq } by simp[hp,Xgk hy]] at hx;cases hx
   exact⟨y,hy,rfl,rfl,rfl,by simp,.inr ⟨rfl,rfl,rfl⟩⟩
  ·have:hp ((q,{ y with es:=y.es.map Xgq })::G) o=hp G o:=by
    have hb:Nat.beq o q=false:=by rw[<-Bool.not_eq_true,Nat.beq_eq];exact ho
    simp[hp,hb]
   rw[this] at hx;exact⟨x',hx,rfl,rfl,rfl,rfl,.inl rfl⟩
 refine X2.sub (s':=⟨fr L,hp ((q,{ y with es:=y.es.map Xgq })::G),n⟩) (λc0 H0 c act μ g hm=>⟨?_,?_⟩) h
 ·refine⟨⟨λo x' hx=>?_,λo o' x1 x2 h1 h2 hne hb=>?_,λo x' hx=>?_,g.inv.lt,g.inv.base,g.inv.own,λo x' hx=>?_⟩,λo x' hx=>?_,g.frame,g.ok,g.size,?_,g.le0⟩
  ·obtain⟨x,hx0,_,_,_,_,hc⟩:=hd o x' hx;obtain⟨i1,i2,i3⟩:=g.inv.obj o x hx0;rcases hc with rfl|⟨rfl,rfl,rfl⟩
   ·exact⟨i1,i2,i3⟩
   refine⟨i1,Xx1 i2,λe he a ha=>?_⟩;obtain⟨e0,he0,rfl⟩:=List.mem_map.1 he;rw[Xl0] at ha;obtain⟨a0,ha0,rfl⟩:=List.mem_map.1 ha;exact Xpk (i3 e0 he0 a0 ha0)
  ·obtain⟨y1,hy1,e1,s1,p1,l1,_⟩:=hd o x1 h1;obtain⟨y2,hy2,e2,s2,p2,l2,_⟩:=hd o' x2 h2;have:=g.inv.sep o o' y1 y2 hy1 hy2 hne hb;rw[s1,p1,p2,l1,l2,e1,e2];exact this
  ·obtain⟨x,hx0,_⟩:=hd o x' hx;exact g.inv.stab o x hx0
  ·obtain⟨x,hx0,_⟩:=hd o x' hx;exact g.inv.low o x hx0
  ·obtain⟨x,hx0,_,s1,p1,_⟩:=hd o x' hx;rw[s1,p1];exact g.solo o x hx0
  ·have r:=g.reach;exact⟨r.rho,r.os,r.tape,r.output,r.size,r.block,r.stable,r.sa,r.so1,r.so2,r.B,λo x' hx=>by obtain⟨x,hx0,_⟩:=hd o x' hx;exact r.own o x hx0⟩
 ·exact⟨hm.is,λp hp=>by
   obtain⟨a1,a2,a3,a4⟩:=hm.away p hp;exact⟨a1,a2,λo x' hx=>by obtain⟨x,hx0,_⟩:=hd o x' hx;exact a3 o x hx0,a4⟩,hm.nodup,hm.ds⟩
theorem X2.unownF {P:Program} {nt n0 n:Nat} {Q:X03->St->Mu->Prop} {cf:Cf} {K:List Kn} {μ:Mu} {L:List (Nat×AV)} {H:X0p} (t:Nat) (a':AV) (he:Xcr (fr L t)=a')
  (h:X2 P nt n0 Q cf K ⟨fr ((t,a')::L),H,n⟩ μ):X2 P nt n0 Q cf K ⟨fr L,H,n⟩ μ:=by
 subst he;refine X2.sub (s':=⟨fr ((t,Xcr (fr L t))::L),H,n⟩) (λc0 H0 c act μ g hm=>⟨?_,hm⟩) h;have hfr:∀ q,fr ((t,Xcr (fr L t))::L) q=if q=t then Xcr (fr L t) else fr L q:=by
  intro q;simp only[fr];by_cases hq:q=t
  ·subst hq;simp
  ·have:Nat.beq q t=false:=by rw[<-Bool.not_eq_true,Nat.beq_eq];exact hq
   rw[this,if_neg hq];rfl
 refine⟨g.inv,g.solo,λq=>?_,λq=>?_,g.size,g.reach,g.le0⟩
 ·show X13 c false (fr ((t,Xcr (fr L t))::L) q) _;rw[hfr];by_cases hq:q=t
  ·subst hq;rw[if_pos rfl];exact Xnc (g.frame q)
  ·rw[if_neg hq];exact g.frame q
 ·show(fr ((t,Xcr (fr L t))::L) q).Ok _;rw[hfr];by_cases hq:q=t
  ·subst hq;rw[if_pos rfl];exact Xpk (g.ok q)
  rw[if_neg hq];exact g.ok q
instance X02s:PCs Tryz.prog 30 (∀ (a0:Xo) (r:Xo),Xaf a0=some r->X0b Tryz.prog 30 [(Xa false a0)] (Xa false r)):=⟨λa0 r h=>by
 refine X0b.sym X3 fn30 (nt:=34) rfl rfl ?_ okM;unfold Xaf at h;revert h;refine bI λ_ h8=>rnI [.stop 1] ?_;intro h;refine X2.join (s':=⟨fr [(1,(AV.ptr 0 0 0)),(2,(AV.ptr 1 0 0))],hp ([(0,Ob [(Xa false a0)] 9),(1,Ob [(Xa true (Xo.mk (GOp.mk 0 0) 0 ([]:List X09) ([]:List Int) ([]:List X1) ([]:List X01) ([]:List X1b) ([]:List Xg)))] 9)]),2⟩) ?_ (λJ=>X2.cut ?_)
 ·
  revert h;refine bI λ_ h16=>rnI [.stop 2] ?_;intro h;refine X2.join (s':=⟨fr [(1,(AV.ptr 0 0 0)),(2,(AV.ptr 1 0 0))],hp ([(0,Ob [(Xa false a0)] 9),(1,Ob [(Xa true (Xo.mk (GOp.mk 0 0) 0 ([]:List X09) ([]:List Int) ([]:List X1) ([]:List X01) ([]:List X1b) ([]:List Xg)))] 9)]),2⟩) ?_ (λJ=>X2.cut ?_)
  ·
   revert h;refine bI λ_ h24=>rnI [.stop 3] ?_;intro h;refine X2.join (s':=⟨fr [(1,(AV.ptr 0 0 0)),(2,(AV.ptr 1 0 0))],hp ([(0,Ob [(Xa false a0)] 9),(1,Ob [(Xa true (Xo.mk (GOp.mk 0 0) 0 ([]:List X09) ([]:List Int) ([]:List X1) ([]:List X01) ([]:List X1b) ([]:List Xg)))] 9)]),2⟩) ?_ (λJ=>X2.cut ?_)
   ·
    revert h;refine bI λ_ h32=>rnI [.stop 4] ?_;intro h;refine X2.join (s':=⟨fr [(1,(AV.ptr 0 0 0)),(2,(AV.ptr 1 0 0))],hp ([(0,Ob [(Xa false a0)] 9),(1,Ob [(Xa true (Xo.mk (GOp.mk 0 0) 0 ([]:List X09) ([]:List Int) ([]:List X1) ([]:List X01) ([]:List X1b) ([]:List Xg)))] 9)]),2⟩) ?_ (λJ=>X2.cut ?_)
    ·
     revert h;refine bI λ_ h40=>rnI [.stop 5] ?_;intro h;refine X2.join (s':=⟨fr [(1,(AV.ptr 0 0 0)),(2,(AV.ptr 1 0 0))],hp ([(0,Ob [(Xa false a0)] 9),(1,Ob [(Xa true (Xo.mk (GOp.mk 0 0) 0 ([]:List X09) ([]:List Int) ([]:List X1) ([]:List X01) ([]:List X1b) ([]:List Xg)))] 9)]),2⟩) ?_ (λJ=>X2.cut ?_)
     ·
      revert h;refine bI λ_ h48=>rnI [.stop 6] ?_;intro h;refine X2.join (s':=⟨fr [(1,(AV.ptr 0 0 0)),(2,(AV.ptr 1 0 0))],hp ([(0,Ob [(Xa false a0)] 9),(1,Ob [(Xa true (Xo.mk (GOp.mk 0 0) 0 ([]:List X09) ([]:List Int) ([]:List X1) ([]:List X01) ([]:List X1b) ([]:List Xg)))] 9)]),2⟩) ?_ (λJ=>X2.cut ?_)
      ·
       revert h;exact λe=>oj e▸X6 [] (k:=fi)
      clear h;revert h48;refine brI (λq=>?_) λq=>?_
      ·
       intro h;have h45:a0.Late=[]:=List.isEmpty_iff.1 q;refine X0j [.ne false] ?_;refine X2.denilO 0 [false,false,false,false,false,false,false,false,true] [(aI .u8 a0.Op.Kind),(aI .i64 a0.Op.N),(aI .i64 a0.Turn),(Lf (a0.Pending.map Xc)),(Lf (List.map (aI .i64) a0.Marks)),(Lf (a0.Store.map X0)),(Lf (a0.Events.map X8)),(Lf (a0.Rows.map Xf)),(Lt (a0.Late.map X5))] rfl rfl (by first|rfl|(simp[h45];done)|(simp[h45];rfl)) ?_;refine X2.unown 0 [AV.agg [(aI .u8 a0.Op.Kind),(aI .i64 a0.Op.N),(aI .i64 a0.Turn),(Lf (a0.Pending.map Xc)),(Lf (List.map (aI .i64) a0.Marks)),(Lf (a0.Store.map X0)),(Lf (a0.Events.map X8)),(Lf (a0.Rows.map Xf)),(Lf (a0.Late.map X5))]] rfl rfl ?_;exact wkT [] (X2.glue J)
      intro h;have h45:¬ (a0.Late=[]):=(λe=>by rw[e] at q;cases q);revert h;refine bI λu46 h47=>rnI [.via (Lt (a0.Late.map X5))] (o:=by repeat' first|apply Ya|exact pcM|(refine X0r h47 rfl ?_;first|(simp<;>omega)|(simp[h45]<;>omega))|(refine X08 h47 (by decide) ?_;first|(simp<;>omega)|(simp[h45]<;>omega))|exact Xu) ?_;intro h;refine X2.freeze 3 (a0.Late.map X5) [1,2] [(0,Ob [AV.agg [(aI .u8 a0.Op.Kind),(aI .i64 a0.Op.N),(aI .i64 a0.Turn),(Lf (a0.Pending.map Xc)),(Lf (List.map (aI .i64) a0.Marks)),(Lf (a0.Store.map X0)),(Lf (a0.Events.map X8)),(Lf (a0.Rows.map Xf)),(Lt (a0.Late.map X5))]] 9),(1,Ob [AV.agg [(aI .u8 0),(aI .i64 0),(aI .i64 0),(Lt (List.map Xc ([]:List X09))),(Lt (List.map (aI .i64) ([]:List Int))),(Lt (List.map X0 ([]:List X1))),(Lt (List.map X8 ([]:List X01))),(Lt (List.map Xf ([]:List X1b))),(Lt (List.map X5 ([]:List Xg)))]] 9)] rfl (by first|rfl|(simp[h45];done)|(simp[h45];rfl)) (X16 X9k a0.Late) ?_ (by repeat' first|exact Xbw|refine Ya ?_ ?_) (by repeat' first|exact⟨rfl,_,rfl,rfl,rfl,rfl,Xlv 8 (by simp) rfl (by first|rfl|(simp;done)|(simp;rfl))⟩|exact Xbw|refine Ya ?_ ?_);refine X2.unown 0 [AV.agg [(aI .u8 a0.Op.Kind),(aI .i64 a0.Op.N),(aI .i64 a0.Turn),(Lf (a0.Pending.map Xc)),(Lf (List.map (aI .i64) a0.Marks)),(Lf (a0.Store.map X0)),(Lf (a0.Events.map X8)),(Lf (a0.Rows.map Xf)),(Lf (a0.Late.map X5))]] rfl rfl ?_;exact wkT [] (X2.glue J)
     clear h;revert h40;refine brI (λq=>?_) λq=>?_
     ·
      intro h;have h37:a0.Rows=[]:=List.isEmpty_iff.1 q;refine X0j [.ne false] ?_;refine X2.denilO 0 [false,false,false,false,false,false,false,true] [(aI .u8 a0.Op.Kind),(aI .i64 a0.Op.N),(aI .i64 a0.Turn),(Lf (a0.Pending.map Xc)),(Lf (List.map (aI .i64) a0.Marks)),(Lf (a0.Store.map X0)),(Lf (a0.Events.map X8)),(Lt (a0.Rows.map Xf)),(Lf (a0.Late.map X5))] rfl rfl (by first|rfl|(simp[h37];done)|(simp[h37];rfl)) ?_;refine X2.unown 0 [AV.agg [(aI .u8 a0.Op.Kind),(aI .i64 a0.Op.N),(aI .i64 a0.Turn),(Lf (a0.Pending.map Xc)),(Lf (List.map (aI .i64) a0.Marks)),(Lf (a0.Store.map X0)),(Lf (a0.Events.map X8)),(Lf (a0.Rows.map Xf)),(Lf (a0.Late.map X5))]] rfl rfl ?_;exact wkT [] (X2.glue J)
     intro h;have h37:¬ (a0.Rows=[]):=(λe=>by rw[e] at q;cases q);revert h;refine bI λu38 h39=>rnI [.via (Lt (a0.Rows.map Xf))] (o:=by repeat' first|apply Ya|exact pcM|(refine X0r h39 rfl ?_;first|(simp<;>omega)|(simp[h37]<;>omega))|(refine X08 h39 (by decide) ?_;first|(simp<;>omega)|(simp[h37]<;>omega))|exact Xu) ?_;intro h;refine X2.freeze 3 (a0.Rows.map Xf) [1,2] [(0,Ob [AV.agg [(aI .u8 a0.Op.Kind),(aI .i64 a0.Op.N),(aI .i64 a0.Turn),(Lf (a0.Pending.map Xc)),(Lf (List.map (aI .i64) a0.Marks)),(Lf (a0.Store.map X0)),(Lf (a0.Events.map X8)),(Lt (a0.Rows.map Xf)),(Lf (a0.Late.map X5))]] 9),(1,Ob [AV.agg [(aI .u8 0),(aI .i64 0),(aI .i64 0),(Lt (List.map Xc ([]:List X09))),(Lt (List.map (aI .i64) ([]:List Int))),(Lt (List.map X0 ([]:List X1))),(Lt (List.map X8 ([]:List X01))),(Lt (List.map Xf ([]:List X1b))),(Lt (List.map X5 ([]:List Xg)))]] 9)] rfl (by first|rfl|(simp[h37];done)|(simp[h37];rfl)) (X16 Xf2 a0.Rows) ?_ (by repeat' first|exact Xbw|refine Ya ?_ ?_) (by repeat' first|exact⟨rfl,_,rfl,rfl,rfl,rfl,Xlv 7 (by simp) rfl (by first|rfl|(simp;done)|(simp;rfl))⟩|exact Xbw|refine Ya ?_ ?_);refine X2.unown 0 [AV.agg [(aI .u8 a0.Op.Kind),(aI .i64 a0.Op.N),(aI .i64 a0.Turn),(Lf (a0.Pending.map Xc)),(Lf (List.map (aI .i64) a0.Marks)),(Lf (a0.Store.map X0)),(Lf (a0.Events.map X8)),(Lf (a0.Rows.map Xf)),(Lf (a0.Late.map X5))]] rfl rfl ?_;exact wkT [] (X2.glue J)
    clear h;revert h32;refine brI (λq=>?_) λq=>?_
    ·
     intro h;have h29:a0.Events=[]:=List.isEmpty_iff.1 q;refine X0j [.ne false] ?_;refine X2.denilO 0 [false,false,false,false,false,false,true] [(aI .u8 a0.Op.Kind),(aI .i64 a0.Op.N),(aI .i64 a0.Turn),(Lf (a0.Pending.map Xc)),(Lf (List.map (aI .i64) a0.Marks)),(Lf (a0.Store.map X0)),(Lt (a0.Events.map X8)),(Lf (a0.Rows.map Xf)),(Lf (a0.Late.map X5))] rfl rfl (by first|rfl|(simp[h29];done)|(simp[h29];rfl)) ?_;refine X2.unown 0 [AV.agg [(aI .u8 a0.Op.Kind),(aI .i64 a0.Op.N),(aI .i64 a0.Turn),(Lf (a0.Pending.map Xc)),(Lf (List.map (aI .i64) a0.Marks)),(Lf (a0.Store.map X0)),(Lf (a0.Events.map X8)),(Lf (a0.Rows.map Xf)),(Lf (a0.Late.map X5))]] rfl rfl ?_;exact wkT [] (X2.glue J)
    intro h;have h29:¬ (a0.Events=[]):=(λe=>by rw[e] at q;cases q);revert h;refine bI λu30 h31=>rnI [.via (Lt (a0.Events.map X8))] (o:=by repeat' first|apply Ya|exact pcM|(refine X0r h31 rfl ?_;first|(simp<;>omega)|(simp[h29]<;>omega))|(refine X08 h31 (by decide) ?_;first|(simp<;>omega)|(simp[h29]<;>omega))|exact Xu) ?_;intro h;refine X2.freeze 3 (a0.Events.map X8) [1,2] [(0,Ob [AV.agg [(aI .u8 a0.Op.Kind),(aI .i64 a0.Op.N),(aI .i64 a0.Turn),(Lf (a0.Pending.map Xc)),(Lf (List.map (aI .i64) a0.Marks)),(Lf (a0.Store.map X0)),(Lt (a0.Events.map X8)),(Lf (a0.Rows.map Xf)),(Lf (a0.Late.map X5))]] 9),(1,Ob [AV.agg [(aI .u8 0),(aI .i64 0),(aI .i64 0),(Lt (List.map Xc ([]:List X09))),(Lt (List.map (aI .i64) ([]:List Int))),(Lt (List.map X0 ([]:List X1))),(Lt (List.map X8 ([]:List X01))),(Lt (List.map Xf ([]:List X1b))),(Lt (List.map X5 ([]:List Xg)))]] 9)] rfl (by first|rfl|(simp[h29];done)|(simp[h29];rfl)) (X16 Xbo a0.Events) ?_ (by repeat' first|exact Xbw|refine Ya ?_ ?_) (by repeat' first|exact⟨rfl,_,rfl,rfl,rfl,rfl,Xlv 6 (by simp) rfl (by first|rfl|(simp;done)|(simp;rfl))⟩|exact Xbw|refine Ya ?_ ?_);refine X2.unown 0 [AV.agg [(aI .u8 a0.Op.Kind),(aI .i64 a0.Op.N),(aI .i64 a0.Turn),(Lf (a0.Pending.map Xc)),(Lf (List.map (aI .i64) a0.Marks)),(Lf (a0.Store.map X0)),(Lf (a0.Events.map X8)),(Lf (a0.Rows.map Xf)),(Lf (a0.Late.map X5))]] rfl rfl ?_;exact wkT [] (X2.glue J)
   clear h;revert h24;refine brI (λq=>?_) λq=>?_
   ·
    intro h;have h21:a0.Store=[]:=List.isEmpty_iff.1 q;refine X0j [.ne false] ?_;refine X2.denilO 0 [false,false,false,false,false,true] [(aI .u8 a0.Op.Kind),(aI .i64 a0.Op.N),(aI .i64 a0.Turn),(Lf (a0.Pending.map Xc)),(Lf (List.map (aI .i64) a0.Marks)),(Lt (a0.Store.map X0)),(Lf (a0.Events.map X8)),(Lf (a0.Rows.map Xf)),(Lf (a0.Late.map X5))] rfl rfl (by first|rfl|(simp[h21];done)|(simp[h21];rfl)) ?_;refine X2.unown 0 [AV.agg [(aI .u8 a0.Op.Kind),(aI .i64 a0.Op.N),(aI .i64 a0.Turn),(Lf (a0.Pending.map Xc)),(Lf (List.map (aI .i64) a0.Marks)),(Lf (a0.Store.map X0)),(Lf (a0.Events.map X8)),(Lf (a0.Rows.map Xf)),(Lf (a0.Late.map X5))]] rfl rfl ?_;exact wkT [] (X2.glue J)
   intro h;have h21:¬ (a0.Store=[]):=(λe=>by rw[e] at q;cases q);revert h;refine bI λu22 h23=>rnI [.via (Lt (a0.Store.map X0))] (o:=by repeat' first|apply Ya|exact pcM|(refine X0r h23 rfl ?_;first|(simp<;>omega)|(simp[h21]<;>omega))|(refine X08 h23 (by decide) ?_;first|(simp<;>omega)|(simp[h21]<;>omega))|exact Xu) ?_;intro h;refine X2.freeze 3 (a0.Store.map X0) [1,2] [(0,Ob [AV.agg [(aI .u8 a0.Op.Kind),(aI .i64 a0.Op.N),(aI .i64 a0.Turn),(Lf (a0.Pending.map Xc)),(Lf (List.map (aI .i64) a0.Marks)),(Lt (a0.Store.map X0)),(Lf (a0.Events.map X8)),(Lf (a0.Rows.map Xf)),(Lf (a0.Late.map X5))]] 9),(1,Ob [AV.agg [(aI .u8 0),(aI .i64 0),(aI .i64 0),(Lt (List.map Xc ([]:List X09))),(Lt (List.map (aI .i64) ([]:List Int))),(Lt (List.map X0 ([]:List X1))),(Lt (List.map X8 ([]:List X01))),(Lt (List.map Xf ([]:List X1b))),(Lt (List.map X5 ([]:List Xg)))]] 9)] rfl (by first|rfl|(simp[h21];done)|(simp[h21];rfl)) (X16 X4c a0.Store) ?_ (by repeat' first|exact Xbw|refine Ya ?_ ?_) (by repeat' first|exact⟨rfl,_,rfl,rfl,rfl,rfl,Xlv 5 (by simp) rfl (by first|rfl|(simp;done)|(simp;rfl))⟩|exact Xbw|refine Ya ?_ ?_);refine X2.unown 0 [AV.agg [(aI .u8 a0.Op.Kind),(aI .i64 a0.Op.N),(aI .i64 a0.Turn),(Lf (a0.Pending.map Xc)),(Lf (List.map (aI .i64) a0.Marks)),(Lf (a0.Store.map X0)),(Lf (a0.Events.map X8)),(Lf (a0.Rows.map Xf)),(Lf (a0.Late.map X5))]] rfl rfl ?_;exact wkT [] (X2.glue J)
  clear h;revert h16;refine brI (λq=>?_) λq=>?_
  ·
   intro h;have h13:a0.Marks=[]:=List.isEmpty_iff.1 q;refine X0j [.ne false] ?_;refine X2.denilO 0 [false,false,false,false,true] [(aI .u8 a0.Op.Kind),(aI .i64 a0.Op.N),(aI .i64 a0.Turn),(Lf (a0.Pending.map Xc)),(Lt (List.map (aI .i64) a0.Marks)),(Lf (a0.Store.map X0)),(Lf (a0.Events.map X8)),(Lf (a0.Rows.map Xf)),(Lf (a0.Late.map X5))] rfl rfl (by first|rfl|(simp[h13];done)|(simp[h13];rfl)) ?_;refine X2.unown 0 [AV.agg [(aI .u8 a0.Op.Kind),(aI .i64 a0.Op.N),(aI .i64 a0.Turn),(Lf (a0.Pending.map Xc)),(Lf (List.map (aI .i64) a0.Marks)),(Lf (a0.Store.map X0)),(Lf (a0.Events.map X8)),(Lf (a0.Rows.map Xf)),(Lf (a0.Late.map X5))]] rfl rfl ?_;exact wkT [] (X2.glue J)
  intro h;have h13:¬ (a0.Marks=[]):=(λe=>by rw[e] at q;cases q);revert h;refine bI λu14 h15=>rnI [.via (Lt (List.map (aI .i64) a0.Marks))] (o:=by repeat' first|apply Ya|exact pcM|(refine X0r h15 rfl ?_;first|(simp<;>omega)|(simp[h13]<;>omega))|(refine X08 h15 (by decide) ?_;first|(simp<;>omega)|(simp[h13]<;>omega))|exact Xu) ?_;intro h;refine X2.freeze 3 (List.map (aI .i64) a0.Marks) [1,2] [(0,Ob [AV.agg [(aI .u8 a0.Op.Kind),(aI .i64 a0.Op.N),(aI .i64 a0.Turn),(Lf (a0.Pending.map Xc)),(Lt (List.map (aI .i64) a0.Marks)),(Lf (a0.Store.map X0)),(Lf (a0.Events.map X8)),(Lf (a0.Rows.map Xf)),(Lf (a0.Late.map X5))]] 9),(1,Ob [AV.agg [(aI .u8 0),(aI .i64 0),(aI .i64 0),(Lt (List.map Xc ([]:List X09))),(Lt (List.map (aI .i64) ([]:List Int))),(Lt (List.map X0 ([]:List X1))),(Lt (List.map X8 ([]:List X01))),(Lt (List.map Xf ([]:List X1b))),(Lt (List.map X5 ([]:List Xg)))]] 9)] rfl (by first|rfl|(simp[h13];done)|(simp[h13];rfl)) (X16 (λ_=>Xf3) a0.Marks) ?_ (by repeat' first|exact Xbw|refine Ya ?_ ?_) (by repeat' first|exact⟨rfl,_,rfl,rfl,rfl,rfl,Xlv 4 (by simp) rfl (by first|rfl|(simp;done)|(simp;rfl))⟩|exact Xbw|refine Ya ?_ ?_);refine X2.unown 0 [AV.agg [(aI .u8 a0.Op.Kind),(aI .i64 a0.Op.N),(aI .i64 a0.Turn),(Lf (a0.Pending.map Xc)),(Lf (List.map (aI .i64) a0.Marks)),(Lf (a0.Store.map X0)),(Lf (a0.Events.map X8)),(Lf (a0.Rows.map Xf)),(Lf (a0.Late.map X5))]] rfl rfl ?_;exact wkT [] (X2.glue J)
 clear h;revert h8;refine brI (λq=>?_) λq=>?_
 ·
  intro h;have h5:a0.Pending=[]:=List.isEmpty_iff.1 q;refine X0j [.ne false] ?_;refine X2.denilO 0 [false,false,false,true] [(aI .u8 a0.Op.Kind),(aI .i64 a0.Op.N),(aI .i64 a0.Turn),(Lt (a0.Pending.map Xc)),(Lf (List.map (aI .i64) a0.Marks)),(Lf (a0.Store.map X0)),(Lf (a0.Events.map X8)),(Lf (a0.Rows.map Xf)),(Lf (a0.Late.map X5))] rfl rfl (by first|rfl|(simp[h5];done)|(simp[h5];rfl)) ?_;refine X2.denilO 1 [false,false,false,true,true,true,true,true,true] [(aI .u8 0),(aI .i64 0),(aI .i64 0),(Lt (List.map Xc ([]:List X09))),(Lt (List.map (aI .i64) ([]:List Int))),(Lt (List.map X0 ([]:List X1))),(Lt (List.map X8 ([]:List X01))),(Lt (List.map Xf ([]:List X1b))),(Lt (List.map X5 ([]:List Xg)))] rfl rfl (by first|rfl|(simp[h5];done)|(simp[h5];rfl)) ?_;refine X2.unown 0 [AV.agg [(aI .u8 a0.Op.Kind),(aI .i64 a0.Op.N),(aI .i64 a0.Turn),(Lf (a0.Pending.map Xc)),(Lf (List.map (aI .i64) a0.Marks)),(Lf (a0.Store.map X0)),(Lf (a0.Events.map X8)),(Lf (a0.Rows.map Xf)),(Lf (a0.Late.map X5))]] rfl rfl ?_;exact wkT [] (X2.glue J)
 intro h;have h5:¬ (a0.Pending=[]):=(λe=>by rw[e] at q;cases q);revert h;refine bI λu6 h7=>rnI [.via (Lt (a0.Pending.map Xc))] (o:=by repeat' first|apply Ya|exact pcM|(refine X0r h7 rfl ?_;first|(simp<;>omega)|(simp[h5]<;>omega))|(refine X08 h7 (by decide) ?_;first|(simp<;>omega)|(simp[h5]<;>omega))|exact Xu) ?_;intro h;refine X2.freeze 3 (a0.Pending.map Xc) [1,2] [(0,Ob [AV.agg [(aI .u8 a0.Op.Kind),(aI .i64 a0.Op.N),(aI .i64 a0.Turn),(Lt (a0.Pending.map Xc)),(Lf (List.map (aI .i64) a0.Marks)),(Lf (a0.Store.map X0)),(Lf (a0.Events.map X8)),(Lf (a0.Rows.map Xf)),(Lf (a0.Late.map X5))]] 9),(1,Ob [AV.agg [(aI .u8 0),(aI .i64 0),(aI .i64 0),AV.nils,AV.nils,AV.nils,AV.nils,AV.nils,AV.nils]] 9)] rfl (by first|rfl|(simp[h5];done)|(simp[h5];rfl)) (X16 Xd6 a0.Pending) ?_ (by repeat' first|exact Xbw|refine Ya ?_ ?_) (by repeat' first|exact⟨rfl,_,rfl,rfl,rfl,rfl,Xlv 3 (by simp) rfl (by first|rfl|(simp;done)|(simp;rfl))⟩|exact Xbw|refine Ya ?_ ?_);refine X2.denilO 1 [false,false,false,true,true,true,true,true,true] [(aI .u8 0),(aI .i64 0),(aI .i64 0),(Lt (List.map Xc ([]:List X09))),(Lt (List.map (aI .i64) ([]:List Int))),(Lt (List.map X0 ([]:List X1))),(Lt (List.map X8 ([]:List X01))),(Lt (List.map Xf ([]:List X1b))),(Lt (List.map X5 ([]:List Xg)))] rfl rfl (by first|rfl|(simp[h5];done)|(simp[h5];rfl)) ?_;refine X2.unown 0 [AV.agg [(aI .u8 a0.Op.Kind),(aI .i64 a0.Op.N),(aI .i64 a0.Turn),(Lf (a0.Pending.map Xc)),(Lf (List.map (aI .i64) a0.Marks)),(Lf (a0.Store.map X0)),(Lf (a0.Events.map X8)),(Lf (a0.Rows.map Xf)),(Lf (a0.Late.map X5))]] rfl rfl ?_;exact wkT [] (X2.glue J)⟩
instance X01s:PCs Tryz.prog 210 (∀ (a0:Int) (r:Int×Int),Xbi a0=some r->X0b Tryz.prog 210 [(aI .u8 a0)] (AV.tup [(aI .i64 r.1),(aI .i64 r.2)])):=⟨λa0 r h=>by
 refine X0b.sym X3 X0bo (nt:=25) rfl rfl ?_ okM;unfold Xbi at h;revert h;exact brI (λh1=>λe=>oj e▸X6 [Bt] (k:=fi)) λh1=>brI (λh2=>λe=>oj e▸X6 [Bf,Bt] (k:=fi)) λh2=>brI (λh3=>λe=>oj e▸X6 [Bf,Bf,Bt] (k:=fi)) λh3=>λe=>oj e▸X6 [Bf,Bf,Bf] (k:=fi)⟩
end Go.Av.Tryz