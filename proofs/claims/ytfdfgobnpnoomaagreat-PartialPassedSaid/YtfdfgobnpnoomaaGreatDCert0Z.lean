/- Printed by decomp.py: that the program computes the functions. -/
import Derived.Test.YtfdfgobnpnoomaaGreatTabZ
import Derived.Test.YtfdfgobnpnoomaaGreatDeleteZ
import Derived.Test.YtfdfgobnpnoomaaGreatInsertZ
import Derived.Test.YtfdfgobnpnoomaaGreatSortZ
set_option linter.all false

namespace Go.Av.Tryz
open Go.Proofs Go.D
set_option maxRecDepth 10000
set_option maxHeartbeats 40000000
theorem tmD:Xf1 Tryz.prog X081.find/\Tryz.prog.follows .mixedOrders=true:=⟨Xa,by kernel_rfl⟩
instance tmI:TmD Tryz.prog X081.find:=⟨tmD⟩
theorem fn3:X1h Tryz.prog 3 Tryz.f3 (Xh Tryz.f3):=⟨Tryz.func3,by kernel_rfl,rfl⟩
theorem fn11:X1h Tryz.prog 11 Tryz.f11 (Xh Tryz.f11):=⟨Tryz.func11,by kernel_rfl,rfl⟩
theorem fn12:X1h Tryz.prog 12 Tryz.f12 (Xh Tryz.f12):=⟨Tryz.func12,by kernel_rfl,rfl⟩
theorem fn13:X1h Tryz.prog 13 Tryz.f13 (Xh Tryz.f13):=⟨Tryz.func13,by kernel_rfl,rfl⟩
theorem fn14:X1h Tryz.prog 14 Tryz.f14 (Xh Tryz.f14):=⟨Tryz.func14,by kernel_rfl,rfl⟩
theorem fn15:X1h Tryz.prog 15 Tryz.f15 (Xh Tryz.f15):=⟨Tryz.func15,by kernel_rfl,rfl⟩
theorem fn19:X1h Tryz.prog 19 Tryz.f19 (Xh Tryz.f19):=⟨Tryz.func19,by kernel_rfl,rfl⟩
theorem fn20:X1h Tryz.prog 20 Tryz.f20 (Xh Tryz.f20):=⟨Tryz.func20,by kernel_rfl,rfl⟩
theorem fn28:X1h Tryz.prog 28 Tryz.f28 (Xh Tryz.f28):=⟨Tryz.func28,by kernel_rfl,rfl⟩
theorem fn33:X1h Tryz.prog 33 Tryz.f33 (Xh Tryz.f33):=⟨Tryz.func33,by kernel_rfl,rfl⟩
theorem fn34:X1h Tryz.prog 34 Tryz.f34 (Xh Tryz.f34):=⟨Tryz.func34,by kernel_rfl,rfl⟩
theorem fn35:X1h Tryz.prog 35 Tryz.f35 (Xh Tryz.f35):=⟨Tryz.func35,by kernel_rfl,rfl⟩
theorem fn36:X1h Tryz.prog 36 Tryz.f36 (Xh Tryz.f36):=⟨Tryz.func36,by kernel_rfl,rfl⟩
theorem fn37:X1h Tryz.prog 37 Tryz.f37 (Xh Tryz.f37):=⟨Tryz.func37,by kernel_rfl,rfl⟩
theorem fn38:X1h Tryz.prog 38 Tryz.f38 (Xh Tryz.f38):=⟨Tryz.func38,by kernel_rfl,rfl⟩
theorem fn39:X1h Tryz.prog 39 Tryz.f39 (Xh Tryz.f39):=⟨Tryz.func39,by kernel_rfl,rfl⟩
theorem fn40:X1h Tryz.prog 40 Tryz.f40 (Xh Tryz.f40):=⟨Tryz.func40,by kernel_rfl,rfl⟩
theorem fn41:X1h Tryz.prog 41 Tryz.f41 (Xh Tryz.f41):=⟨Tryz.func41,by kernel_rfl,rfl⟩
theorem fn42:X1h Tryz.prog 42 Tryz.f42 (Xh Tryz.f42):=⟨Tryz.func42,by kernel_rfl,rfl⟩
theorem fn43:X1h Tryz.prog 43 Tryz.f43 (Xh Tryz.f43):=⟨Tryz.func43,by kernel_rfl,rfl⟩
theorem fn44:X1h Tryz.prog 44 Tryz.f44 (Xh Tryz.f44):=⟨Tryz.func44,by kernel_rfl,rfl⟩
theorem fn46:X1h Tryz.prog 46 Tryz.f46 (Xh Tryz.f46):=⟨Tryz.func46,by kernel_rfl,rfl⟩
theorem fn48:X1h Tryz.prog 48 Tryz.f48 (Xh Tryz.f48):=⟨Tryz.func48,by kernel_rfl,rfl⟩
theorem fn49:X1h Tryz.prog 49 Tryz.f49 (Xh Tryz.f49):=⟨Tryz.func49,by kernel_rfl,rfl⟩
theorem fn50:X1h Tryz.prog 50 Tryz.f50 (Xh Tryz.f50):=⟨Tryz.func50,by kernel_rfl,rfl⟩
theorem fn51:X1h Tryz.prog 51 Tryz.f51 (Xh Tryz.f51):=⟨Tryz.func51,by kernel_rfl,rfl⟩
theorem fn52:X1h Tryz.prog 52 Tryz.f52 (Xh Tryz.f52):=⟨Tryz.func52,by kernel_rfl,rfl⟩
theorem fn53:X1h Tryz.prog 53 Tryz.f53 (Xh Tryz.f53):=⟨Tryz.func53,by kernel_rfl,rfl⟩
theorem fn54:X1h Tryz.prog 54 Tryz.f54 (Xh Tryz.f54):=⟨Tryz.func54,by kernel_rfl,rfl⟩
theorem fn55:X1h Tryz.prog 55 Tryz.f55 (Xh Tryz.f55):=⟨Tryz.func55,by kernel_rfl,rfl⟩
theorem fn56:X1h Tryz.prog 56 Tryz.f56 (Xh Tryz.f56):=⟨Tryz.func56,by kernel_rfl,rfl⟩
theorem fn57:X1h Tryz.prog 57 Tryz.f57 (Xh Tryz.f57):=⟨Tryz.func57,by kernel_rfl,rfl⟩
theorem fn58:X1h Tryz.prog 58 Tryz.f58 (Xh Tryz.f58):=⟨Tryz.func58,by kernel_rfl,rfl⟩
theorem fn59:X1h Tryz.prog 59 Tryz.f59 (Xh Tryz.f59):=⟨Tryz.func59,by kernel_rfl,rfl⟩
theorem fn60:X1h Tryz.prog 60 Tryz.f60 (Xh Tryz.f60):=⟨Tryz.func60,by kernel_rfl,rfl⟩
theorem fn61:X1h Tryz.prog 61 Tryz.f61 (Xh Tryz.f61):=⟨Tryz.func61,by kernel_rfl,rfl⟩
theorem fn62:X1h Tryz.prog 62 Tryz.f62 (Xh Tryz.f62):=⟨Tryz.func62,by kernel_rfl,rfl⟩
theorem fn63:X1h Tryz.prog 63 Tryz.f63 (Xh Tryz.f63):=⟨Tryz.func63,by kernel_rfl,rfl⟩
theorem fn64:X1h Tryz.prog 64 Tryz.f64 (Xh Tryz.f64):=⟨Tryz.func64,by kernel_rfl,rfl⟩
theorem fn65:X1h Tryz.prog 65 Tryz.f65 (Xh Tryz.f65):=⟨Tryz.func65,by kernel_rfl,rfl⟩
theorem fn66:X1h Tryz.prog 66 Tryz.f66 (Xh Tryz.f66):=⟨Tryz.func66,by kernel_rfl,rfl⟩
theorem fn67:X1h Tryz.prog 67 Tryz.f67 (Xh Tryz.f67):=⟨Tryz.func67,by kernel_rfl,rfl⟩
theorem fn68:X1h Tryz.prog 68 Tryz.f68 (Xh Tryz.f68):=⟨Tryz.func68,by kernel_rfl,rfl⟩
theorem fn69:X1h Tryz.prog 69 Tryz.f69 (Xh Tryz.f69):=⟨Tryz.func69,by kernel_rfl,rfl⟩
theorem fn70:X1h Tryz.prog 70 Tryz.f70 (Xh Tryz.f70):=⟨Tryz.func70,by kernel_rfl,rfl⟩
theorem fn71:X1h Tryz.prog 71 Tryz.f71 (Xh Tryz.f71):=⟨Tryz.func71,by kernel_rfl,rfl⟩
theorem fn72:X1h Tryz.prog 72 Tryz.f72 (Xh Tryz.f72):=⟨Tryz.func72,by kernel_rfl,rfl⟩
theorem fn73:X1h Tryz.prog 73 Tryz.f73 (Xh Tryz.f73):=⟨Tryz.func73,by kernel_rfl,rfl⟩
theorem fn74:X1h Tryz.prog 74 Tryz.f74 (Xh Tryz.f74):=⟨Tryz.func74,by kernel_rfl,rfl⟩
theorem fn75:X1h Tryz.prog 75 Tryz.f75 (Xh Tryz.f75):=⟨Tryz.func75,by kernel_rfl,rfl⟩
theorem fn76:X1h Tryz.prog 76 Tryz.f76 (Xh Tryz.f76):=⟨Tryz.func76,by kernel_rfl,rfl⟩
theorem fn77:X1h Tryz.prog 77 Tryz.f77 (Xh Tryz.f77):=⟨Tryz.func77,by kernel_rfl,rfl⟩
theorem fn78:X1h Tryz.prog 78 Tryz.f78 (Xh Tryz.f78):=⟨Tryz.func78,by kernel_rfl,rfl⟩
theorem fn79:X1h Tryz.prog 79 Tryz.f79 (Xh Tryz.f79):=⟨Tryz.func79,by kernel_rfl,rfl⟩
theorem fn80:X1h Tryz.prog 80 Tryz.f80 (Xh Tryz.f80):=⟨Tryz.func80,by kernel_rfl,rfl⟩
theorem fn81:X1h Tryz.prog 81 Tryz.f81 (Xh Tryz.f81):=⟨Tryz.func81,by kernel_rfl,rfl⟩
theorem fn82:X1h Tryz.prog 82 Tryz.f82 (Xh Tryz.f82):=⟨Tryz.func82,by kernel_rfl,rfl⟩
theorem fn83:X1h Tryz.prog 83 Tryz.f83 (Xh Tryz.f83):=⟨Tryz.func83,by kernel_rfl,rfl⟩
theorem fn84:X1h Tryz.prog 84 Tryz.f84 (Xh Tryz.f84):=⟨Tryz.func84,by kernel_rfl,rfl⟩
theorem fn85:X1h Tryz.prog 85 Tryz.f85 (Xh Tryz.f85):=⟨Tryz.func85,by kernel_rfl,rfl⟩
theorem fn86:X1h Tryz.prog 86 Tryz.f86 (Xh Tryz.f86):=⟨Tryz.func86,by kernel_rfl,rfl⟩
theorem fn87:X1h Tryz.prog 87 Tryz.f87 (Xh Tryz.f87):=⟨Tryz.func87,by kernel_rfl,rfl⟩
theorem fn88:X1h Tryz.prog 88 Tryz.f88 (Xh Tryz.f88):=⟨Tryz.func88,by kernel_rfl,rfl⟩
theorem fn89:X1h Tryz.prog 89 Tryz.f89 (Xh Tryz.f89):=⟨Tryz.func89,by kernel_rfl,rfl⟩
theorem fn90:X1h Tryz.prog 90 Tryz.f90 (Xh Tryz.f90):=⟨Tryz.func90,by kernel_rfl,rfl⟩
theorem fn91:X1h Tryz.prog 91 Tryz.f91 (Xh Tryz.f91):=⟨Tryz.func91,by kernel_rfl,rfl⟩
theorem fn92:X1h Tryz.prog 92 Tryz.f92 (Xh Tryz.f92):=⟨Tryz.func92,by kernel_rfl,rfl⟩
theorem fn93:X1h Tryz.prog 93 Tryz.f93 (Xh Tryz.f93):=⟨Tryz.func93,by kernel_rfl,rfl⟩
theorem fn94:X1h Tryz.prog 94 Tryz.f94 (Xh Tryz.f94):=⟨Tryz.func94,by kernel_rfl,rfl⟩
theorem fn95:X1h Tryz.prog 95 Tryz.f95 (Xh Tryz.f95):=⟨Tryz.func95,by kernel_rfl,rfl⟩
theorem fn96:X1h Tryz.prog 96 Tryz.f96 (Xh Tryz.f96):=⟨Tryz.func96,by kernel_rfl,rfl⟩
theorem fn97:X1h Tryz.prog 97 Tryz.f97 (Xh Tryz.f97):=⟨Tryz.func97,by kernel_rfl,rfl⟩
theorem fn98:X1h Tryz.prog 98 Tryz.f98 (Xh Tryz.f98):=⟨Tryz.func98,by kernel_rfl,rfl⟩
theorem fn99:X1h Tryz.prog 99 Tryz.f99 (Xh Tryz.f99):=⟨Tryz.func99,by kernel_rfl,rfl⟩
theorem X0er:X1h Tryz.prog 100 Tryz.f100 (Xh Tryz.f100):=⟨Tryz.func100,by kernel_rfl,rfl⟩
theorem X0bu:X1h Tryz.prog 101 Tryz.f101 (Xh Tryz.f101):=⟨Tryz.func101,by kernel_rfl,rfl⟩
theorem X0eq:X1h Tryz.prog 102 Tryz.f102 (Xh Tryz.f102):=⟨Tryz.func102,by kernel_rfl,rfl⟩
theorem X0ep:X1h Tryz.prog 103 Tryz.f103 (Xh Tryz.f103):=⟨Tryz.func103,by kernel_rfl,rfl⟩
theorem X0eo:X1h Tryz.prog 104 Tryz.f104 (Xh Tryz.f104):=⟨Tryz.func104,by kernel_rfl,rfl⟩
theorem X06f:X1h Tryz.prog 105 Tryz.f105 (Xh Tryz.f105):=⟨Tryz.func105,by kernel_rfl,rfl⟩
theorem X0en:X1h Tryz.prog 106 Tryz.f106 (Xh Tryz.f106):=⟨Tryz.func106,by kernel_rfl,rfl⟩
theorem X0em:X1h Tryz.prog 107 Tryz.f107 (Xh Tryz.f107):=⟨Tryz.func107,by kernel_rfl,rfl⟩
theorem X0el:X1h Tryz.prog 108 Tryz.f108 (Xh Tryz.f108):=⟨Tryz.func108,by kernel_rfl,rfl⟩
theorem X0ek:X1h Tryz.prog 109 Tryz.f109 (Xh Tryz.f109):=⟨Tryz.func109,by kernel_rfl,rfl⟩
theorem X0ej:X1h Tryz.prog 110 Tryz.f110 (Xh Tryz.f110):=⟨Tryz.func110,by kernel_rfl,rfl⟩
theorem X0ei:X1h Tryz.prog 111 Tryz.f111 (Xh Tryz.f111):=⟨Tryz.func111,by kernel_rfl,rfl⟩
theorem X0bt:X1h Tryz.prog 112 Tryz.f112 (Xh Tryz.f112):=⟨Tryz.func112,by kernel_rfl,rfl⟩
theorem X0bs:X1h Tryz.prog 113 Tryz.f113 (Xh Tryz.f113):=⟨Tryz.func113,by kernel_rfl,rfl⟩
theorem X0eh:X1h Tryz.prog 114 Tryz.f114 (Xh Tryz.f114):=⟨Tryz.func114,by kernel_rfl,rfl⟩
theorem X09x:X1h Tryz.prog 115 Tryz.f115 (Xh Tryz.f115):=⟨Tryz.func115,by kernel_rfl,rfl⟩
theorem X0eg:X1h Tryz.prog 116 Tryz.f116 (Xh Tryz.f116):=⟨Tryz.func116,by kernel_rfl,rfl⟩
theorem X0ef:X1h Tryz.prog 117 Tryz.f117 (Xh Tryz.f117):=⟨Tryz.func117,by kernel_rfl,rfl⟩
theorem X0ee:X1h Tryz.prog 118 Tryz.f118 (Xh Tryz.f118):=⟨Tryz.func118,by kernel_rfl,rfl⟩
theorem X0ed:X1h Tryz.prog 119 Tryz.f119 (Xh Tryz.f119):=⟨Tryz.func119,by kernel_rfl,rfl⟩
theorem Xyu:X1h Tryz.prog 120 Tryz.f120 (Xh Tryz.f120):=⟨Tryz.func120,by kernel_rfl,rfl⟩
theorem X0ec:X1h Tryz.prog 121 Tryz.f121 (Xh Tryz.f121):=⟨Tryz.func121,by kernel_rfl,rfl⟩
theorem X0eb:X1h Tryz.prog 122 Tryz.f122 (Xh Tryz.f122):=⟨Tryz.func122,by kernel_rfl,rfl⟩
theorem X0br:X1h Tryz.prog 123 Tryz.f123 (Xh Tryz.f123):=⟨Tryz.func123,by kernel_rfl,rfl⟩
theorem X0ea:X1h Tryz.prog 124 Tryz.f124 (Xh Tryz.f124):=⟨Tryz.func124,by kernel_rfl,rfl⟩
theorem X0e9:X1h Tryz.prog 125 Tryz.f125 (Xh Tryz.f125):=⟨Tryz.func125,by kernel_rfl,rfl⟩
theorem X0e8:X1h Tryz.prog 126 Tryz.f126 (Xh Tryz.f126):=⟨Tryz.func126,by kernel_rfl,rfl⟩
theorem X0e7:X1h Tryz.prog 127 Tryz.f127 (Xh Tryz.f127):=⟨Tryz.func127,by kernel_rfl,rfl⟩
theorem X0e6:X1h Tryz.prog 128 Tryz.f128 (Xh Tryz.f128):=⟨Tryz.func128,by kernel_rfl,rfl⟩
theorem X0e5:X1h Tryz.prog 129 Tryz.f129 (Xh Tryz.f129):=⟨Tryz.func129,by kernel_rfl,rfl⟩
theorem X0e4:X1h Tryz.prog 130 Tryz.f130 (Xh Tryz.f130):=⟨Tryz.func130,by kernel_rfl,rfl⟩
theorem X0e3:X1h Tryz.prog 131 Tryz.f131 (Xh Tryz.f131):=⟨Tryz.func131,by kernel_rfl,rfl⟩
theorem X0e2:X1h Tryz.prog 133 Tryz.f133 (Xh Tryz.f133):=⟨Tryz.func133,by kernel_rfl,rfl⟩
theorem X0e1:X1h Tryz.prog 135 Tryz.f135 (Xh Tryz.f135):=⟨Tryz.func135,by kernel_rfl,rfl⟩
theorem X0e0:X1h Tryz.prog 136 Tryz.f136 (Xh Tryz.f136):=⟨Tryz.func136,by kernel_rfl,rfl⟩
theorem X0dz:X1h Tryz.prog 137 Tryz.f137 (Xh Tryz.f137):=⟨Tryz.func137,by kernel_rfl,rfl⟩
theorem X0dy:X1h Tryz.prog 138 Tryz.f138 (Xh Tryz.f138):=⟨Tryz.func138,by kernel_rfl,rfl⟩
theorem X0bq:X1h Tryz.prog 139 Tryz.f139 (Xh Tryz.f139):=⟨Tryz.func139,by kernel_rfl,rfl⟩
theorem X0bp:X1h Tryz.prog 140 Tryz.f140 (Xh Tryz.f140):=⟨Tryz.func140,by kernel_rfl,rfl⟩
theorem X0dx:X1h Tryz.prog 142 Tryz.f142 (Xh Tryz.f142):=⟨Tryz.func142,by kernel_rfl,rfl⟩
theorem X0dw:X1h Tryz.prog 143 Tryz.f143 (Xh Tryz.f143):=⟨Tryz.func143,by kernel_rfl,rfl⟩
theorem X0bo:X1h Tryz.prog 144 Tryz.f144 (Xh Tryz.f144):=⟨Tryz.func144,by kernel_rfl,rfl⟩
theorem X0dv:X1h Tryz.prog 147 Tryz.f147 (Xh Tryz.f147):=⟨Tryz.func147,by kernel_rfl,rfl⟩
theorem X0du:X1h Tryz.prog 148 Tryz.f148 (Xh Tryz.f148):=⟨Tryz.func148,by kernel_rfl,rfl⟩
theorem X0dt:X1h Tryz.prog 149 Tryz.f149 (Xh Tryz.f149):=⟨Tryz.func149,by kernel_rfl,rfl⟩
theorem X0ds:X1h Tryz.prog 150 Tryz.f150 (Xh Tryz.f150):=⟨Tryz.func150,by kernel_rfl,rfl⟩
theorem X0dr:X1h Tryz.prog 151 Tryz.f151 (Xh Tryz.f151):=⟨Tryz.func151,by kernel_rfl,rfl⟩
theorem X0dq:X1h Tryz.prog 152 Tryz.f152 (Xh Tryz.f152):=⟨Tryz.func152,by kernel_rfl,rfl⟩
theorem X0dp:X1h Tryz.prog 153 Tryz.f153 (Xh Tryz.f153):=⟨Tryz.func153,by kernel_rfl,rfl⟩
theorem X0do:X1h Tryz.prog 154 Tryz.f154 (Xh Tryz.f154):=⟨Tryz.func154,by kernel_rfl,rfl⟩
theorem X0dn:X1h Tryz.prog 155 Tryz.f155 (Xh Tryz.f155):=⟨Tryz.func155,by kernel_rfl,rfl⟩
theorem X0dm:X1h Tryz.prog 156 Tryz.f156 (Xh Tryz.f156):=⟨Tryz.func156,by kernel_rfl,rfl⟩
theorem X0dl:X1h Tryz.prog 166 Tryz.f166 (Xh Tryz.f166):=⟨Tryz.func166,by kernel_rfl,rfl⟩
theorem X0dk:X1h Tryz.prog 175 Tryz.f175 (Xh Tryz.f175):=⟨Tryz.func175,by kernel_rfl,rfl⟩
theorem X0dj:X1h Tryz.prog 176 Tryz.f176 (Xh Tryz.f176):=⟨Tryz.func176,by kernel_rfl,rfl⟩
theorem X0bn:X1h Tryz.prog 177 Tryz.f177 (Xh Tryz.f177):=⟨Tryz.func177,by kernel_rfl,rfl⟩
theorem X0di:X1h Tryz.prog 178 Tryz.f178 (Xh Tryz.f178):=⟨Tryz.func178,by kernel_rfl,rfl⟩
theorem X0bm:X1h Tryz.prog 179 Tryz.f179 (Xh Tryz.f179):=⟨Tryz.func179,by kernel_rfl,rfl⟩
theorem X0dh:X1h Tryz.prog 181 Tryz.f181 (Xh Tryz.f181):=⟨Tryz.func181,by kernel_rfl,rfl⟩
theorem X0dg:X1h Tryz.prog 182 Tryz.f182 (Xh Tryz.f182):=⟨Tryz.func182,by kernel_rfl,rfl⟩
theorem X0df:X1h Tryz.prog 183 Tryz.f183 (Xh Tryz.f183):=⟨Tryz.func183,by kernel_rfl,rfl⟩
theorem X0de:X1h Tryz.prog 184 Tryz.f184 (Xh Tryz.f184):=⟨Tryz.func184,by kernel_rfl,rfl⟩
theorem X0dd:X1h Tryz.prog 185 Tryz.f185 (Xh Tryz.f185):=⟨Tryz.func185,by kernel_rfl,rfl⟩
theorem X0dc:X1h Tryz.prog 186 Tryz.f186 (Xh Tryz.f186):=⟨Tryz.func186,by kernel_rfl,rfl⟩
theorem X0db:X1h Tryz.prog 187 Tryz.f187 (Xh Tryz.f187):=⟨Tryz.func187,by kernel_rfl,rfl⟩
theorem X0da:X1h Tryz.prog 188 Tryz.f188 (Xh Tryz.f188):=⟨Tryz.func188,by kernel_rfl,rfl⟩
theorem Xnw:X1h Tryz.prog 189 Tryz.f189 (Xh Tryz.f189):=⟨Tryz.func189,by kernel_rfl,rfl⟩
theorem X0d9:X1h Tryz.prog 198 Tryz.f198 (Xh Tryz.f198):=⟨Tryz.func198,by kernel_rfl,rfl⟩
theorem X06e:X1h Tryz.prog 199 Tryz.f199 (Xh Tryz.f199):=⟨Tryz.func199,by kernel_rfl,rfl⟩
theorem X0bl:X1h Tryz.prog 200 Tryz.f200 (Xh Tryz.f200):=⟨Tryz.func200,by kernel_rfl,rfl⟩
instance X048:PCs Tryz.prog 43 (∀ (a0:(List X05)) (r:Bool),Xbq a0=some r->X0g Tryz.prog 43 [(Lf (a0.map X4))] (aB r)):=⟨fun a0 r h=>by
 refine X0g.sym Xa fn43 (nt:=6) rfl rfl ?_ okM
 unfold Xbq at h
 revert h
 exact fun e=>oj e▸X9 [.el (aI .i64 (a0.length:Int))] (k:=fi)⟩
instance X042:PCs Tryz.prog 15 (∀ (a0:Xu) (r:Bool),Xbo a0=some r->X0g Tryz.prog 15 [(Xm false a0)] (aB r)):=⟨fun a0 r h=>by
 refine X0g.sym Xa fn15 (nt:=17) rfl rfl ?_ okM
 unfold Xbo at h
 revert h
 refine bI fun j7_2 h14=>rnI [.stop 1] ?_
 intro h
 refine X2.join (s':=⟨fr [(2,(aB j7_2))],hp ([]),0⟩) ?_ (fun J=>X2.cut ?_)
 ·
  revert h
  exact fun e=>oj e▸X9 [] (k:=fi)
 clear h;revert h14
 refine bI fun v8 h9=>brI (fun h10=>?_) fun h10=>?_
 ·
  intro h
  obtain rfl:=oj h
  exact X9 [.pure _ (aB v8),.go false,.go false,.go false,.go false,.go false,.go false,.go false] (o:=by repeat' first|apply Ya|exact pcM|exact((Xas h10 rfl))|exact(X6x (Xas h10 rfl))|exact(absN (Xas h10 rfl))|exact X0k) (k:=wkT [] (X2.glue J))
 refine bI fun v11 h12=>brI (fun h13=>?_) fun h13=>?_
 ·
  intro h
  obtain rfl:=oj h
  exact X9 [.pure _ (aB v8),.go true,.go true,.go true,.pure _ (aB v11),.go false,.go false,.go false,.go false] (o:=by repeat' first|apply Ya|exact pcM|exact((X6y h10 h13))|exact(X6x (X6y h10 h13))|exact(absN (X6y h10 h13))|exact X0k) (k:=wkT [] (X2.glue J))
 intro h
 obtain rfl:=oj h
 exact X9 [.pure _ (aB v8),.go true,.go true,.go true,.pure _ (aB v11),.go true,.go true,.go true,.el (aI .i64 (a0.Sources.length:Int)),.go true] (o:=by repeat' first|apply Ya|exact pcM|exact((X6y h10 h13))|exact(X6x (X6y h10 h13))|exact(absT (X6y h10 h13))|exact X0k) (k:=wkT [] (X2.glue J))⟩
theorem Xj2 {Q:X02->St->Mu->Prop} {μ:Mu} (X1s:(List (List Xk))) (hl:X1s.length<=140737488355328):∀ (xs:List (List Xk)) (k:Nat) (hx:X1s.drop k=xs) (o:X78) (h:X4t X1s xs k  = some o)
  (C0:o=X78.x0->X2 Tryz.prog 25 0 Q (.exit (.exit 0)) [] ⟨fr [],hp ([]),0⟩ μ)
  (C1:o=X78.x1->X2 Tryz.prog 25 0 Q (.exit .ret) [] ⟨fr [(4,(aB true))],hp ([]),0⟩ μ),
  X2 Tryz.prog 25 0 Q (.loop (X2v 0 (Xh Tryz.f11))) [] ⟨fr [(1,(Lf (List.map (X56 false Xd) X1s))),(5,(aI .i64 (k:Int)))],hp ([]),0⟩ μ:=by
 intro xs
 induction xs with
 |nil =>
  intro k hx  o h C0 C1
  have hk:=drop_nil hx
  have hc:decide ((k:Int)<(X1s.length:Int))=false:=Yf (by omega)
  rw[X4t] at h
  refine X2.round ?_
  revert h
  exact fun e=>X9 [.el (aI .i64 (X1s.length:Int)),Bf] (k:=wkT [] (C0  (oj e).symm))
 |cons x xs ih =>
  intro k hx  o h C0 C1
  obtain⟨hk,hg,hx1⟩:=drop_cons hx
  have hc:decide ((k:Int)<(X1s.length:Int))=true:=Yt (by omega)
  rw[X4t] at h
  refine X2.round ?_
  revert h
  refine brI (fun h15=>fun e=>X9 [.el (aI .i64 (X1s.length:Int)),Bt,.el (X56 false Xd x),.el (aI .i64 (x.length:Int)),Bt] (k:=wkT [] (C1  (oj e).symm))) fun h15=>rnI [.el (aI .i64 (X1s.length:Int)),Bt,.el (X56 false Xd x),.el (aI .i64 (x.length:Int)),Bf] ?_
  intro h
  exact wkT [] (ih (k+1) hx1  o h C0 C1)
instance X03q:PCs Tryz.prog 11 (∀ (a0:Xu) (a1:(List (List Xk))) (r:Bool),X9b a0 a1=some r->X0g Tryz.prog 11 [(Xm false a0),(Lf (List.map (X56 false Xd) a1))] (aB r)):=⟨fun a0 a1 r h=>by
 refine X0g.sym Xa fn11 (nt:=25) rfl rfl ?_ okM
 unfold X9b at h
 revert h
 refine bI fun X09a h8=>rnI [.stop 1] ?_
 intro h
 refine X2.join (s':=⟨fr [(1,(Lf (List.map (X56 false Xd) a1))),(12,(aB X09a))],hp ([]),0⟩) ?_ (fun J=>X2.cut ?_)
 ·
  revert h
  refine brI (fun h9=>fun e=>oj e▸X9 [Bt] (k:=fi)) fun h9=>bI fun u10 h11=>?_
  have qh11:=X08 h11
  refine bI fun o16 h17=>rnI [Bf] ?_
  intro h
  refine wkT [] (X2.cut (Xj2 a1 qh11 a1 0 (by simp) _ h17 ?_ ?_))
  ·
   intro eo16;subst eo16
   refine X2.glue ?_
   try dsimp only at h
   revert h
   exact fun e=>oj e▸X9 [] (k:=fi)
  intro eo16;subst eo16
  refine X2.glue ?_
  try dsimp only at h
  revert h
  exact fun e=>oj e▸X9 [] (k:=fi)
 clear h;revert h8
 refine bI fun v5 h6=>brI (fun h7=>?_) fun h7=>?_
 ·
  intro h
  obtain rfl:=oj h
  exact X9 [.pure _ (aB v5),.go false,.go false,.go false] (k:=wkT [] (X2.glue J))
 intro h
 obtain rfl:=oj h
 exact X9 [.pure _ (aB v5),.go true,.go true,.el (aI .i64 (a1.length:Int)),.go true] (k:=wkT [] (X2.glue J))⟩
instance X04h:PCs Tryz.prog 198 (∀ (a0:Int) (r:Int×Int),Xbu a0=some r->X0g Tryz.prog 198 [(aI .u8 a0)] (AV.tup [(aI .i64 r.1),(aI .i64 r.2)])):=⟨fun a0 r h=>by
 refine X0g.sym Xa X0d9 (nt:=25) rfl rfl ?_ okM
 unfold Xbu at h
 revert h
 exact brI (fun h1=>fun e=>oj e▸X9 [Bt] (k:=fi)) fun h1=>brI (fun h2=>fun e=>oj e▸X9 [Bf,Bt] (k:=fi)) fun h2=>brI (fun h3=>fun e=>oj e▸X9 [Bf,Bf,Bt] (k:=fi)) fun h3=>fun e=>oj e▸X9 [Bf,Bf,Bf] (k:=fi)⟩
end Go.Av.Tryz