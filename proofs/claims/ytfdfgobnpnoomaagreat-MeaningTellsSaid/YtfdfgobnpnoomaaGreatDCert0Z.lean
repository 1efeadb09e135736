/- Printed by decomp.py: that the program computes the functions. -/
import Derived.Test.YtfdfgobnpnoomaaGreatDFunZ
import Derived.Test.YtfdfgobnpnoomaaGreatTabZ
import Derived.Test.YtfdfgobnpnoomaaGreatDeleteZ
import Derived.Test.YtfdfgobnpnoomaaGreatInsertZ
set_option linter.all false

namespace Go.Av.Tryz
open Go.Proofs Go.D
set_option maxRecDepth 10000
set_option maxHeartbeats 40000000
theorem tmD:Xc4 Tryz.prog X05f.find/\Tryz.prog.follows .mixedOrders=true:=⟨X9,by kernel_rfl⟩
instance tmI:TmD Tryz.prog X05f.find:=⟨tmD⟩
theorem fn4:X1g Tryz.prog 4 Tryz.f4 (Xj Tryz.f4):=⟨Tryz.func4,by kernel_rfl,rfl⟩
theorem fn15:X1g Tryz.prog 15 Tryz.f15 (Xj Tryz.f15):=⟨Tryz.func15,by kernel_rfl,rfl⟩
theorem fn16:X1g Tryz.prog 16 Tryz.f16 (Xj Tryz.f16):=⟨Tryz.func16,by kernel_rfl,rfl⟩
theorem fn17:X1g Tryz.prog 17 Tryz.f17 (Xj Tryz.f17):=⟨Tryz.func17,by kernel_rfl,rfl⟩
theorem fn18:X1g Tryz.prog 18 Tryz.f18 (Xj Tryz.f18):=⟨Tryz.func18,by kernel_rfl,rfl⟩
theorem fn19:X1g Tryz.prog 19 Tryz.f19 (Xj Tryz.f19):=⟨Tryz.func19,by kernel_rfl,rfl⟩
theorem fn20:X1g Tryz.prog 20 Tryz.f20 (Xj Tryz.f20):=⟨Tryz.func20,by kernel_rfl,rfl⟩
theorem fn21:X1g Tryz.prog 21 Tryz.f21 (Xj Tryz.f21):=⟨Tryz.func21,by kernel_rfl,rfl⟩
theorem fn22:X1g Tryz.prog 22 Tryz.f22 (Xj Tryz.f22):=⟨Tryz.func22,by kernel_rfl,rfl⟩
theorem fn23:X1g Tryz.prog 23 Tryz.f23 (Xj Tryz.f23):=⟨Tryz.func23,by kernel_rfl,rfl⟩
theorem fn24:X1g Tryz.prog 24 Tryz.f24 (Xj Tryz.f24):=⟨Tryz.func24,by kernel_rfl,rfl⟩
theorem fn28:X1g Tryz.prog 28 Tryz.f28 (Xj Tryz.f28):=⟨Tryz.func28,by kernel_rfl,rfl⟩
theorem fn33:X1g Tryz.prog 33 Tryz.f33 (Xj Tryz.f33):=⟨Tryz.func33,by kernel_rfl,rfl⟩
theorem fn34:X1g Tryz.prog 34 Tryz.f34 (Xj Tryz.f34):=⟨Tryz.func34,by kernel_rfl,rfl⟩
theorem fn35:X1g Tryz.prog 35 Tryz.f35 (Xj Tryz.f35):=⟨Tryz.func35,by kernel_rfl,rfl⟩
theorem fn40:X1g Tryz.prog 40 Tryz.f40 (Xj Tryz.f40):=⟨Tryz.func40,by kernel_rfl,rfl⟩
theorem fn43:X1g Tryz.prog 43 Tryz.f43 (Xj Tryz.f43):=⟨Tryz.func43,by kernel_rfl,rfl⟩
theorem fn44:X1g Tryz.prog 44 Tryz.f44 (Xj Tryz.f44):=⟨Tryz.func44,by kernel_rfl,rfl⟩
theorem fn45:X1g Tryz.prog 45 Tryz.f45 (Xj Tryz.f45):=⟨Tryz.func45,by kernel_rfl,rfl⟩
theorem fn46:X1g Tryz.prog 46 Tryz.f46 (Xj Tryz.f46):=⟨Tryz.func46,by kernel_rfl,rfl⟩
theorem fn47:X1g Tryz.prog 47 Tryz.f47 (Xj Tryz.f47):=⟨Tryz.func47,by kernel_rfl,rfl⟩
theorem fn48:X1g Tryz.prog 48 Tryz.f48 (Xj Tryz.f48):=⟨Tryz.func48,by kernel_rfl,rfl⟩
theorem fn49:X1g Tryz.prog 49 Tryz.f49 (Xj Tryz.f49):=⟨Tryz.func49,by kernel_rfl,rfl⟩
theorem fn50:X1g Tryz.prog 50 Tryz.f50 (Xj Tryz.f50):=⟨Tryz.func50,by kernel_rfl,rfl⟩
theorem fn51:X1g Tryz.prog 51 Tryz.f51 (Xj Tryz.f51):=⟨Tryz.func51,by kernel_rfl,rfl⟩
theorem fn52:X1g Tryz.prog 52 Tryz.f52 (Xj Tryz.f52):=⟨Tryz.func52,by kernel_rfl,rfl⟩
theorem fn53:X1g Tryz.prog 53 Tryz.f53 (Xj Tryz.f53):=⟨Tryz.func53,by kernel_rfl,rfl⟩
theorem fn54:X1g Tryz.prog 54 Tryz.f54 (Xj Tryz.f54):=⟨Tryz.func54,by kernel_rfl,rfl⟩
theorem fn55:X1g Tryz.prog 55 Tryz.f55 (Xj Tryz.f55):=⟨Tryz.func55,by kernel_rfl,rfl⟩
theorem fn56:X1g Tryz.prog 56 Tryz.f56 (Xj Tryz.f56):=⟨Tryz.func56,by kernel_rfl,rfl⟩
theorem fn57:X1g Tryz.prog 57 Tryz.f57 (Xj Tryz.f57):=⟨Tryz.func57,by kernel_rfl,rfl⟩
theorem fn58:X1g Tryz.prog 58 Tryz.f58 (Xj Tryz.f58):=⟨Tryz.func58,by kernel_rfl,rfl⟩
theorem fn59:X1g Tryz.prog 59 Tryz.f59 (Xj Tryz.f59):=⟨Tryz.func59,by kernel_rfl,rfl⟩
theorem fn65:X1g Tryz.prog 65 Tryz.f65 (Xj Tryz.f65):=⟨Tryz.func65,by kernel_rfl,rfl⟩
theorem fn66:X1g Tryz.prog 66 Tryz.f66 (Xj Tryz.f66):=⟨Tryz.func66,by kernel_rfl,rfl⟩
theorem fn70:X1g Tryz.prog 70 Tryz.f70 (Xj Tryz.f70):=⟨Tryz.func70,by kernel_rfl,rfl⟩
theorem fn71:X1g Tryz.prog 71 Tryz.f71 (Xj Tryz.f71):=⟨Tryz.func71,by kernel_rfl,rfl⟩
theorem fn72:X1g Tryz.prog 72 Tryz.f72 (Xj Tryz.f72):=⟨Tryz.func72,by kernel_rfl,rfl⟩
theorem fn73:X1g Tryz.prog 73 Tryz.f73 (Xj Tryz.f73):=⟨Tryz.func73,by kernel_rfl,rfl⟩
theorem fn74:X1g Tryz.prog 74 Tryz.f74 (Xj Tryz.f74):=⟨Tryz.func74,by kernel_rfl,rfl⟩
theorem fn75:X1g Tryz.prog 75 Tryz.f75 (Xj Tryz.f75):=⟨Tryz.func75,by kernel_rfl,rfl⟩
theorem fn76:X1g Tryz.prog 76 Tryz.f76 (Xj Tryz.f76):=⟨Tryz.func76,by kernel_rfl,rfl⟩
theorem fn77:X1g Tryz.prog 77 Tryz.f77 (Xj Tryz.f77):=⟨Tryz.func77,by kernel_rfl,rfl⟩
theorem fn78:X1g Tryz.prog 78 Tryz.f78 (Xj Tryz.f78):=⟨Tryz.func78,by kernel_rfl,rfl⟩
theorem fn79:X1g Tryz.prog 79 Tryz.f79 (Xj Tryz.f79):=⟨Tryz.func79,by kernel_rfl,rfl⟩
theorem fn80:X1g Tryz.prog 80 Tryz.f80 (Xj Tryz.f80):=⟨Tryz.func80,by kernel_rfl,rfl⟩
theorem fn81:X1g Tryz.prog 81 Tryz.f81 (Xj Tryz.f81):=⟨Tryz.func81,by kernel_rfl,rfl⟩
theorem fn82:X1g Tryz.prog 82 Tryz.f82 (Xj Tryz.f82):=⟨Tryz.func82,by kernel_rfl,rfl⟩
theorem fn83:X1g Tryz.prog 83 Tryz.f83 (Xj Tryz.f83):=⟨Tryz.func83,by kernel_rfl,rfl⟩
theorem fn84:X1g Tryz.prog 84 Tryz.f84 (Xj Tryz.f84):=⟨Tryz.func84,by kernel_rfl,rfl⟩
theorem fn85:X1g Tryz.prog 85 Tryz.f85 (Xj Tryz.f85):=⟨Tryz.func85,by kernel_rfl,rfl⟩
theorem fn86:X1g Tryz.prog 86 Tryz.f86 (Xj Tryz.f86):=⟨Tryz.func86,by kernel_rfl,rfl⟩
theorem fn87:X1g Tryz.prog 87 Tryz.f87 (Xj Tryz.f87):=⟨Tryz.func87,by kernel_rfl,rfl⟩
theorem fn88:X1g Tryz.prog 88 Tryz.f88 (Xj Tryz.f88):=⟨Tryz.func88,by kernel_rfl,rfl⟩
theorem fn89:X1g Tryz.prog 89 Tryz.f89 (Xj Tryz.f89):=⟨Tryz.func89,by kernel_rfl,rfl⟩
theorem fn90:X1g Tryz.prog 90 Tryz.f90 (Xj Tryz.f90):=⟨Tryz.func90,by kernel_rfl,rfl⟩
theorem fn91:X1g Tryz.prog 91 Tryz.f91 (Xj Tryz.f91):=⟨Tryz.func91,by kernel_rfl,rfl⟩
theorem fn92:X1g Tryz.prog 92 Tryz.f92 (Xj Tryz.f92):=⟨Tryz.func92,by kernel_rfl,rfl⟩
theorem fn93:X1g Tryz.prog 93 Tryz.f93 (Xj Tryz.f93):=⟨Tryz.func93,by kernel_rfl,rfl⟩
theorem fn94:X1g Tryz.prog 94 Tryz.f94 (Xj Tryz.f94):=⟨Tryz.func94,by kernel_rfl,rfl⟩
theorem fn95:X1g Tryz.prog 95 Tryz.f95 (Xj Tryz.f95):=⟨Tryz.func95,by kernel_rfl,rfl⟩
theorem fn96:X1g Tryz.prog 96 Tryz.f96 (Xj Tryz.f96):=⟨Tryz.func96,by kernel_rfl,rfl⟩
theorem fn97:X1g Tryz.prog 97 Tryz.f97 (Xj Tryz.f97):=⟨Tryz.func97,by kernel_rfl,rfl⟩
theorem X0c4:X1g Tryz.prog 102 Tryz.f102 (Xj Tryz.f102):=⟨Tryz.func102,by kernel_rfl,rfl⟩
theorem X0c3:X1g Tryz.prog 104 Tryz.f104 (Xj Tryz.f104):=⟨Tryz.func104,by kernel_rfl,rfl⟩
theorem Xwq:X1g Tryz.prog 105 Tryz.f105 (Xj Tryz.f105):=⟨Tryz.func105,by kernel_rfl,rfl⟩
theorem X0c2:X1g Tryz.prog 106 Tryz.f106 (Xj Tryz.f106):=⟨Tryz.func106,by kernel_rfl,rfl⟩
theorem X0c1:X1g Tryz.prog 107 Tryz.f107 (Xj Tryz.f107):=⟨Tryz.func107,by kernel_rfl,rfl⟩
theorem X0c0:X1g Tryz.prog 108 Tryz.f108 (Xj Tryz.f108):=⟨Tryz.func108,by kernel_rfl,rfl⟩
theorem X0bz:X1g Tryz.prog 109 Tryz.f109 (Xj Tryz.f109):=⟨Tryz.func109,by kernel_rfl,rfl⟩
theorem X0by:X1g Tryz.prog 110 Tryz.f110 (Xj Tryz.f110):=⟨Tryz.func110,by kernel_rfl,rfl⟩
theorem X0bx:X1g Tryz.prog 111 Tryz.f111 (Xj Tryz.f111):=⟨Tryz.func111,by kernel_rfl,rfl⟩
theorem X09e:X1g Tryz.prog 112 Tryz.f112 (Xj Tryz.f112):=⟨Tryz.func112,by kernel_rfl,rfl⟩
theorem X09d:X1g Tryz.prog 113 Tryz.f113 (Xj Tryz.f113):=⟨Tryz.func113,by kernel_rfl,rfl⟩
theorem X0bw:X1g Tryz.prog 114 Tryz.f114 (Xj Tryz.f114):=⟨Tryz.func114,by kernel_rfl,rfl⟩
theorem X07g:X1g Tryz.prog 115 Tryz.f115 (Xj Tryz.f115):=⟨Tryz.func115,by kernel_rfl,rfl⟩
theorem X0bv:X1g Tryz.prog 116 Tryz.f116 (Xj Tryz.f116):=⟨Tryz.func116,by kernel_rfl,rfl⟩
theorem X0bu:X1g Tryz.prog 117 Tryz.f117 (Xj Tryz.f117):=⟨Tryz.func117,by kernel_rfl,rfl⟩
theorem X0bt:X1g Tryz.prog 118 Tryz.f118 (Xj Tryz.f118):=⟨Tryz.func118,by kernel_rfl,rfl⟩
theorem X0bs:X1g Tryz.prog 119 Tryz.f119 (Xj Tryz.f119):=⟨Tryz.func119,by kernel_rfl,rfl⟩
theorem Xwp:X1g Tryz.prog 120 Tryz.f120 (Xj Tryz.f120):=⟨Tryz.func120,by kernel_rfl,rfl⟩
theorem X0br:X1g Tryz.prog 121 Tryz.f121 (Xj Tryz.f121):=⟨Tryz.func121,by kernel_rfl,rfl⟩
theorem X0bq:X1g Tryz.prog 122 Tryz.f122 (Xj Tryz.f122):=⟨Tryz.func122,by kernel_rfl,rfl⟩
theorem X09c:X1g Tryz.prog 123 Tryz.f123 (Xj Tryz.f123):=⟨Tryz.func123,by kernel_rfl,rfl⟩
theorem X0bp:X1g Tryz.prog 124 Tryz.f124 (Xj Tryz.f124):=⟨Tryz.func124,by kernel_rfl,rfl⟩
theorem X0bo:X1g Tryz.prog 125 Tryz.f125 (Xj Tryz.f125):=⟨Tryz.func125,by kernel_rfl,rfl⟩
theorem X0bn:X1g Tryz.prog 126 Tryz.f126 (Xj Tryz.f126):=⟨Tryz.func126,by kernel_rfl,rfl⟩
theorem X0bm:X1g Tryz.prog 127 Tryz.f127 (Xj Tryz.f127):=⟨Tryz.func127,by kernel_rfl,rfl⟩
theorem X0bl:X1g Tryz.prog 128 Tryz.f128 (Xj Tryz.f128):=⟨Tryz.func128,by kernel_rfl,rfl⟩
theorem X0bk:X1g Tryz.prog 129 Tryz.f129 (Xj Tryz.f129):=⟨Tryz.func129,by kernel_rfl,rfl⟩
theorem X0bj:X1g Tryz.prog 130 Tryz.f130 (Xj Tryz.f130):=⟨Tryz.func130,by kernel_rfl,rfl⟩
theorem X0bi:X1g Tryz.prog 131 Tryz.f131 (Xj Tryz.f131):=⟨Tryz.func131,by kernel_rfl,rfl⟩
theorem X0bh:X1g Tryz.prog 133 Tryz.f133 (Xj Tryz.f133):=⟨Tryz.func133,by kernel_rfl,rfl⟩
theorem X0bg:X1g Tryz.prog 135 Tryz.f135 (Xj Tryz.f135):=⟨Tryz.func135,by kernel_rfl,rfl⟩
theorem X0bf:X1g Tryz.prog 136 Tryz.f136 (Xj Tryz.f136):=⟨Tryz.func136,by kernel_rfl,rfl⟩
theorem X0be:X1g Tryz.prog 137 Tryz.f137 (Xj Tryz.f137):=⟨Tryz.func137,by kernel_rfl,rfl⟩
theorem X0bd:X1g Tryz.prog 138 Tryz.f138 (Xj Tryz.f138):=⟨Tryz.func138,by kernel_rfl,rfl⟩
theorem X09b:X1g Tryz.prog 139 Tryz.f139 (Xj Tryz.f139):=⟨Tryz.func139,by kernel_rfl,rfl⟩
theorem X09a:X1g Tryz.prog 140 Tryz.f140 (Xj Tryz.f140):=⟨Tryz.func140,by kernel_rfl,rfl⟩
theorem X0bc:X1g Tryz.prog 142 Tryz.f142 (Xj Tryz.f142):=⟨Tryz.func142,by kernel_rfl,rfl⟩
theorem X0bb:X1g Tryz.prog 143 Tryz.f143 (Xj Tryz.f143):=⟨Tryz.func143,by kernel_rfl,rfl⟩
theorem X099:X1g Tryz.prog 144 Tryz.f144 (Xj Tryz.f144):=⟨Tryz.func144,by kernel_rfl,rfl⟩
theorem X0ba:X1g Tryz.prog 147 Tryz.f147 (Xj Tryz.f147):=⟨Tryz.func147,by kernel_rfl,rfl⟩
theorem X0b9:X1g Tryz.prog 148 Tryz.f148 (Xj Tryz.f148):=⟨Tryz.func148,by kernel_rfl,rfl⟩
theorem X0b8:X1g Tryz.prog 149 Tryz.f149 (Xj Tryz.f149):=⟨Tryz.func149,by kernel_rfl,rfl⟩
theorem X0b7:X1g Tryz.prog 150 Tryz.f150 (Xj Tryz.f150):=⟨Tryz.func150,by kernel_rfl,rfl⟩
theorem X0b6:X1g Tryz.prog 151 Tryz.f151 (Xj Tryz.f151):=⟨Tryz.func151,by kernel_rfl,rfl⟩
theorem X0b5:X1g Tryz.prog 152 Tryz.f152 (Xj Tryz.f152):=⟨Tryz.func152,by kernel_rfl,rfl⟩
theorem X0b4:X1g Tryz.prog 153 Tryz.f153 (Xj Tryz.f153):=⟨Tryz.func153,by kernel_rfl,rfl⟩
theorem X0b3:X1g Tryz.prog 154 Tryz.f154 (Xj Tryz.f154):=⟨Tryz.func154,by kernel_rfl,rfl⟩
theorem X0b2:X1g Tryz.prog 155 Tryz.f155 (Xj Tryz.f155):=⟨Tryz.func155,by kernel_rfl,rfl⟩
theorem X0b1:X1g Tryz.prog 156 Tryz.f156 (Xj Tryz.f156):=⟨Tryz.func156,by kernel_rfl,rfl⟩
theorem X0b0:X1g Tryz.prog 166 Tryz.f166 (Xj Tryz.f166):=⟨Tryz.func166,by kernel_rfl,rfl⟩
theorem X0az:X1g Tryz.prog 175 Tryz.f175 (Xj Tryz.f175):=⟨Tryz.func175,by kernel_rfl,rfl⟩
theorem X0ay:X1g Tryz.prog 176 Tryz.f176 (Xj Tryz.f176):=⟨Tryz.func176,by kernel_rfl,rfl⟩
theorem X098:X1g Tryz.prog 177 Tryz.f177 (Xj Tryz.f177):=⟨Tryz.func177,by kernel_rfl,rfl⟩
theorem X0ax:X1g Tryz.prog 178 Tryz.f178 (Xj Tryz.f178):=⟨Tryz.func178,by kernel_rfl,rfl⟩
theorem X097:X1g Tryz.prog 179 Tryz.f179 (Xj Tryz.f179):=⟨Tryz.func179,by kernel_rfl,rfl⟩
theorem X0aw:X1g Tryz.prog 181 Tryz.f181 (Xj Tryz.f181):=⟨Tryz.func181,by kernel_rfl,rfl⟩
theorem X0av:X1g Tryz.prog 182 Tryz.f182 (Xj Tryz.f182):=⟨Tryz.func182,by kernel_rfl,rfl⟩
theorem X0au:X1g Tryz.prog 183 Tryz.f183 (Xj Tryz.f183):=⟨Tryz.func183,by kernel_rfl,rfl⟩
theorem X0at:X1g Tryz.prog 184 Tryz.f184 (Xj Tryz.f184):=⟨Tryz.func184,by kernel_rfl,rfl⟩
theorem X0as:X1g Tryz.prog 185 Tryz.f185 (Xj Tryz.f185):=⟨Tryz.func185,by kernel_rfl,rfl⟩
theorem X0ar:X1g Tryz.prog 186 Tryz.f186 (Xj Tryz.f186):=⟨Tryz.func186,by kernel_rfl,rfl⟩
theorem X0aq:X1g Tryz.prog 187 Tryz.f187 (Xj Tryz.f187):=⟨Tryz.func187,by kernel_rfl,rfl⟩
theorem X0ap:X1g Tryz.prog 188 Tryz.f188 (Xj Tryz.f188):=⟨Tryz.func188,by kernel_rfl,rfl⟩
theorem Xmd:X1g Tryz.prog 189 Tryz.f189 (Xj Tryz.f189):=⟨Tryz.func189,by kernel_rfl,rfl⟩
theorem X0ao:X1g Tryz.prog 198 Tryz.f198 (Xj Tryz.f198):=⟨Tryz.func198,by kernel_rfl,rfl⟩
theorem X03u:X1g Tryz.prog 199 Tryz.f199 (Xj Tryz.f199):=⟨Tryz.func199,by kernel_rfl,rfl⟩
theorem X096:X1g Tryz.prog 200 Tryz.f200 (Xj Tryz.f200):=⟨Tryz.func200,by kernel_rfl,rfl⟩
instance X01l:PCs Tryz.prog 43 (∀ (a0:(List X03)) (r:Bool),Xaq a0=some r->X0j Tryz.prog 43 [(Lf (a0.map X4))] (aB r)):=⟨fun a0 r h=>by
 refine X0j.sym X9 fn43 (nt:=6) rfl rfl ?_ okM
 unfold Xaq at h
 revert h
 exact fun e=>oj e▸X7 [.el (aI .i64 (a0.length:Int))] (k:=fi)⟩
instance X01f:PCs Tryz.prog 15 (∀ (a0:Xw) (r:Bool),Xao a0=some r->X0j Tryz.prog 15 [(Xn false a0)] (aB r)):=⟨fun a0 r h=>by
 refine X0j.sym X9 fn15 (nt:=17) rfl rfl ?_ okM
 unfold Xao at h
 revert h
 refine bI fun j7_2 h14=>rnI [.stop 1] ?_
 intro h
 refine X2.join (s':=⟨fr [(2,(aB j7_2))],hp ([]),0⟩) ?_ (fun J=>X2.cut ?_)
 ·
  revert h
  exact fun e=>oj e▸X7 [] (k:=fi)
 clear h;revert h14
 refine bI fun v8 h9=>brI (fun h10=>?_) fun h10=>?_
 ·
  intro h
  obtain rfl:=oj h
  exact X7 [.pure _ (aB v8),.go false,.go false,.go false,.go false,.go false,.go false,.go false] (o:=by repeat' first|apply Ya|exact pcM|exact((Xh h10 rfl))|exact(X0o (Xh h10 rfl))|exact(Xlt (Xh h10 rfl))|exact X0k) (k:=wkT [] (X2.glue J))
 refine bI fun v11 h12=>brI (fun h13=>?_) fun h13=>?_
 ·
  intro h
  obtain rfl:=oj h
  exact X7 [.pure _ (aB v8),.go true,.go true,.go true,.pure _ (aB v11),.go false,.go false,.go false,.go false] (o:=by repeat' first|apply Ya|exact pcM|exact((Xx h10 h13))|exact(X0o (Xx h10 h13))|exact(Xlt (Xx h10 h13))|exact X0k) (k:=wkT [] (X2.glue J))
 intro h
 obtain rfl:=oj h
 exact X7 [.pure _ (aB v8),.go true,.go true,.go true,.pure _ (aB v11),.go true,.go true,.go true,.el (aI .i64 (a0.Sources.length:Int)),.go true] (o:=by repeat' first|apply Ya|exact pcM|exact((Xx h10 h13))|exact(X0o (Xx h10 h13))|exact(Xf3 (Xx h10 h13))|exact X0k) (k:=wkT [] (X2.glue J))⟩
theorem Xhq {Q:X01->St->Mu->Prop} {μ:Mu} (X07:(List (List Xk))):∀ (n:Nat) (X9s:Int) (o:X6q) (h:X4h X07 n X9s=some o)
  (C0:o=X6q.x0->X2 Tryz.prog 31 0 Q (.exit .ret) [] ⟨fr [(2,(aB true))],hp ([]),0⟩ μ)
  (C1:o=X6q.x1->X2 Tryz.prog 31 0 Q (.exit (.exit 0)) [] ⟨fr [(0,(Lf (List.map (X6j false Xa) X07)))],hp ([]),0⟩ μ),
  X2 Tryz.prog 31 0 Q (.loop (X30 0 (Xj Tryz.f16))) [] ⟨fr [(0,(Lf (List.map (X6j false Xa) X07))),(3,(aI .i64 X9s))],hp ([]),0⟩ μ:=by
 intro n
 induction n with
 |zero=>intro X9s o h C0 C1;cases h
 |succ n ih =>
  intro X9s o h C0 C1
  rw[X4h] at h
  refine X2.round ?_
  revert h
  refine brI (fun h22=>?_) fun h22=>fun e=>X7 [.el (aI .i64 (X07.length:Int)),Bf] (k:=wkT [] (C1  (oj e).symm))
  refine bI fun Xzd h30=>rnI [.el (aI .i64 (X07.length:Int)),Bt,.stop 4] ?_
  intro h
  refine X2.join (s':=⟨fr [(0,(Lf (List.map (X6j false Xa) X07))),(3,(aI .i64 X9s)),(27,(aB Xzd))],hp ([]),0⟩) ?_ (fun J=>X2.cut ?_)
  ·
   revert h
   refine brI (fun h31=>fun e=>X7 [Bt] (k:=wkT [] (C0  (oj e).symm))) fun h31=>rnI [Bf,.wrap] ?_
   intro h
   exact wkT [] (ih  _ o h C0 C1)
  clear h;revert h30
  refine bI fun e27 h28=>?_
  try have qh28:=Xv h28
  refine brI (fun h29=>?_) fun h29=>?_
  ·
   intro h
   obtain rfl:=oj h
   exact X7 [.el (X6j false Xa e27),.el (aI .i64 (e27.length:Int)),.go true,.go true,.go true,.el (X6j false Xa e27),.go true,.go true,.el (aI .i64 (e27.length:Int)),.go true] (k:=wkT [] (X2.glue J))
  intro h
  obtain rfl:=oj h
  exact X7 [.el (X6j false Xa e27),.el (aI .i64 (e27.length:Int)),.go false,.go false,.go false,.go false,.go false,.go false] (k:=wkT [] (X2.glue J))
instance X017:PCs Tryz.prog 16 (∀ (a0:(List (List Xk))) (r:Bool),Xai a0=some r->X0j Tryz.prog 16 [(Lf (List.map (X6j false Xa) a0))] (aB r)):=⟨fun a0 r h=>by
 refine X0j.sym X9 fn16 (nt:=31) rfl rfl ?_ okM
 unfold Xai at h
 revert h
 refine bI fun o32 h33=>rnI [] ?_
 intro h
 refine wkT [] (X2.cut (Xhq a0 _ _ _ h33 ?_ ?_))
 ·
  intro eo32;subst eo32
  refine X2.glue ?_
  try dsimp only at h
  revert h
  exact fun e=>oj e▸X7 [] (k:=fi)
 intro eo32;subst eo32
 refine X2.glue ?_
 try dsimp only at h
 revert h
 exact fun e=>oj e▸X7 [.el (aI .i64 (a0.length:Int))] (k:=fi)⟩
instance X04r:PCs Tryz.prog 104 (∀ (a0:Int) (r:Bool),Xco a0=some r->X0j Tryz.prog 104 [(aI .i64 a0)] (aB r)):=⟨fun a0 r h=>by
 refine X0j.sym X9 X0c3 (nt:=9) rfl rfl ?_ okM
 unfold Xco at h
 revert h
 exact fun e=>oj e▸X7 [] (k:=fi)⟩
theorem Xjf {Q:X01->St->Mu->Prop} {μ:Mu} (X4m:(List Xk)) (hl:X4m.length<=140737488355328):∀ (xs:List Xk) (k:Nat) (hx:X4m.drop k=xs) (o:X7v) (h:X57 X4m xs k  = some o)
  (C0:o=X7v.x0->X2 Tryz.prog 55 0 Q (.exit (.exit 0)) [] ⟨fr [],hp ([]),0⟩ μ)
  (C1:o=X7v.x1->X2 Tryz.prog 55 0 Q (.exit .ret) [] ⟨fr [(2,(aI .i64 8))],hp ([]),0⟩ μ),
  X2 Tryz.prog 55 0 Q (.loop (X30 0 (Xj Tryz.f70))) [] ⟨fr [(10,(Lf (X4m.map Xa))),(11,(aI .i64 (X4m.length:Int))),(12,(aI .i64 (k:Int)))],hp ([]),0⟩ μ:=by
 intro xs
 induction xs with
 |nil =>
  intro k hx  o h C0 C1
  have hk:=drop_nil hx
  have hc:decide ((k:Int)<(X4m.length:Int))=false:=Yf (by omega)
  rw[X57] at h
  refine X2.round ?_
  revert h
  exact fun e=>X7 [Bf] (k:=wkT [] (C0  (oj e).symm))
 |cons x xs ih =>
  intro k hx  o h C0 C1
  obtain⟨hk,hg,hx1⟩:=drop_cons hx
  have hc:decide ((k:Int)<(X4m.length:Int))=true:=Yt (by omega)
  rw[X57] at h
  refine X2.round ?_
  revert h
  refine bI fun X035 h52=>rnI [Bt,.el (Xa x),.stop 6] ?_
  intro h
  refine X2.join (s':=⟨fr [(4,(AV.ptr 0 0 0)),(5,(aB X035)),(10,(Lf (X4m.map Xa))),(11,(aI .i64 (X4m.length:Int))),(12,(aI .i64 (k:Int)))],hp ([(0,Ob [(Xa x)] 5)]),1⟩) ?_ (fun J=>X2.cut ?_)
  ·
   revert h
   refine bI fun X06r h60=>rnI [.stop 7] ?_
   intro h
   refine X2.join (s':=⟨fr [(4,(AV.ptr 0 0 0)),(5,(aB X035)),(6,(aB X06r)),(10,(Lf (X4m.map Xa))),(11,(aI .i64 (X4m.length:Int))),(12,(aI .i64 (k:Int)))],hp ([(0,Ob [(Xa x)] 5)]),1⟩) ?_ (fun J=>X2.cut ?_)
   ·
    revert h
    refine brI (fun h61=>fun e=>X7 [Bt] (k:=wkT [] (C1  (oj e).symm))) fun h61=>rnI [Bf] ?_
    intro h
    exact wkT [] (ih (k+1) hx1  o h C0 C1)
   clear h;revert h60
   refine brI (fun h57=>?_) fun h57=>?_
   ·
    refine bI fun v58 h59=>?_
    intro h
    obtain rfl:=oj h
    exact X7 [.go true,.go true,.go true,.go true,.pure _ (aB v58)] (k:=wkT [] (X2.glue J))
   intro h
   obtain rfl:=oj h
   exact X7 [.go false,.go false,.go false,.go false] (k:=wkT [] (X2.glue J))
  clear h;revert h52
  refine brI (fun h48=>?_) fun h48=>?_
  ·
   refine bI fun v49 h50=>brI (fun h51=>?_) fun h51=>?_
   ·
    intro h
    obtain rfl:=oj h
    exact X7 [.go true,.go true,.go true,.pure _ (aB v49),.go true,.go false,.go false,.go false,.go true] (k:=wkT [] (X2.glue J))
   intro h
   obtain rfl:=oj h
   exact X7 [.go true,.go true,.go true,.pure _ (aB v49),.go true,.go true,.go true,.go true,.go true] (k:=wkT [] (X2.glue J))
  intro h
  obtain rfl:=oj h
  exact X7 [.go false,.go false,.go false,.go false,.go false,.go false,.go false,.go false] (k:=wkT [] (X2.glue J))
instance X030:PCs Tryz.prog 70 (∀ (a0:(List Xk)) (r:Int),X8p a0=some r->X0j Tryz.prog 70 [(Lf (a0.map Xa))] (aI .i64 r)):=⟨fun a0 r h=>by
 refine X0j.sym X9 fn70 (nt:=55) rfl rfl ?_ okM
 unfold X8p at h
 revert h
 refine brI (fun h1=>fun e=>oj e▸X7 [.el (aI .i64 (a0.length:Int)),Bt] (k:=fi)) fun h1=>bI fun u2 h3=>?_
 have qh3:=X09 h3
 refine bI fun o62 h63=>rnI [.el (aI .i64 (a0.length:Int)),Bf,.el (aI .i64 (a0.length:Int))] ?_
 intro h
 refine wkT [] (X2.cut (Xjf a0 qh3 a0 0 (by simp) _ h63 ?_ ?_))
 ·
  intro eo62;subst eo62
  refine X2.glue ?_
  try dsimp only at h
  revert h
  exact fun e=>oj e▸X7 [] (k:=fi)
 intro eo62;subst eo62
 refine X2.glue ?_
 try dsimp only at h
 revert h
 exact fun e=>oj e▸X7 [] (k:=fi)⟩
theorem Xfn {Q:X01->St->Mu->Prop} {μ:Mu} (Xgi:(List (List Xk))) (hl:Xgi.length<=140737488355328):∀ (xs:List (List Xk)) (k:Nat) (hx:Xgi.drop k=xs) (o:X56) (h:X2j Xgi xs k  = some o)
  (C0:o=X56.x0->X2 Tryz.prog 18 0 Q (.exit (.exit 0)) [] ⟨fr [],hp ([]),0⟩ μ)
  (C1:∀ (X4n:Int),o=X56.x1 X4n->X2 Tryz.prog 18 0 Q (.exit .ret) [] ⟨fr [(2,(aI .i64 X4n))],hp ([]),0⟩ μ),
  X2 Tryz.prog 18 0 Q (.loop (X30 0 (Xj Tryz.f44))) [] ⟨fr [(6,(Lf (List.map (X6j false Xa) Xgi))),(7,(aI .i64 (Xgi.length:Int))),(8,(aI .i64 (k:Int)))],hp ([]),0⟩ μ:=by
 intro xs
 induction xs with
 |nil =>
  intro k hx  o h C0 C1
  have hk:=drop_nil hx
  have hc:decide ((k:Int)<(Xgi.length:Int))=false:=Yf (by omega)
  rw[X2j] at h
  refine X2.round ?_
  revert h
  exact fun e=>X7 [Bf] (k:=wkT [] (C0  (oj e).symm))
 |cons x xs ih =>
  intro k hx  o h C0 C1
  obtain⟨hk,hg,hx1⟩:=drop_cons hx
  have hc:decide ((k:Int)<(Xgi.length:Int))=true:=Yt (by omega)
  rw[X2j] at h
  refine X2.round ?_
  revert h
  refine bI fun v10 h11=>brI (fun h12=>fun e=>X7 [Bt,.el (X6j false Xa x),.pure _ (aI .i64 v10),Bt] (k:=wkT [] (C1 _  (oj e).symm))) fun h12=>rnI [Bt,.el (X6j false Xa x),.pure _ (aI .i64 v10),Bf] ?_
  intro h
  exact wkT [] (ih (k+1) hx1  o h C0 C1)
instance Xvt:PCs Tryz.prog 44 (∀ (a0:(List (List Xk))) (r:Int),X5f a0=some r->X0j Tryz.prog 44 [(Lf (List.map (X6j false Xa) a0))] (aI .i64 r)):=⟨fun a0 r h=>by
 refine X0j.sym X9 fn44 (nt:=18) rfl rfl ?_ okM
 unfold X5f at h
 revert h
 refine bI fun u1 h2=>?_
 have qh2:=X09 h2
 refine bI fun o13 h14=>rnI [.el (aI .i64 (a0.length:Int))] ?_
 intro h
 refine wkT [] (X2.cut (Xfn a0 qh2 a0 0 (by simp) _ h14 ?_ ?_))
 ·
  intro eo13;subst eo13
  refine X2.glue ?_
  try dsimp only at h
  revert h
  exact fun e=>oj e▸X7 [] (k:=fi)
 intro X4n eo13;subst eo13
 refine X2.glue ?_
 try dsimp only at h
 revert h
 exact fun e=>oj e▸X7 [] (k:=fi)⟩
theorem Xko {Q:X01->St->Mu->Prop} {μ:Mu} (Xnb:(List Xk)) (hl:Xnb.length<=140737488355328):∀ (xs:List Xk) (k:Nat) (hx:Xnb.drop k=xs) (Xf:Int) (o:Xc0) (h:X60 Xnb xs k Xf=some o)
  (C0:∀ (Xg:Int),o=Xc0.x0 Xg->X2 Tryz.prog 27 0 Q (.exit (.exit 0)) [] ⟨fr [(5,(AV.fn 105 [(AV.ptr 0 0 0)]))],hp ([(0,Ob [(aI .i64 Xg)] 1)]),1⟩ μ),
  X2 Tryz.prog 27 0 Q (.loop (X30 0 (Xj Tryz.f45))) [] ⟨fr [(5,(AV.fn 105 [(AV.ptr 0 0 0)])),(14,(Lf (Xnb.map Xa))),(15,(aI .i64 (Xnb.length:Int))),(16,(aI .i64 (k:Int)))],hp ([(0,Ob [(aI .i64 Xf)] 1)]),1⟩ μ:=by
 intro xs
 induction xs with
 |nil =>
  intro k hx Xf o h C0
  have hk:=drop_nil hx
  have hc:decide ((k:Int)<(Xnb.length:Int))=false:=Yf (by omega)
  rw[X60] at h
  refine X2.round ?_
  revert h
  exact fun e=>X7 [Bf] (k:=wkT [] (C0 _  (oj e).symm))
 |cons x xs ih =>
  intro k hx Xf o h C0
  obtain⟨hk,hg,hx1⟩:=drop_cons hx
  have hc:decide ((k:Int)<(Xnb.length:Int))=true:=Yt (by omega)
  rw[X60] at h
  refine X2.round ?_
  refine X10 [Bt,.el (Xa x)] ?_
  refine X2.inline X9 Xwq rfl rfl rfl rfl rfl trivial trivial rfl rfl ?_
  revert h
  refine bI fun Xzc h30=>rnI [] ?_
  intro h
  refine X2.join (s':=⟨fr [(4,(aI .i64 Xf))],hp ([(0,Ob [(aI .i64 Xzc)] 1)]),2⟩) ?_ (fun J=>X2.cut ?_)
  ·
   refine X10 [] ?_
   refine X2.back (by intro id h;cases h) rfl ?_
   exact X7 [] (k:=wkT [] (ih (k+1) hx1 _ o h C0))
  clear h;revert h30
  refine brI (fun h29=>?_) fun h29=>?_
  ·
   intro h
   obtain rfl:=oj h
   exact X7 [Bt] (k:=wkT [] (X2.glue J))
  intro h
  obtain rfl:=oj h
  exact X7 [Bf] (k:=wkT [] (X2.glue J))
instance X04s:PCs Tryz.prog 45 (∀ (a0:(List Xk)) (r:Int×Int),Xej a0=some r->X0j Tryz.prog 45 [(Lf (a0.map Xa))] (AV.tup [(aI .i64 r.1),(aI .i64 r.2)])):=⟨fun a0 r h=>by
 refine X0j.sym X9 fn45 (nt:=27) rfl rfl ?_ okM
 unfold Xej at h
 revert h
 refine bI fun v1 h2=>brI (fun h3=>fun e=>oj e▸X7 [.pure _ (aI .i64 v1),Bt] (k:=fi)) fun h3=>rnI [.pure _ (aI .i64 v1),Bf] ?_
 intro h
 refine X2.inline X9 fn71 rfl rfl rfl rfl rfl trivial trivial rfl rfl ?_
 refine X10 [] ?_
 refine X2.back (by intro id h;cases h) rfl ?_
 revert h
 refine bI fun u4 h5=>?_
 have qh5:=X09 h5
 refine bI fun o31 h32=>rnI [.el (aI .i64 (a0.length:Int))] ?_
 intro h
 refine wkT [] (X2.cut (Xko a0 qh5 a0 0 (by simp) _ _ h32 ?_))
 intro Xg eo31;subst eo31
 refine X2.glue ?_
 try dsimp only at h
 refine X10 [] ?_
 refine X2.inline X9 Xwq rfl rfl rfl rfl rfl trivial trivial rfl rfl ?_
 refine X10 [Bf] ?_
 refine X2.back (by intro id h;cases h) rfl ?_
 revert h
 exact fun e=>oj e▸X7 [] (k:=fi)⟩
theorem Xg5 {Q:X01->St->Mu->Prop} {μ:Mu} (Xna:(List (List Xk))) (hl:Xna.length<=140737488355328):∀ (xs:List (List Xk)) (k:Nat) (hx:Xna.drop k=xs) (Xif:Int) (o:X5n) (h:X3a Xna xs k Xif=some o)
  (C0:∀ (Xb8:Int),o=X5n.x0 Xb8->X2 Tryz.prog 42 0 Q (.exit (.exit 0)) [] ⟨fr [(5,(aI .i64 Xb8))],hp ([]),0⟩ μ)
  (C1:∀ (Xc9:Int),o=X5n.x1 Xc9->X2 Tryz.prog 42 0 Q (.exit .ret) [] ⟨fr [(2,(aI .i64 0)),(3,(aI .i64 Xc9))],hp ([]),0⟩ μ),
  X2 Tryz.prog 42 0 Q (.loop (X30 0 (Xj Tryz.f17))) [] ⟨fr [(5,(aI .i64 Xif)),(23,(Lf (List.map (X6j false Xa) Xna))),(24,(aI .i64 (Xna.length:Int))),(25,(aI .i64 (k:Int)))],hp ([]),0⟩ μ:=by
 intro xs
 induction xs with
 |nil =>
  intro k hx Xif o h C0 C1
  have hk:=drop_nil hx
  have hc:decide ((k:Int)<(Xna.length:Int))=false:=Yf (by omega)
  rw[X3a] at h
  refine X2.round ?_
  revert h
  exact fun e=>X7 [Bf] (k:=wkT [] (C0 _  (oj e).symm))
 |cons x xs ih =>
  intro k hx Xif o h C0 C1
  obtain⟨hk,hg,hx1⟩:=drop_cons hx
  have hc:decide ((k:Int)<(Xna.length:Int))=true:=Yt (by omega)
  rw[X3a] at h
  refine X2.round ?_
  revert h
  refine bI fun v18 h19=>brI (fun h20=>fun e=>X7 [Bt,.el (X6j false Xa x),.pure _ (AV.tup [(aI .i64 v18.1),(aI .i64 v18.2)]),Bt] (k:=wkT [] (C1 _  (oj e).symm))) fun h20=>rnI [Bt,.el (X6j false Xa x),.pure _ (AV.tup [(aI .i64 v18.1),(aI .i64 v18.2)]),Bf] ?_
  intro h
  exact wkT [] (ih (k+1) hx1 _ o h C0 C1)
instance Xxf:PCs Tryz.prog 17 (∀ (a0:(List (List Xk))) (r:Int×Int),X2u a0=some r->X0j Tryz.prog 17 [(Lf (List.map (X6j false Xa) a0))] (AV.tup [(aI .i64 r.1),(aI .i64 r.2)])):=⟨fun a0 r h=>by
 refine X0j.sym X9 fn17 (nt:=42) rfl rfl ?_ okM
 unfold X2u at h
 revert h
 refine bI fun X074 h4=>rnI [.stop 1] ?_
 intro h
 refine X2.join (s':=⟨fr [(0,(Lf (List.map (X6j false Xa) a0))),(17,(aB X074))],hp ([]),0⟩) ?_ (fun J=>X2.cut ?_)
 ·
  revert h
  refine brI (fun h5=>fun e=>oj e▸X7 [Bt] (k:=fi)) fun h5=>bI fun v6 h7=>brI (fun h8=>fun e=>oj e▸X7 [Bf,.pure _ (aI .i64 v6),Bt] (k:=fi)) fun h8=>bI fun u9 h10=>?_
  have qh10:=X09 h10
  refine bI fun o21 h22=>rnI [Bf,.pure _ (aI .i64 v6),Bf,.el (aI .i64 (a0.length:Int))] ?_
  intro h
  refine wkT [] (X2.cut (Xg5 a0 qh10 a0 0 (by simp) _ _ h22 ?_ ?_))
  ·
   intro Xb8 eo21;subst eo21
   refine X2.glue ?_
   try dsimp only at h
   revert h
   exact fun e=>oj e▸X7 [] (k:=fi)
  intro Xc9 eo21;subst eo21
  refine X2.glue ?_
  try dsimp only at h
  revert h
  exact fun e=>oj e▸X7 [] (k:=fi)
 clear h;revert h4
 refine brI (fun h3=>?_) fun h3=>?_
 ·
  intro h
  obtain rfl:=oj h
  exact X7 [.el (aI .i64 (a0.length:Int)),.go false,.go false,.go false] (k:=wkT [] (X2.glue J))
 intro h
 obtain rfl:=oj h
 exact X7 [.el (aI .i64 (a0.length:Int)),.go true,.go true,.el (aI .i64 (a0.length:Int)),.go true] (k:=wkT [] (X2.glue J))⟩
instance X01c:PCs Tryz.prog 58 (∀ (a0:Int) (a1:Int) (r:Int),X54 a0 a1=some r->X0j Tryz.prog 58 [(aI .i64 a0),(aI .i64 a1)] (aI .i64 r)):=⟨fun a0 a1 r h=>by
 refine X0j.sym X9 fn58 (nt:=17) rfl rfl ?_ okM
 unfold X54 at h
 revert h
 exact brI (fun h1=>fun e=>oj e▸X7 [Bt] (k:=fi)) fun h1=>brI (fun h2=>fun e=>oj e▸X7 [Bf,Bt] (k:=fi)) fun h2=>fun e=>oj e▸X7 [Bf,Bf] (k:=fi)⟩
instance X019:PCs Tryz.prog 34 (∀ (a0:Xk) (r:Bool),Xak a0=some r->X0j Tryz.prog 34 [(Xa a0)] (aB r)):=⟨fun a0 r h=>by
 refine X0j.sym X9 fn34 (nt:=30) rfl rfl ?_ okM
 unfold Xak at h
 revert h
 refine brI (fun h1=>?_) fun h1=>?_
 ·
  refine bI fun j6_2 h11=>rnI [Bt,.stop 2] ?_
  intro h
  refine X2.join (s':=⟨fr [(2,(aB j6_2))],hp ([]),0⟩) ?_ (fun J=>X2.cut ?_)
  ·
   revert h
   exact fun e=>oj e▸X7 [] (k:=fi)
  clear h;revert h11
  refine brI (fun h7=>?_) fun h7=>?_
  ·
   refine brI (fun h8=>?_) fun h8=>?_
   ·
    intro h
    obtain rfl:=oj h
    exact X7 [.go true,.go true,.go true,.go true,.go false,.go false,.go false,.go false,.go true] (k:=wkT [] (X2.glue J))
   refine bI fun v9 h10=>?_
   intro h
   obtain rfl:=oj h
   exact X7 [.go true,.go true,.go true,.go true,.go true,.go true,.go true,.pure _ (aI .i64 v9),.go true,.go true] (k:=wkT [] (X2.glue J))
  intro h
  obtain rfl:=oj h
  exact X7 [.go false,.go false,.go false,.go false,.go false,.go false,.go false,.go false,.go false] (k:=wkT [] (X2.glue J))
 refine bI fun X078 h19=>rnI [Bf,.stop 3] ?_
 intro h
 refine X2.join (s':=⟨fr [(2,(aB X078))],hp ([]),0⟩) ?_ (fun J=>X2.cut ?_)
 ·
  revert h
  exact fun e=>oj e▸X7 [] (k:=fi)
 clear h;revert h19
 refine brI (fun h16=>?_) fun h16=>?_
 ·
  refine bI fun v17 h18=>?_
  intro h
  obtain rfl:=oj h
  exact X7 [.go true,.go true,.go true,.go true,.pure _ (aI .i64 v17),.go true] (k:=wkT [] (X2.glue J))
 intro h
 obtain rfl:=oj h
 exact X7 [.go false,.go false,.go false,.go false,.go false] (k:=wkT [] (X2.glue J))⟩
theorem Xhr {Q:X01->St->Mu->Prop} {μ:Mu} (X07:(List Xk)) (hl:X07.length<=140737488355328):∀ (xs:List Xk) (k:Nat) (hx:X07.drop k=xs) (o:X6r) (h:X4i X07 xs k  = some o)
  (C0:o=X6r.x0->X2 Tryz.prog 19 0 Q (.exit (.exit 0)) [] ⟨fr [],hp ([]),0⟩ μ)
  (C1:o=X6r.x1->X2 Tryz.prog 19 0 Q (.exit .ret) [] ⟨fr [(2,(aI .i64 8))],hp ([]),0⟩ μ),
  X2 Tryz.prog 19 0 Q (.loop (X30 0 (Xj Tryz.f72))) [] ⟨fr [(0,(Lf (X07.map Xa))),(3,(aI .i64 (k:Int)))],hp ([]),0⟩ μ:=by
 intro xs
 induction xs with
 |nil =>
  intro k hx  o h C0 C1
  have hk:=drop_nil hx
  have hc:decide ((k:Int)<(X07.length:Int))=false:=Yf (by omega)
  rw[X4i] at h
  refine X2.round ?_
  revert h
  exact fun e=>X7 [.el (aI .i64 (X07.length:Int)),Bf] (k:=wkT [] (C0  (oj e).symm))
 |cons x xs ih =>
  intro k hx  o h C0 C1
  obtain⟨hk,hg,hx1⟩:=drop_cons hx
  have hc:decide ((k:Int)<(X07.length:Int))=true:=Yt (by omega)
  rw[X4i] at h
  refine X2.round ?_
  revert h
  refine bI fun v11 h12=>brI (fun h13=>fun e=>X7 [.el (aI .i64 (X07.length:Int)),Bt,.el (Xa x),.pure _ (aB v11),Bt] (k:=wkT [] (C1  (oj e).symm))) fun h13=>rnI [.el (aI .i64 (X07.length:Int)),Bt,.el (Xa x),.pure _ (aB v11),Bf] ?_
  intro h
  exact wkT [] (ih (k+1) hx1  o h C0 C1)
instance X01a:PCs Tryz.prog 72 (∀ (a0:(List Xk)) (r:Int),Xal a0=some r->X0j Tryz.prog 72 [(Lf (a0.map Xa))] (aI .i64 r)):=⟨fun a0 r h=>by
 refine X0j.sym X9 fn72 (nt:=19) rfl rfl ?_ okM
 unfold Xal at h
 revert h
 refine brI (fun h1=>fun e=>oj e▸X7 [.el (aI .i64 (a0.length:Int)),Bt] (k:=fi)) fun h1=>bI fun u2 h3=>?_
 have qh3:=X09 h3
 refine bI fun o14 h15=>rnI [.el (aI .i64 (a0.length:Int)),Bf] ?_
 intro h
 refine wkT [] (X2.cut (Xhr a0 qh3 a0 0 (by simp) _ h15 ?_ ?_))
 ·
  intro eo14;subst eo14
  refine X2.glue ?_
  try dsimp only at h
  revert h
  exact fun e=>oj e▸X7 [] (k:=fi)
 intro eo14;subst eo14
 refine X2.glue ?_
 try dsimp only at h
 revert h
 exact fun e=>oj e▸X7 [] (k:=fi)⟩
theorem Xho {Q:X01->St->Mu->Prop} {μ:Mu} (X07:(List (List Xk))) (hl:X07.length<=140737488355328):∀ (xs:List (List Xk)) (k:Nat) (hx:X07.drop k=xs) (o:X6p) (h:X4g X07 xs k  = some o)
  (C0:o=X6p.x0->X2 Tryz.prog 19 0 Q (.exit (.exit 0)) [] ⟨fr [],hp ([]),0⟩ μ)
  (C1:∀ (X4n:Int),o=X6p.x1 X4n->X2 Tryz.prog 19 0 Q (.exit .ret) [] ⟨fr [(2,(aI .i64 X4n))],hp ([]),0⟩ μ),
  X2 Tryz.prog 19 0 Q (.loop (X30 0 (Xj Tryz.f46))) [] ⟨fr [(0,(Lf (List.map (X6j false Xa) X07))),(3,(aI .i64 (k:Int)))],hp ([]),0⟩ μ:=by
 intro xs
 induction xs with
 |nil =>
  intro k hx  o h C0 C1
  have hk:=drop_nil hx
  have hc:decide ((k:Int)<(X07.length:Int))=false:=Yf (by omega)
  rw[X4g] at h
  refine X2.round ?_
  revert h
  exact fun e=>X7 [.el (aI .i64 (X07.length:Int)),Bf] (k:=wkT [] (C0  (oj e).symm))
 |cons x xs ih =>
  intro k hx  o h C0 C1
  obtain⟨hk,hg,hx1⟩:=drop_cons hx
  have hc:decide ((k:Int)<(X07.length:Int))=true:=Yt (by omega)
  rw[X4g] at h
  refine X2.round ?_
  revert h
  refine bI fun v10 h11=>brI (fun h12=>fun e=>X7 [.el (aI .i64 (X07.length:Int)),Bt,.el (X6j false Xa x),.pure _ (aI .i64 v10),Bt] (k:=wkT [] (C1 _  (oj e).symm))) fun h12=>rnI [.el (aI .i64 (X07.length:Int)),Bt,.el (X6j false Xa x),.pure _ (aI .i64 v10),Bf] ?_
  intro h
  exact wkT [] (ih (k+1) hx1  o h C0 C1)
instance X014:PCs Tryz.prog 46 (∀ (a0:(List (List Xk))) (r:Int),X8j a0=some r->X0j Tryz.prog 46 [(Lf (List.map (X6j false Xa) a0))] (aI .i64 r)):=⟨fun a0 r h=>by
 refine X0j.sym X9 fn46 (nt:=19) rfl rfl ?_ okM
 unfold X8j at h
 revert h
 refine bI fun u1 h2=>?_
 have qh2:=X09 h2
 refine bI fun o13 h14=>rnI [] ?_
 intro h
 refine wkT [] (X2.cut (Xho a0 qh2 a0 0 (by simp) _ h14 ?_ ?_))
 ·
  intro eo13;subst eo13
  refine X2.glue ?_
  try dsimp only at h
  revert h
  exact fun e=>oj e▸X7 [] (k:=fi)
 intro X4n eo13;subst eo13
 refine X2.glue ?_
 try dsimp only at h
 revert h
 exact fun e=>oj e▸X7 [] (k:=fi)⟩
theorem Xly {Q:X01->St->Mu->Prop} {μ:Mu} (X07:(List Xk)) (hl:X07.length<=140737488355328):∀ (xs:List Xk) (k:Nat) (hx:X07.drop k=xs) (X9s:Int) (o:Xd5) (h:X70 X07 xs k X9s=some o)
  (C0:∀ (X77:Int),o=Xd5.x0 X77->X2 Tryz.prog 31 0 Q (.exit (.exit 0)) [] ⟨fr [(3,(aI .i64 X77))],hp ([]),0⟩ μ),
  X2 Tryz.prog 31 0 Q (.loop (X30 0 (Xj Tryz.f33))) [] ⟨fr [(0,(Lf (X07.map Xa))),(3,(aI .i64 X9s)),(4,(aI .i64 (k:Int)))],hp ([]),0⟩ μ:=by
 intro xs
 induction xs with
 |nil =>
  intro k hx X9s o h C0
  have hk:=drop_nil hx
  have hc:decide ((k:Int)<(X07.length:Int))=false:=Yf (by omega)
  rw[X70] at h
  refine X2.round ?_
  revert h
  exact fun e=>X7 [.el (aI .i64 (X07.length:Int)),Bf] (k:=wkT [] (C0 _  (oj e).symm))
 |cons x xs ih =>
  intro k hx X9s o h C0
  obtain⟨hk,hg,hx1⟩:=drop_cons hx
  have hc:decide ((k:Int)<(X07.length:Int))=true:=Yt (by omega)
  rw[X70] at h
  refine X2.round ?_
  revert h
  refine bI fun Xzk h23=>rnI [.el (aI .i64 (X07.length:Int)),Bt,.stop 5] ?_
  intro h
  refine X2.join (s':=⟨fr [(0,(Lf (X07.map Xa))),(3,(aI .i64 X9s)),(4,(aI .i64 (k:Int))),(24,(aB Xzk))],hp ([]),0⟩) ?_ (fun J=>X2.cut ?_)
  ·
   revert h
   refine bI fun X077 h27=>rnI [] ?_
   intro h
   refine X2.join (s':=⟨fr [(0,(Lf (X07.map Xa))),(3,(aI .i64 X077)),(4,(aI .i64 (k:Int)))],hp ([]),0⟩) ?_ (fun J=>X2.cut ?_)
   ·
    exact X7 [] (k:=wkT [] (ih (k+1) hx1 _ o h C0))
   clear h;revert h27
   refine brI (fun h26=>?_) fun h26=>?_
   ·
    intro h
    obtain rfl:=oj h
    exact X7 [Bt,.el (Xa x)] (k:=wkT [] (X2.glue J))
   intro h
   obtain rfl:=oj h
   exact X7 [Bf] (k:=wkT [] (X2.glue J))
  clear h;revert h23
  refine brI (fun h22=>?_) fun h22=>?_
  ·
   intro h
   obtain rfl:=oj h
   exact X7 [.el (Xa x),.go true,.go true,.go true,.el (Xa x),.go true,.go true,.go true,.go true] (k:=wkT [] (X2.glue J))
  intro h
  obtain rfl:=oj h
  exact X7 [.el (Xa x),.go false,.go false,.go false,.go false,.go false,.go false,.go false] (k:=wkT [] (X2.glue J))
instance X062:PCs Tryz.prog 33 (∀ (a0:(List Xk)) (r:Int),Xd6 a0=some r->X0j Tryz.prog 33 [(Lf (a0.map Xa))] (aI .i64 r)):=⟨fun a0 r h=>by
 refine X0j.sym X9 fn33 (nt:=31) rfl rfl ?_ okM
 unfold Xd6 at h
 revert h
 refine bI fun u1 h2=>?_
 have qh2:=X09 h2
 refine bI fun o28 h29=>rnI [] ?_
 intro h
 refine wkT [] (X2.cut (Xly a0 qh2 a0 0 (by simp) _ _ h29 ?_))
 intro X77 eo28;subst eo28
 refine X2.glue ?_
 try dsimp only at h
 revert h
 exact fun e=>oj e▸X7 [] (k:=fi)⟩
theorem Xj8 {Q:X01->St->Mu->Prop} {μ:Mu} (X07:(List (List Xk))):∀ (n:Nat) (X9s:Int) (Xr3:Int) (o:Xag) (h:X51 X07 n X9s Xr3=some o)
  (C0:∀ (X77:Int),o=Xag.x0 X77->X2 Tryz.prog 23 0 Q (.exit (.exit 0)) [] ⟨fr [(3,(aI .i64 X77))],hp ([]),0⟩ μ),
  X2 Tryz.prog 23 0 Q (.loop (X30 0 (Xj Tryz.f47))) [] ⟨fr [(0,(Lf (List.map (X6j false Xa) X07))),(3,(aI .i64 X9s)),(4,(aI .i64 Xr3))],hp ([]),0⟩ μ:=by
 intro n
 induction n with
 |zero=>intro X9s Xr3 o h C0;cases h
 |succ n ih =>
  intro X9s Xr3 o h C0
  rw[X51] at h
  refine X2.round ?_
  revert h
  refine brI (fun h16=>?_) fun h16=>fun e=>X7 [.el (aI .i64 (X07.length:Int)),Bf] (k:=wkT [] (C0 _  (oj e).symm))
  refine bI fun e17 h18=>?_
  try have qh18:=Xv h18
  refine bI fun v19 h20=>rnI [.el (aI .i64 (X07.length:Int)),Bt,.el (X6j false Xa e17),.pure _ (aI .i64 v19),.wrap] ?_
  intro h
  exact wkT [] (ih  _ _ o h C0)
instance X02h:PCs Tryz.prog 47 (∀ (a0:(List (List Xk))) (r:Int),X9v a0=some r->X0j Tryz.prog 47 [(Lf (List.map (X6j false Xa) a0))] (aI .i64 r)):=⟨fun a0 r h=>by
 refine X0j.sym X9 fn47 (nt:=23) rfl rfl ?_ okM
 unfold X9v at h
 revert h
 refine bI fun e1 h2=>?_
 try have qh2:=Xv h2
 refine bI fun v3 h4=>bI fun o21 h22=>rnI [.el (X6j false Xa e1),.pure _ (aI .i64 v3)] ?_
 intro h
 refine wkT [] (X2.cut (Xj8 a0 _ _ _ _ h22 ?_))
 intro X77 eo21;subst eo21
 refine X2.glue ?_
 try dsimp only at h
 revert h
 exact fun e=>oj e▸X7 [] (k:=fi)⟩
instance X016:PCs Tryz.prog 18 (∀ (a0:(List (List Xk))) (r:Int×Int),X5x a0=some r->X0j Tryz.prog 18 [(Lf (List.map (X6j false Xa) a0))] (AV.tup [(aI .i64 r.1),(aI .i64 r.2)])):=⟨fun a0 r h=>by
 refine X0j.sym X9 fn18 (nt:=20) rfl rfl ?_ okM
 unfold X5x at h
 revert h
 refine bI fun X075 h4=>rnI [.stop 1] ?_
 intro h
 refine X2.join (s':=⟨fr [(0,(Lf (List.map (X6j false Xa) a0))),(12,(aB X075))],hp ([]),0⟩) ?_ (fun J=>X2.cut ?_)
 ·
  revert h
  exact brI (fun h5=>fun e=>oj e▸X7 [Bt] (k:=fi)) fun h5=>bI fun v6 h7=>brI (fun h8=>fun e=>oj e▸X7 [Bf,.pure _ (aI .i64 v6),Bt] (k:=fi)) fun h8=>bI fun v9 h10=>fun e=>oj e▸X7 [Bf,.pure _ (aI .i64 v6),Bf,.pure _ (aI .i64 v9)] (k:=fi)
 clear h;revert h4
 refine brI (fun h3=>?_) fun h3=>?_
 ·
  intro h
  obtain rfl:=oj h
  exact X7 [.el (aI .i64 (a0.length:Int)),.go false,.go false,.go false] (k:=wkT [] (X2.glue J))
 intro h
 obtain rfl:=oj h
 exact X7 [.el (aI .i64 (a0.length:Int)),.go true,.go true,.el (aI .i64 (a0.length:Int)),.go true] (k:=wkT [] (X2.glue J))⟩
instance X01u:PCs Tryz.prog 198 (∀ (a0:Int) (r:Int×Int),Xau a0=some r->X0j Tryz.prog 198 [(aI .u8 a0)] (AV.tup [(aI .i64 r.1),(aI .i64 r.2)])):=⟨fun a0 r h=>by
 refine X0j.sym X9 X0ao (nt:=25) rfl rfl ?_ okM
 unfold Xau at h
 revert h
 exact brI (fun h1=>fun e=>oj e▸X7 [Bt] (k:=fi)) fun h1=>brI (fun h2=>fun e=>oj e▸X7 [Bf,Bt] (k:=fi)) fun h2=>brI (fun h3=>fun e=>oj e▸X7 [Bf,Bf,Bt] (k:=fi)) fun h3=>fun e=>oj e▸X7 [Bf,Bf,Bf] (k:=fi)⟩
end Go.Av.Tryz