/- Printed by decomp.py: that the program computes the functions. -/
import Derived.Test.YtkjlgmgfhgamlaaGreatDFunZ
import Derived.Test.YtkjlgmgfhgamlaaGreatTabZ
import Derived.Test.YtkjlgmgfhgamlaaGreatDeleteZ
import Derived.Test.YtkjlgmgfhgamlaaGreatInsertZ
set_option linter.all false

namespace Go.Av.Tryz
open Go.Proofs Go.D
set_option maxRecDepth 10000
set_option maxHeartbeats 40000000
theorem tmD:Xap Tryz.prog Xxu.find/\Tryz.prog.follows .mixedOrders=true:=⟨X6,by kernel_rfl⟩
instance tmI:TmD Tryz.prog Xxu.find:=⟨tmD⟩
theorem fn8:X29 Tryz.prog 8 Tryz.f8 (Xb Tryz.f8):=⟨Tryz.func8,by kernel_rfl,rfl⟩
theorem fn11:X29 Tryz.prog 11 Tryz.f11 (Xb Tryz.f11):=⟨Tryz.func11,by kernel_rfl,rfl⟩
theorem fn12:X29 Tryz.prog 12 Tryz.f12 (Xb Tryz.f12):=⟨Tryz.func12,by kernel_rfl,rfl⟩
theorem fn13:X29 Tryz.prog 13 Tryz.f13 (Xb Tryz.f13):=⟨Tryz.func13,by kernel_rfl,rfl⟩
theorem fn16:X29 Tryz.prog 16 Tryz.f16 (Xb Tryz.f16):=⟨Tryz.func16,by kernel_rfl,rfl⟩
theorem fn17:X29 Tryz.prog 17 Tryz.f17 (Xb Tryz.f17):=⟨Tryz.func17,by kernel_rfl,rfl⟩
theorem fn18:X29 Tryz.prog 18 Tryz.f18 (Xb Tryz.f18):=⟨Tryz.func18,by kernel_rfl,rfl⟩
theorem fn27:X29 Tryz.prog 27 Tryz.f27 (Xb Tryz.f27):=⟨Tryz.func27,by kernel_rfl,rfl⟩
theorem fn29:X29 Tryz.prog 29 Tryz.f29 (Xb Tryz.f29):=⟨Tryz.func29,by kernel_rfl,rfl⟩
theorem fn31:X29 Tryz.prog 31 Tryz.f31 (Xb Tryz.f31):=⟨Tryz.func31,by kernel_rfl,rfl⟩
theorem fn33:X29 Tryz.prog 33 Tryz.f33 (Xb Tryz.f33):=⟨Tryz.func33,by kernel_rfl,rfl⟩
theorem fn35:X29 Tryz.prog 35 Tryz.f35 (Xb Tryz.f35):=⟨Tryz.func35,by kernel_rfl,rfl⟩
theorem fn37:X29 Tryz.prog 37 Tryz.f37 (Xb Tryz.f37):=⟨Tryz.func37,by kernel_rfl,rfl⟩
theorem fn38:X29 Tryz.prog 38 Tryz.f38 (Xb Tryz.f38):=⟨Tryz.func38,by kernel_rfl,rfl⟩
theorem fn39:X29 Tryz.prog 39 Tryz.f39 (Xb Tryz.f39):=⟨Tryz.func39,by kernel_rfl,rfl⟩
theorem fn46:X29 Tryz.prog 46 Tryz.f46 (Xb Tryz.f46):=⟨Tryz.func46,by kernel_rfl,rfl⟩
theorem fn47:X29 Tryz.prog 47 Tryz.f47 (Xb Tryz.f47):=⟨Tryz.func47,by kernel_rfl,rfl⟩
theorem fn48:X29 Tryz.prog 48 Tryz.f48 (Xb Tryz.f48):=⟨Tryz.func48,by kernel_rfl,rfl⟩
theorem fn49:X29 Tryz.prog 49 Tryz.f49 (Xb Tryz.f49):=⟨Tryz.func49,by kernel_rfl,rfl⟩
theorem fn58:X29 Tryz.prog 58 Tryz.f58 (Xb Tryz.f58):=⟨Tryz.func58,by kernel_rfl,rfl⟩
theorem fn59:X29 Tryz.prog 59 Tryz.f59 (Xb Tryz.f59):=⟨Tryz.func59,by kernel_rfl,rfl⟩
theorem fn61:X29 Tryz.prog 61 Tryz.f61 (Xb Tryz.f61):=⟨Tryz.func61,by kernel_rfl,rfl⟩
theorem fn62:X29 Tryz.prog 62 Tryz.f62 (Xb Tryz.f62):=⟨Tryz.func62,by kernel_rfl,rfl⟩
theorem fn63:X29 Tryz.prog 63 Tryz.f63 (Xb Tryz.f63):=⟨Tryz.func63,by kernel_rfl,rfl⟩
theorem fn64:X29 Tryz.prog 64 Tryz.f64 (Xb Tryz.f64):=⟨Tryz.func64,by kernel_rfl,rfl⟩
theorem fn65:X29 Tryz.prog 65 Tryz.f65 (Xb Tryz.f65):=⟨Tryz.func65,by kernel_rfl,rfl⟩
theorem fn68:X29 Tryz.prog 68 Tryz.f68 (Xb Tryz.f68):=⟨Tryz.func68,by kernel_rfl,rfl⟩
theorem fn69:X29 Tryz.prog 69 Tryz.f69 (Xb Tryz.f69):=⟨Tryz.func69,by kernel_rfl,rfl⟩
theorem fn70:X29 Tryz.prog 70 Tryz.f70 (Xb Tryz.f70):=⟨Tryz.func70,by kernel_rfl,rfl⟩
theorem fn75:X29 Tryz.prog 75 Tryz.f75 (Xb Tryz.f75):=⟨Tryz.func75,by kernel_rfl,rfl⟩
theorem fn77:X29 Tryz.prog 77 Tryz.f77 (Xb Tryz.f77):=⟨Tryz.func77,by kernel_rfl,rfl⟩
theorem fn78:X29 Tryz.prog 78 Tryz.f78 (Xb Tryz.f78):=⟨Tryz.func78,by kernel_rfl,rfl⟩
theorem fn79:X29 Tryz.prog 79 Tryz.f79 (Xb Tryz.f79):=⟨Tryz.func79,by kernel_rfl,rfl⟩
theorem fn80:X29 Tryz.prog 80 Tryz.f80 (Xb Tryz.f80):=⟨Tryz.func80,by kernel_rfl,rfl⟩
theorem fn81:X29 Tryz.prog 81 Tryz.f81 (Xb Tryz.f81):=⟨Tryz.func81,by kernel_rfl,rfl⟩
theorem fn82:X29 Tryz.prog 82 Tryz.f82 (Xb Tryz.f82):=⟨Tryz.func82,by kernel_rfl,rfl⟩
theorem fn83:X29 Tryz.prog 83 Tryz.f83 (Xb Tryz.f83):=⟨Tryz.func83,by kernel_rfl,rfl⟩
theorem fn84:X29 Tryz.prog 84 Tryz.f84 (Xb Tryz.f84):=⟨Tryz.func84,by kernel_rfl,rfl⟩
theorem fn86:X29 Tryz.prog 86 Tryz.f86 (Xb Tryz.f86):=⟨Tryz.func86,by kernel_rfl,rfl⟩
theorem fn87:X29 Tryz.prog 87 Tryz.f87 (Xb Tryz.f87):=⟨Tryz.func87,by kernel_rfl,rfl⟩
theorem fn94:X29 Tryz.prog 94 Tryz.f94 (Xb Tryz.f94):=⟨Tryz.func94,by kernel_rfl,rfl⟩
theorem fn95:X29 Tryz.prog 95 Tryz.f95 (Xb Tryz.f95):=⟨Tryz.func95,by kernel_rfl,rfl⟩
theorem fn96:X29 Tryz.prog 96 Tryz.f96 (Xb Tryz.f96):=⟨Tryz.func96,by kernel_rfl,rfl⟩
theorem fn97:X29 Tryz.prog 97 Tryz.f97 (Xb Tryz.f97):=⟨Tryz.func97,by kernel_rfl,rfl⟩
theorem fn98:X29 Tryz.prog 98 Tryz.f98 (Xb Tryz.f98):=⟨Tryz.func98,by kernel_rfl,rfl⟩
theorem fn99:X29 Tryz.prog 99 Tryz.f99 (Xb Tryz.f99):=⟨Tryz.func99,by kernel_rfl,rfl⟩
theorem X048:X29 Tryz.prog 100 Tryz.f100 (Xb Tryz.f100):=⟨Tryz.func100,by kernel_rfl,rfl⟩
theorem X047:X29 Tryz.prog 101 Tryz.f101 (Xb Tryz.f101):=⟨Tryz.func101,by kernel_rfl,rfl⟩
theorem X046:X29 Tryz.prog 102 Tryz.f102 (Xb Tryz.f102):=⟨Tryz.func102,by kernel_rfl,rfl⟩
theorem X045:X29 Tryz.prog 103 Tryz.f103 (Xb Tryz.f103):=⟨Tryz.func103,by kernel_rfl,rfl⟩
theorem X01l:X29 Tryz.prog 104 Tryz.f104 (Xb Tryz.f104):=⟨Tryz.func104,by kernel_rfl,rfl⟩
theorem Xwk:X29 Tryz.prog 114 Tryz.f114 (Xb Tryz.f114):=⟨Tryz.func114,by kernel_rfl,rfl⟩
theorem X044:X29 Tryz.prog 115 Tryz.f115 (Xb Tryz.f115):=⟨Tryz.func115,by kernel_rfl,rfl⟩
theorem X043:X29 Tryz.prog 116 Tryz.f116 (Xb Tryz.f116):=⟨Tryz.func116,by kernel_rfl,rfl⟩
theorem X042:X29 Tryz.prog 117 Tryz.f117 (Xb Tryz.f117):=⟨Tryz.func117,by kernel_rfl,rfl⟩
theorem X01k:X29 Tryz.prog 118 Tryz.f118 (Xb Tryz.f118):=⟨Tryz.func118,by kernel_rfl,rfl⟩
theorem X01j:X29 Tryz.prog 119 Tryz.f119 (Xb Tryz.f119):=⟨Tryz.func119,by kernel_rfl,rfl⟩
theorem X041:X29 Tryz.prog 120 Tryz.f120 (Xb Tryz.f120):=⟨Tryz.func120,by kernel_rfl,rfl⟩
theorem Xze:X29 Tryz.prog 121 Tryz.f121 (Xb Tryz.f121):=⟨Tryz.func121,by kernel_rfl,rfl⟩
theorem X040:X29 Tryz.prog 122 Tryz.f122 (Xb Tryz.f122):=⟨Tryz.func122,by kernel_rfl,rfl⟩
theorem X03z:X29 Tryz.prog 123 Tryz.f123 (Xb Tryz.f123):=⟨Tryz.func123,by kernel_rfl,rfl⟩
theorem X03y:X29 Tryz.prog 124 Tryz.f124 (Xb Tryz.f124):=⟨Tryz.func124,by kernel_rfl,rfl⟩
theorem X03x:X29 Tryz.prog 125 Tryz.f125 (Xb Tryz.f125):=⟨Tryz.func125,by kernel_rfl,rfl⟩
theorem Xql:X29 Tryz.prog 126 Tryz.f126 (Xb Tryz.f126):=⟨Tryz.func126,by kernel_rfl,rfl⟩
theorem X03w:X29 Tryz.prog 127 Tryz.f127 (Xb Tryz.f127):=⟨Tryz.func127,by kernel_rfl,rfl⟩
theorem X03v:X29 Tryz.prog 128 Tryz.f128 (Xb Tryz.f128):=⟨Tryz.func128,by kernel_rfl,rfl⟩
theorem X03u:X29 Tryz.prog 129 Tryz.f129 (Xb Tryz.f129):=⟨Tryz.func129,by kernel_rfl,rfl⟩
theorem X03t:X29 Tryz.prog 130 Tryz.f130 (Xb Tryz.f130):=⟨Tryz.func130,by kernel_rfl,rfl⟩
theorem X03s:X29 Tryz.prog 131 Tryz.f131 (Xb Tryz.f131):=⟨Tryz.func131,by kernel_rfl,rfl⟩
theorem X03r:X29 Tryz.prog 132 Tryz.f132 (Xb Tryz.f132):=⟨Tryz.func132,by kernel_rfl,rfl⟩
theorem X03q:X29 Tryz.prog 133 Tryz.f133 (Xb Tryz.f133):=⟨Tryz.func133,by kernel_rfl,rfl⟩
theorem X03p:X29 Tryz.prog 134 Tryz.f134 (Xb Tryz.f134):=⟨Tryz.func134,by kernel_rfl,rfl⟩
theorem X03o:X29 Tryz.prog 135 Tryz.f135 (Xb Tryz.f135):=⟨Tryz.func135,by kernel_rfl,rfl⟩
theorem X01i:X29 Tryz.prog 136 Tryz.f136 (Xb Tryz.f136):=⟨Tryz.func136,by kernel_rfl,rfl⟩
theorem X03n:X29 Tryz.prog 137 Tryz.f137 (Xb Tryz.f137):=⟨Tryz.func137,by kernel_rfl,rfl⟩
theorem X03m:X29 Tryz.prog 138 Tryz.f138 (Xb Tryz.f138):=⟨Tryz.func138,by kernel_rfl,rfl⟩
theorem X03l:X29 Tryz.prog 139 Tryz.f139 (Xb Tryz.f139):=⟨Tryz.func139,by kernel_rfl,rfl⟩
theorem Xwj:X29 Tryz.prog 144 Tryz.f144 (Xb Tryz.f144):=⟨Tryz.func144,by kernel_rfl,rfl⟩
theorem X03k:X29 Tryz.prog 145 Tryz.f145 (Xb Tryz.f145):=⟨Tryz.func145,by kernel_rfl,rfl⟩
theorem X03j:X29 Tryz.prog 146 Tryz.f146 (Xb Tryz.f146):=⟨Tryz.func146,by kernel_rfl,rfl⟩
theorem X01h:X29 Tryz.prog 147 Tryz.f147 (Xb Tryz.f147):=⟨Tryz.func147,by kernel_rfl,rfl⟩
theorem X01g:X29 Tryz.prog 148 Tryz.f148 (Xb Tryz.f148):=⟨Tryz.func148,by kernel_rfl,rfl⟩
theorem X03i:X29 Tryz.prog 150 Tryz.f150 (Xb Tryz.f150):=⟨Tryz.func150,by kernel_rfl,rfl⟩
theorem X03h:X29 Tryz.prog 151 Tryz.f151 (Xb Tryz.f151):=⟨Tryz.func151,by kernel_rfl,rfl⟩
theorem X01f:X29 Tryz.prog 152 Tryz.f152 (Xb Tryz.f152):=⟨Tryz.func152,by kernel_rfl,rfl⟩
theorem X03g:X29 Tryz.prog 155 Tryz.f155 (Xb Tryz.f155):=⟨Tryz.func155,by kernel_rfl,rfl⟩
theorem X03f:X29 Tryz.prog 156 Tryz.f156 (Xb Tryz.f156):=⟨Tryz.func156,by kernel_rfl,rfl⟩
theorem X03e:X29 Tryz.prog 157 Tryz.f157 (Xb Tryz.f157):=⟨Tryz.func157,by kernel_rfl,rfl⟩
theorem X03d:X29 Tryz.prog 158 Tryz.f158 (Xb Tryz.f158):=⟨Tryz.func158,by kernel_rfl,rfl⟩
theorem X03c:X29 Tryz.prog 159 Tryz.f159 (Xb Tryz.f159):=⟨Tryz.func159,by kernel_rfl,rfl⟩
theorem Xwi:X29 Tryz.prog 166 Tryz.f166 (Xb Tryz.f166):=⟨Tryz.func166,by kernel_rfl,rfl⟩
theorem X03b:X29 Tryz.prog 167 Tryz.f167 (Xb Tryz.f167):=⟨Tryz.func167,by kernel_rfl,rfl⟩
theorem X01e:X29 Tryz.prog 168 Tryz.f168 (Xb Tryz.f168):=⟨Tryz.func168,by kernel_rfl,rfl⟩
theorem X03a:X29 Tryz.prog 169 Tryz.f169 (Xb Tryz.f169):=⟨Tryz.func169,by kernel_rfl,rfl⟩
theorem X039:X29 Tryz.prog 170 Tryz.f170 (Xb Tryz.f170):=⟨Tryz.func170,by kernel_rfl,rfl⟩
theorem X01d:X29 Tryz.prog 171 Tryz.f171 (Xb Tryz.f171):=⟨Tryz.func171,by kernel_rfl,rfl⟩
theorem X038:X29 Tryz.prog 173 Tryz.f173 (Xb Tryz.f173):=⟨Tryz.func173,by kernel_rfl,rfl⟩
theorem X037:X29 Tryz.prog 174 Tryz.f174 (Xb Tryz.f174):=⟨Tryz.func174,by kernel_rfl,rfl⟩
theorem X036:X29 Tryz.prog 175 Tryz.f175 (Xb Tryz.f175):=⟨Tryz.func175,by kernel_rfl,rfl⟩
theorem X035:X29 Tryz.prog 176 Tryz.f176 (Xb Tryz.f176):=⟨Tryz.func176,by kernel_rfl,rfl⟩
theorem X034:X29 Tryz.prog 177 Tryz.f177 (Xb Tryz.f177):=⟨Tryz.func177,by kernel_rfl,rfl⟩
theorem X033:X29 Tryz.prog 178 Tryz.f178 (Xb Tryz.f178):=⟨Tryz.func178,by kernel_rfl,rfl⟩
theorem X032:X29 Tryz.prog 179 Tryz.f179 (Xb Tryz.f179):=⟨Tryz.func179,by kernel_rfl,rfl⟩
theorem X031:X29 Tryz.prog 180 Tryz.f180 (Xb Tryz.f180):=⟨Tryz.func180,by kernel_rfl,rfl⟩
theorem X030:X29 Tryz.prog 181 Tryz.f181 (Xb Tryz.f181):=⟨Tryz.func181,by kernel_rfl,rfl⟩
theorem X01c:X29 Tryz.prog 185 Tryz.f185 (Xb Tryz.f185):=⟨Tryz.func185,by kernel_rfl,rfl⟩
theorem X02z:X29 Tryz.prog 194 Tryz.f194 (Xb Tryz.f194):=⟨Tryz.func194,by kernel_rfl,rfl⟩
theorem X02y:X29 Tryz.prog 196 Tryz.f196 (Xb Tryz.f196):=⟨Tryz.func196,by kernel_rfl,rfl⟩
theorem X02x:X29 Tryz.prog 197 Tryz.f197 (Xb Tryz.f197):=⟨Tryz.func197,by kernel_rfl,rfl⟩
theorem X02w:X29 Tryz.prog 198 Tryz.f198 (Xb Tryz.f198):=⟨Tryz.func198,by kernel_rfl,rfl⟩
theorem X02v:X29 Tryz.prog 199 Tryz.f199 (Xb Tryz.f199):=⟨Tryz.func199,by kernel_rfl,rfl⟩
theorem X02u:X29 Tryz.prog 210 Tryz.f210 (Xb Tryz.f210):=⟨Tryz.func210,by kernel_rfl,rfl⟩
theorem Xwh:X29 Tryz.prog 211 Tryz.f211 (Xb Tryz.f211):=⟨Tryz.func211,by kernel_rfl,rfl⟩
theorem Xiw:X29 Tryz.prog 212 Tryz.f212 (Xb Tryz.f212):=⟨Tryz.func212,by kernel_rfl,rfl⟩
instance Xvv:PCs Tryz.prog 46 (∀ (r:X03),Xev=some r->X0g Tryz.prog 46 [] (Xu true r)):=⟨fun r h=>by
 refine X0g.sym X6 fn46 (nt:=6) rfl rfl ?_ okM
 unfold Xev at h
 revert h
 exact fun e=>oj e▸X8 [] (k:=fi)⟩
instance Xxf:PCs Tryz.prog 47 (∀ (a0:Int) (a1:Int) (a2:Int) (r:Xg),Xdv a0 a1 a2=some r->X0g Tryz.prog 47 [(aI .i64 a0),(aI .i64 a1),(aI .i64 a2)] (Xn r)):=⟨fun a0 a1 a2 r h=>by
 refine X0g.sym X6 fn47 (nt:=12) rfl rfl ?_ okM
 unfold Xdv at h
 revert h
 exact fun e=>oj e▸X8 [] (k:=fi)⟩
instance Xvx:PCs Tryz.prog 16 (∀ (a0:Int) (r:Xg),Xex a0=some r->X0g Tryz.prog 16 [(aI .i64 a0)] (Xn r)):=⟨fun a0 r h=>by
 refine X0g.sym X6 fn16 (nt:=5) rfl rfl ?_ okM
 unfold Xex at h
 revert h
 exact fun e=>oj e▸X8 [] (k:=fi)⟩
instance Xxc:PCs Tryz.prog 75 (∀ (a0:Int) (r:(List Int)×Int),Xhh a0=some r->X0g Tryz.prog 75 [(aI .i64 a0)] (AV.tup [(AV.list true (List.map (aI .i64) r.1)),(aI .i64 r.2)])):=⟨fun a0 r h=>by
 refine X0g.sym X6 fn75 (nt:=13) rfl rfl ?_ okM
 unfold Xhh at h
 revert h
 refine brI (fun h1=>fun e=>oj e▸X8 [Bt] (k:=fi)) fun h1=>?_
 refine brI (fun h2=>?_) fun h2=>?_
 ·
  intro h
  obtain rfl:a0=1:=eq_of_beq h2
  refine X0c [Bf] (o:=by repeat' first|apply Ya|exact pcM|(decide +kernel)|exact X07) ?_
  refine X3.inline X6 Xwk rfl rfl rfl rfl rfl trivial trivial rfl rfl ?_
  refine X0c [Bf,.wrap,.wrap] (o:=by repeat' first|apply Ya|exact pcM|(decide +kernel)|exact X07) ?_
  refine X3.inline X6 Xwj rfl rfl rfl rfl rfl trivial trivial rfl rfl ?_
  refine X0c [Bf] (o:=by repeat' first|apply Ya|exact pcM|(decide +kernel)|exact X07) ?_
  refine X3.inline X6 Xwi rfl rfl rfl rfl rfl trivial trivial rfl rfl ?_
  refine X0c [] (o:=by repeat' first|apply Ya|exact pcM|(decide +kernel)|exact X07) ?_
  refine X3.back (by intro id h;cases h) rfl ?_
  refine X0c [] (o:=by repeat' first|apply Ya|exact pcM|(decide +kernel)|exact X07) ?_
  refine X3.back (by intro id h;cases h) rfl ?_
  refine X0c [.go true,.go true,Bf,.wrap] (o:=by repeat' first|apply Ya|exact pcM|(decide +kernel)|exact((show((8:Nat):Int)*1<=281474976710656 by decide))|exact X07) ?_
  refine X3.copyS [(aI .i64 (-9223372036854775808))] 1 X6 rfl rfl rfl rfl trivial rfl rfl rfl trivial (.ref rfl (by decide)) rfl rfl rfl rfl rfl rfl rfl rfl ?_
  refine X0c [] (o:=by repeat' first|apply Ya|exact pcM|(decide +kernel)|exact X07) ?_
  refine X3.round ?_
  refine X0c [Bf] (o:=by repeat' first|apply Ya|exact pcM|(decide +kernel)|exact X07) ?_
  refine X3.back (by intro id h;cases h) rfl ?_
  revert h
  exact fun e=>oj e▸X8 [] (o:=by repeat' first|apply Ya|exact pcM|(decide +kernel)|exact X07) (k:=fi)
 refine brI (fun h3=>?_) fun h3=>?_
 ·
  intro h
  obtain rfl:a0=2:=eq_of_beq h3
  refine X0c [Bf] (o:=by repeat' first|apply Ya|exact pcM|(decide +kernel)|exact X07) ?_
  refine X3.inline X6 Xwk rfl rfl rfl rfl rfl trivial trivial rfl rfl ?_
  refine X0c [Bf,.wrap,.wrap] (o:=by repeat' first|apply Ya|exact pcM|(decide +kernel)|exact X07) ?_
  refine X3.inline X6 Xwj rfl rfl rfl rfl rfl trivial trivial rfl rfl ?_
  refine X0c [Bf] (o:=by repeat' first|apply Ya|exact pcM|(decide +kernel)|exact X07) ?_
  refine X3.inline X6 Xwi rfl rfl rfl rfl rfl trivial trivial rfl rfl ?_
  refine X0c [] (o:=by repeat' first|apply Ya|exact pcM|(decide +kernel)|exact X07) ?_
  refine X3.back (by intro id h;cases h) rfl ?_
  refine X0c [] (o:=by repeat' first|apply Ya|exact pcM|(decide +kernel)|exact X07) ?_
  refine X3.back (by intro id h;cases h) rfl ?_
  refine X0c [.go true,.go true,Bf,.wrap] (o:=by repeat' first|apply Ya|exact pcM|(decide +kernel)|exact((show((8:Nat):Int)*2<=281474976710656 by decide))|exact X07) ?_
  refine X3.copyS [(aI .i64 (-9223372036854775808)),(aI .i64 0)] 1 X6 rfl rfl rfl rfl trivial rfl rfl rfl trivial (.ref rfl (by decide)) rfl rfl rfl rfl rfl rfl rfl rfl ?_
  refine X0c [] (o:=by repeat' first|apply Ya|exact pcM|(decide +kernel)|exact X07) ?_
  refine X3.round ?_
  refine X0c [Bt,.stop 9] (o:=by repeat' first|apply Ya|exact pcM|(decide +kernel)|exact X07) ?_
  refine X3.drawnCutF 7 tmD [] rfl rfl rfl rfl rfl rfl rfl (by decide) rfl rfl rfl (by decide) (by decide) (by decide) (by decide) rfl rfl rfl rfl rfl rfl rfl (by repeat' first|apply Ya|exact pcM|(decide +kernel)|exact X07) ?_
  refine X0c [] (o:=by repeat' first|apply Ya|exact pcM|(decide +kernel)|exact X07) ?_
  refine X3.copyS [(aI .i64 (-9223372036854775808)),(aI .i64 (-9223372036854775808))] 1 X6 rfl rfl rfl rfl trivial rfl rfl rfl trivial (.ref rfl (by decide)) rfl rfl rfl rfl rfl rfl rfl rfl ?_
  refine X0c [] (o:=by repeat' first|apply Ya|exact pcM|(decide +kernel)|exact X07) ?_
  refine X3.round ?_
  refine X0c [Bf] (o:=by repeat' first|apply Ya|exact pcM|(decide +kernel)|exact X07) ?_
  refine X3.back (by intro id h;cases h) rfl ?_
  revert h
  exact fun e=>oj e▸X8 [] (o:=by repeat' first|apply Ya|exact pcM|(decide +kernel)|exact X07) (k:=fi)
 refine brI (fun h4=>?_) fun h4=>?_
 ·
  intro h
  obtain rfl:a0=3:=eq_of_beq h4
  refine X0c [Bf] (o:=by repeat' first|apply Ya|exact pcM|(decide +kernel)|exact X07) ?_
  refine X3.inline X6 Xwk rfl rfl rfl rfl rfl trivial trivial rfl rfl ?_
  refine X0c [Bf,.wrap,.wrap] (o:=by repeat' first|apply Ya|exact pcM|(decide +kernel)|exact X07) ?_
  refine X3.inline X6 Xwj rfl rfl rfl rfl rfl trivial trivial rfl rfl ?_
  refine X0c [Bf] (o:=by repeat' first|apply Ya|exact pcM|(decide +kernel)|exact X07) ?_
  refine X3.inline X6 Xwi rfl rfl rfl rfl rfl trivial trivial rfl rfl ?_
  refine X0c [] (o:=by repeat' first|apply Ya|exact pcM|(decide +kernel)|exact X07) ?_
  refine X3.back (by intro id h;cases h) rfl ?_
  refine X0c [] (o:=by repeat' first|apply Ya|exact pcM|(decide +kernel)|exact X07) ?_
  refine X3.back (by intro id h;cases h) rfl ?_
  refine X0c [.go true,.go true,Bf,.wrap] (o:=by repeat' first|apply Ya|exact pcM|(decide +kernel)|exact((show((8:Nat):Int)*3<=281474976710656 by decide))|exact X07) ?_
  refine X3.copyS [(aI .i64 (-9223372036854775808)),(aI .i64 0),(aI .i64 0)] 1 X6 rfl rfl rfl rfl trivial rfl rfl rfl trivial (.ref rfl (by decide)) rfl rfl rfl rfl rfl rfl rfl rfl ?_
  refine X0c [] (o:=by repeat' first|apply Ya|exact pcM|(decide +kernel)|exact X07) ?_
  refine X3.round ?_
  refine X0c [Bt,.stop 9] (o:=by repeat' first|apply Ya|exact pcM|(decide +kernel)|exact X07) ?_
  refine X3.drawnCutF 7 tmD [] rfl rfl rfl rfl rfl rfl rfl (by decide) rfl rfl rfl (by decide) (by decide) (by decide) (by decide) rfl rfl rfl rfl rfl rfl rfl (by repeat' first|apply Ya|exact pcM|(decide +kernel)|exact X07) ?_
  refine X0c [] (o:=by repeat' first|apply Ya|exact pcM|(decide +kernel)|exact X07) ?_
  refine X3.copyS [(aI .i64 (-9223372036854775808)),(aI .i64 (-9223372036854775808)),(aI .i64 0)] 1 X6 rfl rfl rfl rfl trivial rfl rfl rfl trivial (.ref rfl (by decide)) rfl rfl rfl rfl rfl rfl rfl rfl ?_
  refine X0c [] (o:=by repeat' first|apply Ya|exact pcM|(decide +kernel)|exact X07) ?_
  refine X3.round ?_
  refine X0c [Bt,.stop 9] (o:=by repeat' first|apply Ya|exact pcM|(decide +kernel)|exact X07) ?_
  refine X3.drawnCutF 7 tmD [] rfl rfl rfl rfl rfl rfl rfl (by decide) rfl rfl rfl (by decide) (by decide) (by decide) (by decide) rfl rfl rfl rfl rfl rfl rfl (by repeat' first|apply Ya|exact pcM|(decide +kernel)|exact X07) ?_
  refine X0c [] (o:=by repeat' first|apply Ya|exact pcM|(decide +kernel)|exact X07) ?_
  refine X3.copyS [(aI .i64 (-9223372036854775808)),(aI .i64 (-9223372036854775808)),(aI .i64 (-9223372036854775808))] 1 X6 rfl rfl rfl rfl trivial rfl rfl rfl trivial (.ref rfl (by decide)) rfl rfl rfl rfl rfl rfl rfl rfl ?_
  refine X0c [] (o:=by repeat' first|apply Ya|exact pcM|(decide +kernel)|exact X07) ?_
  refine X3.round ?_
  refine X0c [Bf] (o:=by repeat' first|apply Ya|exact pcM|(decide +kernel)|exact X07) ?_
  refine X3.back (by intro id h;cases h) rfl ?_
  revert h
  exact fun e=>oj e▸X8 [] (o:=by repeat' first|apply Ya|exact pcM|(decide +kernel)|exact X07) (k:=fi)
 refine brI (fun h5=>?_) fun h5=>?_
 ·
  intro h
  obtain rfl:a0=4:=eq_of_beq h5
  refine X0c [Bf] (o:=by repeat' first|apply Ya|exact pcM|(decide +kernel)|exact X07) ?_
  refine X3.inline X6 Xwk rfl rfl rfl rfl rfl trivial trivial rfl rfl ?_
  refine X0c [Bf,.wrap,.wrap] (o:=by repeat' first|apply Ya|exact pcM|(decide +kernel)|exact X07) ?_
  refine X3.inline X6 Xwj rfl rfl rfl rfl rfl trivial trivial rfl rfl ?_
  refine X0c [Bf] (o:=by repeat' first|apply Ya|exact pcM|(decide +kernel)|exact X07) ?_
  refine X3.inline X6 Xwi rfl rfl rfl rfl rfl trivial trivial rfl rfl ?_
  refine X0c [] (o:=by repeat' first|apply Ya|exact pcM|(decide +kernel)|exact X07) ?_
  refine X3.back (by intro id h;cases h) rfl ?_
  refine X0c [] (o:=by repeat' first|apply Ya|exact pcM|(decide +kernel)|exact X07) ?_
  refine X3.back (by intro id h;cases h) rfl ?_
  refine X0c [.go true,.go true,Bf,.wrap] (o:=by repeat' first|apply Ya|exact pcM|(decide +kernel)|exact((show((8:Nat):Int)*4<=281474976710656 by decide))|exact X07) ?_
  refine X3.copyS [(aI .i64 (-9223372036854775808)),(aI .i64 0),(aI .i64 0),(aI .i64 0)] 1 X6 rfl rfl rfl rfl trivial rfl rfl rfl trivial (.ref rfl (by decide)) rfl rfl rfl rfl rfl rfl rfl rfl ?_
  refine X0c [] (o:=by repeat' first|apply Ya|exact pcM|(decide +kernel)|exact X07) ?_
  refine X3.round ?_
  refine X0c [Bt,.stop 9] (o:=by repeat' first|apply Ya|exact pcM|(decide +kernel)|exact X07) ?_
  refine X3.drawnCutF 7 tmD [] rfl rfl rfl rfl rfl rfl rfl (by decide) rfl rfl rfl (by decide) (by decide) (by decide) (by decide) rfl rfl rfl rfl rfl rfl rfl (by repeat' first|apply Ya|exact pcM|(decide +kernel)|exact X07) ?_
  refine X0c [] (o:=by repeat' first|apply Ya|exact pcM|(decide +kernel)|exact X07) ?_
  refine X3.copyS [(aI .i64 (-9223372036854775808)),(aI .i64 (-9223372036854775808)),(aI .i64 0),(aI .i64 0)] 1 X6 rfl rfl rfl rfl trivial rfl rfl rfl trivial (.ref rfl (by decide)) rfl rfl rfl rfl rfl rfl rfl rfl ?_
  refine X0c [] (o:=by repeat' first|apply Ya|exact pcM|(decide +kernel)|exact X07) ?_
  refine X3.round ?_
  refine X0c [Bt,.stop 9] (o:=by repeat' first|apply Ya|exact pcM|(decide +kernel)|exact X07) ?_
  refine X3.drawnCutF 7 tmD [] rfl rfl rfl rfl rfl rfl rfl (by decide) rfl rfl rfl (by decide) (by decide) (by decide) (by decide) rfl rfl rfl rfl rfl rfl rfl (by repeat' first|apply Ya|exact pcM|(decide +kernel)|exact X07) ?_
  refine X0c [] (o:=by repeat' first|apply Ya|exact pcM|(decide +kernel)|exact X07) ?_
  refine X3.copyS [(aI .i64 (-9223372036854775808)),(aI .i64 (-9223372036854775808)),(aI .i64 (-9223372036854775808)),(aI .i64 (-9223372036854775808))] 2 X6 rfl rfl rfl rfl trivial rfl rfl rfl trivial (.ref rfl (by decide)) rfl rfl rfl rfl rfl rfl rfl rfl ?_
  refine X0c [] (o:=by repeat' first|apply Ya|exact pcM|(decide +kernel)|exact X07) ?_
  refine X3.round ?_
  refine X0c [Bf] (o:=by repeat' first|apply Ya|exact pcM|(decide +kernel)|exact X07) ?_
  refine X3.back (by intro id h;cases h) rfl ?_
  revert h
  exact fun e=>oj e▸X8 [] (o:=by repeat' first|apply Ya|exact pcM|(decide +kernel)|exact X07) (k:=fi)
 intro h
 cases h⟩
instance Xyp:PCs Tryz.prog 33 (∀ (a0:Int) (r:X08×Int),Xdz a0=some r->X0g Tryz.prog 33 [(aI .i64 a0)] (AV.tup [(Xe true r.1),(aI .i64 r.2)])):=⟨fun a0 r h=>by
 refine X0g.sym X6 fn33 (nt:=21) rfl rfl ?_ okM
 unfold Xdz at h
 revert h
 exact brI (fun h1=>fun e=>oj e▸X8 [Bt] (k:=fi)) fun h1=>bI fun v2 h3=>fun e=>oj e▸X8 [Bf,.pure _ (AV.tup [(AV.list true (List.map (aI .i64) v2.1)),(aI .i64 v2.2)])] (k:=fi)⟩
instance Xuo:PCs Tryz.prog 210 (∀ (a0:Int) (r:Int×Int),X9d a0=some r->X0g Tryz.prog 210 [(aI .u8 a0)] (AV.tup [(aI .i64 r.1),(aI .i64 r.2)])):=⟨fun a0 r h=>by
 refine X0g.sym X6 X02u (nt:=25) rfl rfl ?_ okM
 unfold X9d at h
 revert h
 exact brI (fun h1=>fun e=>oj e▸X8 [Bt] (k:=fi)) fun h1=>brI (fun h2=>fun e=>oj e▸X8 [Bf,Bt] (k:=fi)) fun h2=>brI (fun h3=>fun e=>oj e▸X8 [Bf,Bf,Bt] (k:=fi)) fun h3=>fun e=>oj e▸X8 [Bf,Bf,Bf] (k:=fi)⟩
end Go.Av.Tryz