/- Printed by decomp.py: that the program computes the functions. -/
import Derived.Test.YtkjlgmgfhgamlaaGreatDFunZ
import Derived.Test.YtkjlgmgfhgamlaaGreatTabZ
import Derived.Test.YtkjlgmgfhgamlaaGreatDeleteZ
import Derived.Test.YtkjlgmgfhgamlaaGreatInsertZ
set_option linter.all false

namespace Go.Av.Tryz
open Go.Proofs Go.D
set_option maxRecDepth 10000
set_option maxHeartbeats 40000000
theorem tmD:Xan Tryz.prog Xxp.find/\Tryz.prog.follows .mixedOrders=true:=⟨X6,by kernel_rfl⟩
instance tmI:TmD Tryz.prog Xxp.find:=⟨tmD⟩
theorem fn3:X2b Tryz.prog 3 Tryz.f3 (Xi Tryz.f3):=⟨Tryz.func3,by kernel_rfl,rfl⟩
theorem fn11:X2b Tryz.prog 11 Tryz.f11 (Xi Tryz.f11):=⟨Tryz.func11,by kernel_rfl,rfl⟩
theorem fn12:X2b Tryz.prog 12 Tryz.f12 (Xi Tryz.f12):=⟨Tryz.func12,by kernel_rfl,rfl⟩
theorem fn13:X2b Tryz.prog 13 Tryz.f13 (Xi Tryz.f13):=⟨Tryz.func13,by kernel_rfl,rfl⟩
theorem fn14:X2b Tryz.prog 14 Tryz.f14 (Xi Tryz.f14):=⟨Tryz.func14,by kernel_rfl,rfl⟩
theorem fn15:X2b Tryz.prog 15 Tryz.f15 (Xi Tryz.f15):=⟨Tryz.func15,by kernel_rfl,rfl⟩
theorem fn16:X2b Tryz.prog 16 Tryz.f16 (Xi Tryz.f16):=⟨Tryz.func16,by kernel_rfl,rfl⟩
theorem fn17:X2b Tryz.prog 17 Tryz.f17 (Xi Tryz.f17):=⟨Tryz.func17,by kernel_rfl,rfl⟩
theorem fn18:X2b Tryz.prog 18 Tryz.f18 (Xi Tryz.f18):=⟨Tryz.func18,by kernel_rfl,rfl⟩
theorem fn27:X2b Tryz.prog 27 Tryz.f27 (Xi Tryz.f27):=⟨Tryz.func27,by kernel_rfl,rfl⟩
theorem fn29:X2b Tryz.prog 29 Tryz.f29 (Xi Tryz.f29):=⟨Tryz.func29,by kernel_rfl,rfl⟩
theorem fn31:X2b Tryz.prog 31 Tryz.f31 (Xi Tryz.f31):=⟨Tryz.func31,by kernel_rfl,rfl⟩
theorem fn33:X2b Tryz.prog 33 Tryz.f33 (Xi Tryz.f33):=⟨Tryz.func33,by kernel_rfl,rfl⟩
theorem fn37:X2b Tryz.prog 37 Tryz.f37 (Xi Tryz.f37):=⟨Tryz.func37,by kernel_rfl,rfl⟩
theorem fn46:X2b Tryz.prog 46 Tryz.f46 (Xi Tryz.f46):=⟨Tryz.func46,by kernel_rfl,rfl⟩
theorem fn47:X2b Tryz.prog 47 Tryz.f47 (Xi Tryz.f47):=⟨Tryz.func47,by kernel_rfl,rfl⟩
theorem fn48:X2b Tryz.prog 48 Tryz.f48 (Xi Tryz.f48):=⟨Tryz.func48,by kernel_rfl,rfl⟩
theorem fn49:X2b Tryz.prog 49 Tryz.f49 (Xi Tryz.f49):=⟨Tryz.func49,by kernel_rfl,rfl⟩
theorem fn58:X2b Tryz.prog 58 Tryz.f58 (Xi Tryz.f58):=⟨Tryz.func58,by kernel_rfl,rfl⟩
theorem fn59:X2b Tryz.prog 59 Tryz.f59 (Xi Tryz.f59):=⟨Tryz.func59,by kernel_rfl,rfl⟩
theorem fn61:X2b Tryz.prog 61 Tryz.f61 (Xi Tryz.f61):=⟨Tryz.func61,by kernel_rfl,rfl⟩
theorem fn62:X2b Tryz.prog 62 Tryz.f62 (Xi Tryz.f62):=⟨Tryz.func62,by kernel_rfl,rfl⟩
theorem fn63:X2b Tryz.prog 63 Tryz.f63 (Xi Tryz.f63):=⟨Tryz.func63,by kernel_rfl,rfl⟩
theorem fn64:X2b Tryz.prog 64 Tryz.f64 (Xi Tryz.f64):=⟨Tryz.func64,by kernel_rfl,rfl⟩
theorem fn65:X2b Tryz.prog 65 Tryz.f65 (Xi Tryz.f65):=⟨Tryz.func65,by kernel_rfl,rfl⟩
theorem fn68:X2b Tryz.prog 68 Tryz.f68 (Xi Tryz.f68):=⟨Tryz.func68,by kernel_rfl,rfl⟩
theorem fn69:X2b Tryz.prog 69 Tryz.f69 (Xi Tryz.f69):=⟨Tryz.func69,by kernel_rfl,rfl⟩
theorem fn70:X2b Tryz.prog 70 Tryz.f70 (Xi Tryz.f70):=⟨Tryz.func70,by kernel_rfl,rfl⟩
theorem fn75:X2b Tryz.prog 75 Tryz.f75 (Xi Tryz.f75):=⟨Tryz.func75,by kernel_rfl,rfl⟩
theorem fn77:X2b Tryz.prog 77 Tryz.f77 (Xi Tryz.f77):=⟨Tryz.func77,by kernel_rfl,rfl⟩
theorem fn78:X2b Tryz.prog 78 Tryz.f78 (Xi Tryz.f78):=⟨Tryz.func78,by kernel_rfl,rfl⟩
theorem fn79:X2b Tryz.prog 79 Tryz.f79 (Xi Tryz.f79):=⟨Tryz.func79,by kernel_rfl,rfl⟩
theorem fn80:X2b Tryz.prog 80 Tryz.f80 (Xi Tryz.f80):=⟨Tryz.func80,by kernel_rfl,rfl⟩
theorem fn81:X2b Tryz.prog 81 Tryz.f81 (Xi Tryz.f81):=⟨Tryz.func81,by kernel_rfl,rfl⟩
theorem fn82:X2b Tryz.prog 82 Tryz.f82 (Xi Tryz.f82):=⟨Tryz.func82,by kernel_rfl,rfl⟩
theorem fn83:X2b Tryz.prog 83 Tryz.f83 (Xi Tryz.f83):=⟨Tryz.func83,by kernel_rfl,rfl⟩
theorem fn84:X2b Tryz.prog 84 Tryz.f84 (Xi Tryz.f84):=⟨Tryz.func84,by kernel_rfl,rfl⟩
theorem fn86:X2b Tryz.prog 86 Tryz.f86 (Xi Tryz.f86):=⟨Tryz.func86,by kernel_rfl,rfl⟩
theorem fn87:X2b Tryz.prog 87 Tryz.f87 (Xi Tryz.f87):=⟨Tryz.func87,by kernel_rfl,rfl⟩
theorem fn94:X2b Tryz.prog 94 Tryz.f94 (Xi Tryz.f94):=⟨Tryz.func94,by kernel_rfl,rfl⟩
theorem fn95:X2b Tryz.prog 95 Tryz.f95 (Xi Tryz.f95):=⟨Tryz.func95,by kernel_rfl,rfl⟩
theorem fn96:X2b Tryz.prog 96 Tryz.f96 (Xi Tryz.f96):=⟨Tryz.func96,by kernel_rfl,rfl⟩
theorem fn97:X2b Tryz.prog 97 Tryz.f97 (Xi Tryz.f97):=⟨Tryz.func97,by kernel_rfl,rfl⟩
theorem fn98:X2b Tryz.prog 98 Tryz.f98 (Xi Tryz.f98):=⟨Tryz.func98,by kernel_rfl,rfl⟩
theorem fn99:X2b Tryz.prog 99 Tryz.f99 (Xi Tryz.f99):=⟨Tryz.func99,by kernel_rfl,rfl⟩
theorem X04c:X2b Tryz.prog 100 Tryz.f100 (Xi Tryz.f100):=⟨Tryz.func100,by kernel_rfl,rfl⟩
theorem X04b:X2b Tryz.prog 101 Tryz.f101 (Xi Tryz.f101):=⟨Tryz.func101,by kernel_rfl,rfl⟩
theorem X04a:X2b Tryz.prog 102 Tryz.f102 (Xi Tryz.f102):=⟨Tryz.func102,by kernel_rfl,rfl⟩
theorem X049:X2b Tryz.prog 103 Tryz.f103 (Xi Tryz.f103):=⟨Tryz.func103,by kernel_rfl,rfl⟩
theorem X01o:X2b Tryz.prog 104 Tryz.f104 (Xi Tryz.f104):=⟨Tryz.func104,by kernel_rfl,rfl⟩
theorem Xwg:X2b Tryz.prog 114 Tryz.f114 (Xi Tryz.f114):=⟨Tryz.func114,by kernel_rfl,rfl⟩
theorem X048:X2b Tryz.prog 115 Tryz.f115 (Xi Tryz.f115):=⟨Tryz.func115,by kernel_rfl,rfl⟩
theorem X047:X2b Tryz.prog 116 Tryz.f116 (Xi Tryz.f116):=⟨Tryz.func116,by kernel_rfl,rfl⟩
theorem X046:X2b Tryz.prog 117 Tryz.f117 (Xi Tryz.f117):=⟨Tryz.func117,by kernel_rfl,rfl⟩
theorem X01n:X2b Tryz.prog 118 Tryz.f118 (Xi Tryz.f118):=⟨Tryz.func118,by kernel_rfl,rfl⟩
theorem X01m:X2b Tryz.prog 119 Tryz.f119 (Xi Tryz.f119):=⟨Tryz.func119,by kernel_rfl,rfl⟩
theorem X045:X2b Tryz.prog 120 Tryz.f120 (Xi Tryz.f120):=⟨Tryz.func120,by kernel_rfl,rfl⟩
theorem Xzd:X2b Tryz.prog 121 Tryz.f121 (Xi Tryz.f121):=⟨Tryz.func121,by kernel_rfl,rfl⟩
theorem X044:X2b Tryz.prog 122 Tryz.f122 (Xi Tryz.f122):=⟨Tryz.func122,by kernel_rfl,rfl⟩
theorem X043:X2b Tryz.prog 123 Tryz.f123 (Xi Tryz.f123):=⟨Tryz.func123,by kernel_rfl,rfl⟩
theorem X042:X2b Tryz.prog 124 Tryz.f124 (Xi Tryz.f124):=⟨Tryz.func124,by kernel_rfl,rfl⟩
theorem X041:X2b Tryz.prog 125 Tryz.f125 (Xi Tryz.f125):=⟨Tryz.func125,by kernel_rfl,rfl⟩
theorem Xqg:X2b Tryz.prog 126 Tryz.f126 (Xi Tryz.f126):=⟨Tryz.func126,by kernel_rfl,rfl⟩
theorem X040:X2b Tryz.prog 127 Tryz.f127 (Xi Tryz.f127):=⟨Tryz.func127,by kernel_rfl,rfl⟩
theorem X03z:X2b Tryz.prog 128 Tryz.f128 (Xi Tryz.f128):=⟨Tryz.func128,by kernel_rfl,rfl⟩
theorem X03y:X2b Tryz.prog 129 Tryz.f129 (Xi Tryz.f129):=⟨Tryz.func129,by kernel_rfl,rfl⟩
theorem X03x:X2b Tryz.prog 130 Tryz.f130 (Xi Tryz.f130):=⟨Tryz.func130,by kernel_rfl,rfl⟩
theorem X03w:X2b Tryz.prog 131 Tryz.f131 (Xi Tryz.f131):=⟨Tryz.func131,by kernel_rfl,rfl⟩
theorem X03v:X2b Tryz.prog 132 Tryz.f132 (Xi Tryz.f132):=⟨Tryz.func132,by kernel_rfl,rfl⟩
theorem X03u:X2b Tryz.prog 133 Tryz.f133 (Xi Tryz.f133):=⟨Tryz.func133,by kernel_rfl,rfl⟩
theorem X03t:X2b Tryz.prog 134 Tryz.f134 (Xi Tryz.f134):=⟨Tryz.func134,by kernel_rfl,rfl⟩
theorem X03s:X2b Tryz.prog 135 Tryz.f135 (Xi Tryz.f135):=⟨Tryz.func135,by kernel_rfl,rfl⟩
theorem X01l:X2b Tryz.prog 136 Tryz.f136 (Xi Tryz.f136):=⟨Tryz.func136,by kernel_rfl,rfl⟩
theorem X03r:X2b Tryz.prog 137 Tryz.f137 (Xi Tryz.f137):=⟨Tryz.func137,by kernel_rfl,rfl⟩
theorem X03q:X2b Tryz.prog 138 Tryz.f138 (Xi Tryz.f138):=⟨Tryz.func138,by kernel_rfl,rfl⟩
theorem X03p:X2b Tryz.prog 139 Tryz.f139 (Xi Tryz.f139):=⟨Tryz.func139,by kernel_rfl,rfl⟩
theorem Xwf:X2b Tryz.prog 144 Tryz.f144 (Xi Tryz.f144):=⟨Tryz.func144,by kernel_rfl,rfl⟩
theorem X03o:X2b Tryz.prog 145 Tryz.f145 (Xi Tryz.f145):=⟨Tryz.func145,by kernel_rfl,rfl⟩
theorem X03n:X2b Tryz.prog 146 Tryz.f146 (Xi Tryz.f146):=⟨Tryz.func146,by kernel_rfl,rfl⟩
theorem X01k:X2b Tryz.prog 147 Tryz.f147 (Xi Tryz.f147):=⟨Tryz.func147,by kernel_rfl,rfl⟩
theorem X01j:X2b Tryz.prog 148 Tryz.f148 (Xi Tryz.f148):=⟨Tryz.func148,by kernel_rfl,rfl⟩
theorem X03m:X2b Tryz.prog 150 Tryz.f150 (Xi Tryz.f150):=⟨Tryz.func150,by kernel_rfl,rfl⟩
theorem X03l:X2b Tryz.prog 151 Tryz.f151 (Xi Tryz.f151):=⟨Tryz.func151,by kernel_rfl,rfl⟩
theorem X01i:X2b Tryz.prog 152 Tryz.f152 (Xi Tryz.f152):=⟨Tryz.func152,by kernel_rfl,rfl⟩
theorem X03k:X2b Tryz.prog 155 Tryz.f155 (Xi Tryz.f155):=⟨Tryz.func155,by kernel_rfl,rfl⟩
theorem X03j:X2b Tryz.prog 156 Tryz.f156 (Xi Tryz.f156):=⟨Tryz.func156,by kernel_rfl,rfl⟩
theorem X03i:X2b Tryz.prog 157 Tryz.f157 (Xi Tryz.f157):=⟨Tryz.func157,by kernel_rfl,rfl⟩
theorem X03h:X2b Tryz.prog 158 Tryz.f158 (Xi Tryz.f158):=⟨Tryz.func158,by kernel_rfl,rfl⟩
theorem X03g:X2b Tryz.prog 159 Tryz.f159 (Xi Tryz.f159):=⟨Tryz.func159,by kernel_rfl,rfl⟩
theorem Xwe:X2b Tryz.prog 166 Tryz.f166 (Xi Tryz.f166):=⟨Tryz.func166,by kernel_rfl,rfl⟩
theorem X03f:X2b Tryz.prog 167 Tryz.f167 (Xi Tryz.f167):=⟨Tryz.func167,by kernel_rfl,rfl⟩
theorem X01h:X2b Tryz.prog 168 Tryz.f168 (Xi Tryz.f168):=⟨Tryz.func168,by kernel_rfl,rfl⟩
theorem X03e:X2b Tryz.prog 169 Tryz.f169 (Xi Tryz.f169):=⟨Tryz.func169,by kernel_rfl,rfl⟩
theorem X03d:X2b Tryz.prog 170 Tryz.f170 (Xi Tryz.f170):=⟨Tryz.func170,by kernel_rfl,rfl⟩
theorem X01g:X2b Tryz.prog 171 Tryz.f171 (Xi Tryz.f171):=⟨Tryz.func171,by kernel_rfl,rfl⟩
theorem X03c:X2b Tryz.prog 173 Tryz.f173 (Xi Tryz.f173):=⟨Tryz.func173,by kernel_rfl,rfl⟩
theorem X03b:X2b Tryz.prog 174 Tryz.f174 (Xi Tryz.f174):=⟨Tryz.func174,by kernel_rfl,rfl⟩
theorem X03a:X2b Tryz.prog 175 Tryz.f175 (Xi Tryz.f175):=⟨Tryz.func175,by kernel_rfl,rfl⟩
theorem X039:X2b Tryz.prog 176 Tryz.f176 (Xi Tryz.f176):=⟨Tryz.func176,by kernel_rfl,rfl⟩
theorem X038:X2b Tryz.prog 177 Tryz.f177 (Xi Tryz.f177):=⟨Tryz.func177,by kernel_rfl,rfl⟩
theorem X037:X2b Tryz.prog 178 Tryz.f178 (Xi Tryz.f178):=⟨Tryz.func178,by kernel_rfl,rfl⟩
theorem X036:X2b Tryz.prog 179 Tryz.f179 (Xi Tryz.f179):=⟨Tryz.func179,by kernel_rfl,rfl⟩
theorem X035:X2b Tryz.prog 180 Tryz.f180 (Xi Tryz.f180):=⟨Tryz.func180,by kernel_rfl,rfl⟩
theorem X034:X2b Tryz.prog 181 Tryz.f181 (Xi Tryz.f181):=⟨Tryz.func181,by kernel_rfl,rfl⟩
theorem X01f:X2b Tryz.prog 185 Tryz.f185 (Xi Tryz.f185):=⟨Tryz.func185,by kernel_rfl,rfl⟩
theorem X033:X2b Tryz.prog 194 Tryz.f194 (Xi Tryz.f194):=⟨Tryz.func194,by kernel_rfl,rfl⟩
theorem X032:X2b Tryz.prog 196 Tryz.f196 (Xi Tryz.f196):=⟨Tryz.func196,by kernel_rfl,rfl⟩
theorem X031:X2b Tryz.prog 197 Tryz.f197 (Xi Tryz.f197):=⟨Tryz.func197,by kernel_rfl,rfl⟩
theorem X030:X2b Tryz.prog 198 Tryz.f198 (Xi Tryz.f198):=⟨Tryz.func198,by kernel_rfl,rfl⟩
theorem X02z:X2b Tryz.prog 199 Tryz.f199 (Xi Tryz.f199):=⟨Tryz.func199,by kernel_rfl,rfl⟩
theorem X02y:X2b Tryz.prog 210 Tryz.f210 (Xi Tryz.f210):=⟨Tryz.func210,by kernel_rfl,rfl⟩
theorem Xwd:X2b Tryz.prog 211 Tryz.f211 (Xi Tryz.f211):=⟨Tryz.func211,by kernel_rfl,rfl⟩
theorem Xim:X2b Tryz.prog 212 Tryz.f212 (Xi Tryz.f212):=⟨Tryz.func212,by kernel_rfl,rfl⟩
instance Xvh:PCs Tryz.prog 46 (∀ (r:X06),Xep=some r->X0l Tryz.prog 46 [] (Xx true r)):=⟨fun r h=>by
 refine X0l.sym X6 fn46 (nt:=6) rfl rfl ?_ okM
 unfold Xep at h
 revert h
 exact fun e=>oj e▸X9 [] (k:=fi)⟩
instance Xxa:PCs Tryz.prog 47 (∀ (a0:Int) (a1:Int) (a2:Int) (r:Xn),Xdp a0 a1 a2=some r->X0l Tryz.prog 47 [(aI .i64 a0),(aI .i64 a1),(aI .i64 a2)] (Xh r)):=⟨fun a0 a1 a2 r h=>by
 refine X0l.sym X6 fn47 (nt:=12) rfl rfl ?_ okM
 unfold Xdp at h
 revert h
 exact fun e=>oj e▸X9 [] (k:=fi)⟩
instance Xvj:PCs Tryz.prog 16 (∀ (a0:Int) (r:Xn),Xag a0=some r->X0l Tryz.prog 16 [(aI .i64 a0)] (Xh r)):=⟨fun a0 r h=>by
 refine X0l.sym X6 fn16 (nt:=5) rfl rfl ?_ okM
 unfold Xag at h
 revert h
 exact fun e=>oj e▸X9 [] (k:=fi)⟩
instance Xx7:PCs Tryz.prog 75 (∀ (a0:Int) (r:(List Int)×Int),Xh8 a0=some r->X0l Tryz.prog 75 [(aI .i64 a0)] (AV.tup [(AV.list true (List.map (aI .i64) r.1)),(aI .i64 r.2)])):=⟨fun a0 r h=>by
 refine X0l.sym X6 fn75 (nt:=13) rfl rfl ?_ okM
 unfold Xh8 at h
 revert h
 refine brI (fun h1=>fun e=>oj e▸X9 [Bt] (k:=fi)) fun h1=>?_
 refine brI (fun h2=>?_) fun h2=>?_
 ·
  intro h
  obtain rfl:a0=1:=eq_of_beq h2
  refine X0g [Bf] (o:=by repeat' first|apply Ya|exact pcM|(decide +kernel)|exact Xu) ?_
  refine X3.inline X6 Xwg rfl rfl rfl rfl rfl trivial trivial rfl rfl ?_
  refine X0g [Bf,.wrap,.wrap] (o:=by repeat' first|apply Ya|exact pcM|(decide +kernel)|exact Xu) ?_
  refine X3.inline X6 Xwf rfl rfl rfl rfl rfl trivial trivial rfl rfl ?_
  refine X0g [Bf] (o:=by repeat' first|apply Ya|exact pcM|(decide +kernel)|exact Xu) ?_
  refine X3.inline X6 Xwe rfl rfl rfl rfl rfl trivial trivial rfl rfl ?_
  refine X0g [] (o:=by repeat' first|apply Ya|exact pcM|(decide +kernel)|exact Xu) ?_
  refine X3.back (by intro id h;cases h) rfl ?_
  refine X0g [] (o:=by repeat' first|apply Ya|exact pcM|(decide +kernel)|exact Xu) ?_
  refine X3.back (by intro id h;cases h) rfl ?_
  refine X0g [.go true,.go true,Bf,.wrap] (o:=by repeat' first|apply Ya|exact pcM|(decide +kernel)|exact((show((8:Nat):Int)*1<=281474976710656 by decide))|exact Xu) ?_
  refine X3.copyS [(aI .i64 (-9223372036854775808))] 1 X6 rfl rfl rfl rfl trivial rfl rfl rfl trivial (.ref rfl (by decide)) rfl rfl rfl rfl rfl rfl rfl rfl ?_
  refine X0g [] (o:=by repeat' first|apply Ya|exact pcM|(decide +kernel)|exact Xu) ?_
  refine X3.round ?_
  refine X0g [Bf] (o:=by repeat' first|apply Ya|exact pcM|(decide +kernel)|exact Xu) ?_
  refine X3.back (by intro id h;cases h) rfl ?_
  revert h
  exact fun e=>oj e▸X9 [] (o:=by repeat' first|apply Ya|exact pcM|(decide +kernel)|exact Xu) (k:=fi)
 refine brI (fun h3=>?_) fun h3=>?_
 ·
  intro h
  obtain rfl:a0=2:=eq_of_beq h3
  refine X0g [Bf] (o:=by repeat' first|apply Ya|exact pcM|(decide +kernel)|exact Xu) ?_
  refine X3.inline X6 Xwg rfl rfl rfl rfl rfl trivial trivial rfl rfl ?_
  refine X0g [Bf,.wrap,.wrap] (o:=by repeat' first|apply Ya|exact pcM|(decide +kernel)|exact Xu) ?_
  refine X3.inline X6 Xwf rfl rfl rfl rfl rfl trivial trivial rfl rfl ?_
  refine X0g [Bf] (o:=by repeat' first|apply Ya|exact pcM|(decide +kernel)|exact Xu) ?_
  refine X3.inline X6 Xwe rfl rfl rfl rfl rfl trivial trivial rfl rfl ?_
  refine X0g [] (o:=by repeat' first|apply Ya|exact pcM|(decide +kernel)|exact Xu) ?_
  refine X3.back (by intro id h;cases h) rfl ?_
  refine X0g [] (o:=by repeat' first|apply Ya|exact pcM|(decide +kernel)|exact Xu) ?_
  refine X3.back (by intro id h;cases h) rfl ?_
  refine X0g [.go true,.go true,Bf,.wrap] (o:=by repeat' first|apply Ya|exact pcM|(decide +kernel)|exact((show((8:Nat):Int)*2<=281474976710656 by decide))|exact Xu) ?_
  refine X3.copyS [(aI .i64 (-9223372036854775808)),(aI .i64 0)] 1 X6 rfl rfl rfl rfl trivial rfl rfl rfl trivial (.ref rfl (by decide)) rfl rfl rfl rfl rfl rfl rfl rfl ?_
  refine X0g [] (o:=by repeat' first|apply Ya|exact pcM|(decide +kernel)|exact Xu) ?_
  refine X3.round ?_
  refine X0g [Bt,.stop 9] (o:=by repeat' first|apply Ya|exact pcM|(decide +kernel)|exact Xu) ?_
  refine X3.drawnCutF 7 tmD [] rfl rfl rfl rfl rfl rfl rfl (by decide) rfl rfl rfl (by decide) (by decide) (by decide) (by decide) rfl rfl rfl rfl rfl rfl rfl (by repeat' first|apply Ya|exact pcM|(decide +kernel)|exact Xu) ?_
  refine X0g [] (o:=by repeat' first|apply Ya|exact pcM|(decide +kernel)|exact Xu) ?_
  refine X3.copyS [(aI .i64 (-9223372036854775808)),(aI .i64 (-9223372036854775808))] 1 X6 rfl rfl rfl rfl trivial rfl rfl rfl trivial (.ref rfl (by decide)) rfl rfl rfl rfl rfl rfl rfl rfl ?_
  refine X0g [] (o:=by repeat' first|apply Ya|exact pcM|(decide +kernel)|exact Xu) ?_
  refine X3.round ?_
  refine X0g [Bf] (o:=by repeat' first|apply Ya|exact pcM|(decide +kernel)|exact Xu) ?_
  refine X3.back (by intro id h;cases h) rfl ?_
  revert h
  exact fun e=>oj e▸X9 [] (o:=by repeat' first|apply Ya|exact pcM|(decide +kernel)|exact Xu) (k:=fi)
 refine brI (fun h4=>?_) fun h4=>?_
 ·
  intro h
  obtain rfl:a0=3:=eq_of_beq h4
  refine X0g [Bf] (o:=by repeat' first|apply Ya|exact pcM|(decide +kernel)|exact Xu) ?_
  refine X3.inline X6 Xwg rfl rfl rfl rfl rfl trivial trivial rfl rfl ?_
  refine X0g [Bf,.wrap,.wrap] (o:=by repeat' first|apply Ya|exact pcM|(decide +kernel)|exact Xu) ?_
  refine X3.inline X6 Xwf rfl rfl rfl rfl rfl trivial trivial rfl rfl ?_
  refine X0g [Bf] (o:=by repeat' first|apply Ya|exact pcM|(decide +kernel)|exact Xu) ?_
  refine X3.inline X6 Xwe rfl rfl rfl rfl rfl trivial trivial rfl rfl ?_
  refine X0g [] (o:=by repeat' first|apply Ya|exact pcM|(decide +kernel)|exact Xu) ?_
  refine X3.back (by intro id h;cases h) rfl ?_
  refine X0g [] (o:=by repeat' first|apply Ya|exact pcM|(decide +kernel)|exact Xu) ?_
  refine X3.back (by intro id h;cases h) rfl ?_
  refine X0g [.go true,.go true,Bf,.wrap] (o:=by repeat' first|apply Ya|exact pcM|(decide +kernel)|exact((show((8:Nat):Int)*3<=281474976710656 by decide))|exact Xu) ?_
  refine X3.copyS [(aI .i64 (-9223372036854775808)),(aI .i64 0),(aI .i64 0)] 1 X6 rfl rfl rfl rfl trivial rfl rfl rfl trivial (.ref rfl (by decide)) rfl rfl rfl rfl rfl rfl rfl rfl ?_
  refine X0g [] (o:=by repeat' first|apply Ya|exact pcM|(decide +kernel)|exact Xu) ?_
  refine X3.round ?_
  refine X0g [Bt,.stop 9] (o:=by repeat' first|apply Ya|exact pcM|(decide +kernel)|exact Xu) ?_
  refine X3.drawnCutF 7 tmD [] rfl rfl rfl rfl rfl rfl rfl (by decide) rfl rfl rfl (by decide) (by decide) (by decide) (by decide) rfl rfl rfl rfl rfl rfl rfl (by repeat' first|apply Ya|exact pcM|(decide +kernel)|exact Xu) ?_
  refine X0g [] (o:=by repeat' first|apply Ya|exact pcM|(decide +kernel)|exact Xu) ?_
  refine X3.copyS [(aI .i64 (-9223372036854775808)),(aI .i64 (-9223372036854775808)),(aI .i64 0)] 1 X6 rfl rfl rfl rfl trivial rfl rfl rfl trivial (.ref rfl (by decide)) rfl rfl rfl rfl rfl rfl rfl rfl ?_
  refine X0g [] (o:=by repeat' first|apply Ya|exact pcM|(decide +kernel)|exact Xu) ?_
  refine X3.round ?_
  refine X0g [Bt,.stop 9] (o:=by repeat' first|apply Ya|exact pcM|(decide +kernel)|exact Xu) ?_
  refine X3.drawnCutF 7 tmD [] rfl rfl rfl rfl rfl rfl rfl (by decide) rfl rfl rfl (by decide) (by decide) (by decide) (by decide) rfl rfl rfl rfl rfl rfl rfl (by repeat' first|apply Ya|exact pcM|(decide +kernel)|exact Xu) ?_
  refine X0g [] (o:=by repeat' first|apply Ya|exact pcM|(decide +kernel)|exact Xu) ?_
  refine X3.copyS [(aI .i64 (-9223372036854775808)),(aI .i64 (-9223372036854775808)),(aI .i64 (-9223372036854775808))] 1 X6 rfl rfl rfl rfl trivial rfl rfl rfl trivial (.ref rfl (by decide)) rfl rfl rfl rfl rfl rfl rfl rfl ?_
  refine X0g [] (o:=by repeat' first|apply Ya|exact pcM|(decide +kernel)|exact Xu) ?_
  refine X3.round ?_
  refine X0g [Bf] (o:=by repeat' first|apply Ya|exact pcM|(decide +kernel)|exact Xu) ?_
  refine X3.back (by intro id h;cases h) rfl ?_
  revert h
  exact fun e=>oj e▸X9 [] (o:=by repeat' first|apply Ya|exact pcM|(decide +kernel)|exact Xu) (k:=fi)
 refine brI (fun h5=>?_) fun h5=>?_
 ·
  intro h
  obtain rfl:a0=4:=eq_of_beq h5
  refine X0g [Bf] (o:=by repeat' first|apply Ya|exact pcM|(decide +kernel)|exact Xu) ?_
  refine X3.inline X6 Xwg rfl rfl rfl rfl rfl trivial trivial rfl rfl ?_
  refine X0g [Bf,.wrap,.wrap] (o:=by repeat' first|apply Ya|exact pcM|(decide +kernel)|exact Xu) ?_
  refine X3.inline X6 Xwf rfl rfl rfl rfl rfl trivial trivial rfl rfl ?_
  refine X0g [Bf] (o:=by repeat' first|apply Ya|exact pcM|(decide +kernel)|exact Xu) ?_
  refine X3.inline X6 Xwe rfl rfl rfl rfl rfl trivial trivial rfl rfl ?_
  refine X0g [] (o:=by repeat' first|apply Ya|exact pcM|(decide +kernel)|exact Xu) ?_
  refine X3.back (by intro id h;cases h) rfl ?_
  refine X0g [] (o:=by repeat' first|apply Ya|exact pcM|(decide +kernel)|exact Xu) ?_
  refine X3.back (by intro id h;cases h) rfl ?_
  refine X0g [.go true,.go true,Bf,.wrap] (o:=by repeat' first|apply Ya|exact pcM|(decide +kernel)|exact((show((8:Nat):Int)*4<=281474976710656 by decide))|exact Xu) ?_
  refine X3.copyS [(aI .i64 (-9223372036854775808)),(aI .i64 0),(aI .i64 0),(aI .i64 0)] 1 X6 rfl rfl rfl rfl trivial rfl rfl rfl trivial (.ref rfl (by decide)) rfl rfl rfl rfl rfl rfl rfl rfl ?_
  refine X0g [] (o:=by repeat' first|apply Ya|exact pcM|(decide +kernel)|exact Xu) ?_
  refine X3.round ?_
  refine X0g [Bt,.stop 9] (o:=by repeat' first|apply Ya|exact pcM|(decide +kernel)|exact Xu) ?_
  refine X3.drawnCutF 7 tmD [] rfl rfl rfl rfl rfl rfl rfl (by decide) rfl rfl rfl (by decide) (by decide) (by decide) (by decide) rfl rfl rfl rfl rfl rfl rfl (by repeat' first|apply Ya|exact pcM|(decide +kernel)|exact Xu) ?_
  refine X0g [] (o:=by repeat' first|apply Ya|exact pcM|(decide +kernel)|exact Xu) ?_
  refine X3.copyS [(aI .i64 (-9223372036854775808)),(aI .i64 (-9223372036854775808)),(aI .i64 0),(aI .i64 0)] 1 X6 rfl rfl rfl rfl trivial rfl rfl rfl trivial (.ref rfl (by decide)) rfl rfl rfl rfl rfl rfl rfl rfl ?_
  refine X0g [] (o:=by repeat' first|apply Ya|exact pcM|(decide +kernel)|exact Xu) ?_
  refine X3.round ?_
  refine X0g [Bt,.stop 9] (o:=by repeat' first|apply Ya|exact pcM|(decide +kernel)|exact Xu) ?_
  refine X3.drawnCutF 7 tmD [] rfl rfl rfl rfl rfl rfl rfl (by decide) rfl rfl rfl (by decide) (by decide) (by decide) (by decide) rfl rfl rfl rfl rfl rfl rfl (by repeat' first|apply Ya|exact pcM|(decide +kernel)|exact Xu) ?_
  refine X0g [] (o:=by repeat' first|apply Ya|exact pcM|(decide +kernel)|exact Xu) ?_
  refine X3.copyS [(aI .i64 (-9223372036854775808)),(aI .i64 (-9223372036854775808)),(aI .i64 (-9223372036854775808)),(aI .i64 (-9223372036854775808))] 2 X6 rfl rfl rfl rfl trivial rfl rfl rfl trivial (.ref rfl (by decide)) rfl rfl rfl rfl rfl rfl rfl rfl ?_
  refine X0g [] (o:=by repeat' first|apply Ya|exact pcM|(decide +kernel)|exact Xu) ?_
  refine X3.round ?_
  refine X0g [Bf] (o:=by repeat' first|apply Ya|exact pcM|(decide +kernel)|exact Xu) ?_
  refine X3.back (by intro id h;cases h) rfl ?_
  revert h
  exact fun e=>oj e▸X9 [] (o:=by repeat' first|apply Ya|exact pcM|(decide +kernel)|exact Xu) (k:=fi)
 intro h
 cases h⟩
instance Xyj:PCs Tryz.prog 33 (∀ (a0:Int) (r:X0b×Int),Xgb a0=some r->X0l Tryz.prog 33 [(aI .i64 a0)] (AV.tup [(Xk true r.1),(aI .i64 r.2)])):=⟨fun a0 r h=>by
 refine X0l.sym X6 fn33 (nt:=21) rfl rfl ?_ okM
 unfold Xgb at h
 revert h
 exact brI (fun h1=>fun e=>oj e▸X9 [Bt] (k:=fi)) fun h1=>bI fun v2 h3=>fun e=>oj e▸X9 [Bf,.pure _ (AV.tup [(AV.list true (List.map (aI .i64) v2.1)),(aI .i64 v2.2)])] (k:=fi)⟩
instance Xuc:PCs Tryz.prog 210 (∀ (a0:Int) (r:Int×Int),X92 a0=some r->X0l Tryz.prog 210 [(aI .u8 a0)] (AV.tup [(aI .i64 r.1),(aI .i64 r.2)])):=⟨fun a0 r h=>by
 refine X0l.sym X6 X02y (nt:=25) rfl rfl ?_ okM
 unfold X92 at h
 revert h
 exact brI (fun h1=>fun e=>oj e▸X9 [Bt] (k:=fi)) fun h1=>brI (fun h2=>fun e=>oj e▸X9 [Bf,Bt] (k:=fi)) fun h2=>brI (fun h3=>fun e=>oj e▸X9 [Bf,Bf,Bt] (k:=fi)) fun h3=>fun e=>oj e▸X9 [Bf,Bf,Bf] (k:=fi)⟩
end Go.Av.Tryz