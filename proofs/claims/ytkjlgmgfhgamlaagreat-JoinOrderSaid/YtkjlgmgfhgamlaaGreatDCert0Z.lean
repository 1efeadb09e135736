/- Printed by decomp.py: that the program computes the functions. -/
import Derived.Test.YtkjlgmgfhgamlaaGreatDFunZ
import Derived.Test.YtkjlgmgfhgamlaaGreatTabZ
import Derived.Test.YtkjlgmgfhgamlaaGreatDeleteZ
import Derived.Test.YtkjlgmgfhgamlaaGreatInsertZ
set_option linter.all false

namespace Go.Av.Tryz
open Go.Proofs Go.D
set_option maxRecDepth 10000
set_option maxHeartbeats 40000000
theorem tmD:Xal Tryz.prog Xxs.find/\Tryz.prog.follows .mixedOrders=true:=⟨X6,by kernel_rfl⟩
instance tmI:TmD Tryz.prog Xxs.find:=⟨tmD⟩
theorem fn4:X2b Tryz.prog 4 Tryz.f4 (Xj Tryz.f4):=⟨Tryz.func4,by kernel_rfl,rfl⟩
theorem fn11:X2b Tryz.prog 11 Tryz.f11 (Xj Tryz.f11):=⟨Tryz.func11,by kernel_rfl,rfl⟩
theorem fn12:X2b Tryz.prog 12 Tryz.f12 (Xj Tryz.f12):=⟨Tryz.func12,by kernel_rfl,rfl⟩
theorem fn13:X2b Tryz.prog 13 Tryz.f13 (Xj Tryz.f13):=⟨Tryz.func13,by kernel_rfl,rfl⟩
theorem fn15:X2b Tryz.prog 15 Tryz.f15 (Xj Tryz.f15):=⟨Tryz.func15,by kernel_rfl,rfl⟩
theorem fn16:X2b Tryz.prog 16 Tryz.f16 (Xj Tryz.f16):=⟨Tryz.func16,by kernel_rfl,rfl⟩
theorem fn17:X2b Tryz.prog 17 Tryz.f17 (Xj Tryz.f17):=⟨Tryz.func17,by kernel_rfl,rfl⟩
theorem fn18:X2b Tryz.prog 18 Tryz.f18 (Xj Tryz.f18):=⟨Tryz.func18,by kernel_rfl,rfl⟩
theorem fn27:X2b Tryz.prog 27 Tryz.f27 (Xj Tryz.f27):=⟨Tryz.func27,by kernel_rfl,rfl⟩
theorem fn29:X2b Tryz.prog 29 Tryz.f29 (Xj Tryz.f29):=⟨Tryz.func29,by kernel_rfl,rfl⟩
theorem fn31:X2b Tryz.prog 31 Tryz.f31 (Xj Tryz.f31):=⟨Tryz.func31,by kernel_rfl,rfl⟩
theorem fn33:X2b Tryz.prog 33 Tryz.f33 (Xj Tryz.f33):=⟨Tryz.func33,by kernel_rfl,rfl⟩
theorem fn37:X2b Tryz.prog 37 Tryz.f37 (Xj Tryz.f37):=⟨Tryz.func37,by kernel_rfl,rfl⟩
theorem fn46:X2b Tryz.prog 46 Tryz.f46 (Xj Tryz.f46):=⟨Tryz.func46,by kernel_rfl,rfl⟩
theorem fn47:X2b Tryz.prog 47 Tryz.f47 (Xj Tryz.f47):=⟨Tryz.func47,by kernel_rfl,rfl⟩
theorem fn48:X2b Tryz.prog 48 Tryz.f48 (Xj Tryz.f48):=⟨Tryz.func48,by kernel_rfl,rfl⟩
theorem fn49:X2b Tryz.prog 49 Tryz.f49 (Xj Tryz.f49):=⟨Tryz.func49,by kernel_rfl,rfl⟩
theorem fn58:X2b Tryz.prog 58 Tryz.f58 (Xj Tryz.f58):=⟨Tryz.func58,by kernel_rfl,rfl⟩
theorem fn59:X2b Tryz.prog 59 Tryz.f59 (Xj Tryz.f59):=⟨Tryz.func59,by kernel_rfl,rfl⟩
theorem fn61:X2b Tryz.prog 61 Tryz.f61 (Xj Tryz.f61):=⟨Tryz.func61,by kernel_rfl,rfl⟩
theorem fn62:X2b Tryz.prog 62 Tryz.f62 (Xj Tryz.f62):=⟨Tryz.func62,by kernel_rfl,rfl⟩
theorem fn63:X2b Tryz.prog 63 Tryz.f63 (Xj Tryz.f63):=⟨Tryz.func63,by kernel_rfl,rfl⟩
theorem fn64:X2b Tryz.prog 64 Tryz.f64 (Xj Tryz.f64):=⟨Tryz.func64,by kernel_rfl,rfl⟩
theorem fn65:X2b Tryz.prog 65 Tryz.f65 (Xj Tryz.f65):=⟨Tryz.func65,by kernel_rfl,rfl⟩
theorem fn68:X2b Tryz.prog 68 Tryz.f68 (Xj Tryz.f68):=⟨Tryz.func68,by kernel_rfl,rfl⟩
theorem fn69:X2b Tryz.prog 69 Tryz.f69 (Xj Tryz.f69):=⟨Tryz.func69,by kernel_rfl,rfl⟩
theorem fn70:X2b Tryz.prog 70 Tryz.f70 (Xj Tryz.f70):=⟨Tryz.func70,by kernel_rfl,rfl⟩
theorem fn75:X2b Tryz.prog 75 Tryz.f75 (Xj Tryz.f75):=⟨Tryz.func75,by kernel_rfl,rfl⟩
theorem fn77:X2b Tryz.prog 77 Tryz.f77 (Xj Tryz.f77):=⟨Tryz.func77,by kernel_rfl,rfl⟩
theorem fn78:X2b Tryz.prog 78 Tryz.f78 (Xj Tryz.f78):=⟨Tryz.func78,by kernel_rfl,rfl⟩
theorem fn79:X2b Tryz.prog 79 Tryz.f79 (Xj Tryz.f79):=⟨Tryz.func79,by kernel_rfl,rfl⟩
theorem fn80:X2b Tryz.prog 80 Tryz.f80 (Xj Tryz.f80):=⟨Tryz.func80,by kernel_rfl,rfl⟩
theorem fn81:X2b Tryz.prog 81 Tryz.f81 (Xj Tryz.f81):=⟨Tryz.func81,by kernel_rfl,rfl⟩
theorem fn82:X2b Tryz.prog 82 Tryz.f82 (Xj Tryz.f82):=⟨Tryz.func82,by kernel_rfl,rfl⟩
theorem fn83:X2b Tryz.prog 83 Tryz.f83 (Xj Tryz.f83):=⟨Tryz.func83,by kernel_rfl,rfl⟩
theorem fn84:X2b Tryz.prog 84 Tryz.f84 (Xj Tryz.f84):=⟨Tryz.func84,by kernel_rfl,rfl⟩
theorem fn86:X2b Tryz.prog 86 Tryz.f86 (Xj Tryz.f86):=⟨Tryz.func86,by kernel_rfl,rfl⟩
theorem fn87:X2b Tryz.prog 87 Tryz.f87 (Xj Tryz.f87):=⟨Tryz.func87,by kernel_rfl,rfl⟩
theorem fn94:X2b Tryz.prog 94 Tryz.f94 (Xj Tryz.f94):=⟨Tryz.func94,by kernel_rfl,rfl⟩
theorem fn95:X2b Tryz.prog 95 Tryz.f95 (Xj Tryz.f95):=⟨Tryz.func95,by kernel_rfl,rfl⟩
theorem fn96:X2b Tryz.prog 96 Tryz.f96 (Xj Tryz.f96):=⟨Tryz.func96,by kernel_rfl,rfl⟩
theorem fn97:X2b Tryz.prog 97 Tryz.f97 (Xj Tryz.f97):=⟨Tryz.func97,by kernel_rfl,rfl⟩
theorem fn98:X2b Tryz.prog 98 Tryz.f98 (Xj Tryz.f98):=⟨Tryz.func98,by kernel_rfl,rfl⟩
theorem fn99:X2b Tryz.prog 99 Tryz.f99 (Xj Tryz.f99):=⟨Tryz.func99,by kernel_rfl,rfl⟩
theorem X042:X2b Tryz.prog 100 Tryz.f100 (Xj Tryz.f100):=⟨Tryz.func100,by kernel_rfl,rfl⟩
theorem X041:X2b Tryz.prog 101 Tryz.f101 (Xj Tryz.f101):=⟨Tryz.func101,by kernel_rfl,rfl⟩
theorem X040:X2b Tryz.prog 102 Tryz.f102 (Xj Tryz.f102):=⟨Tryz.func102,by kernel_rfl,rfl⟩
theorem X03z:X2b Tryz.prog 103 Tryz.f103 (Xj Tryz.f103):=⟨Tryz.func103,by kernel_rfl,rfl⟩
theorem X01e:X2b Tryz.prog 104 Tryz.f104 (Xj Tryz.f104):=⟨Tryz.func104,by kernel_rfl,rfl⟩
theorem Xwi:X2b Tryz.prog 114 Tryz.f114 (Xj Tryz.f114):=⟨Tryz.func114,by kernel_rfl,rfl⟩
theorem X03y:X2b Tryz.prog 115 Tryz.f115 (Xj Tryz.f115):=⟨Tryz.func115,by kernel_rfl,rfl⟩
theorem X03x:X2b Tryz.prog 116 Tryz.f116 (Xj Tryz.f116):=⟨Tryz.func116,by kernel_rfl,rfl⟩
theorem X03w:X2b Tryz.prog 117 Tryz.f117 (Xj Tryz.f117):=⟨Tryz.func117,by kernel_rfl,rfl⟩
theorem X01d:X2b Tryz.prog 118 Tryz.f118 (Xj Tryz.f118):=⟨Tryz.func118,by kernel_rfl,rfl⟩
theorem X01c:X2b Tryz.prog 119 Tryz.f119 (Xj Tryz.f119):=⟨Tryz.func119,by kernel_rfl,rfl⟩
theorem X03v:X2b Tryz.prog 120 Tryz.f120 (Xj Tryz.f120):=⟨Tryz.func120,by kernel_rfl,rfl⟩
theorem Xz7:X2b Tryz.prog 121 Tryz.f121 (Xj Tryz.f121):=⟨Tryz.func121,by kernel_rfl,rfl⟩
theorem X03u:X2b Tryz.prog 122 Tryz.f122 (Xj Tryz.f122):=⟨Tryz.func122,by kernel_rfl,rfl⟩
theorem X03t:X2b Tryz.prog 123 Tryz.f123 (Xj Tryz.f123):=⟨Tryz.func123,by kernel_rfl,rfl⟩
theorem X03s:X2b Tryz.prog 124 Tryz.f124 (Xj Tryz.f124):=⟨Tryz.func124,by kernel_rfl,rfl⟩
theorem X03r:X2b Tryz.prog 125 Tryz.f125 (Xj Tryz.f125):=⟨Tryz.func125,by kernel_rfl,rfl⟩
theorem Xqb:X2b Tryz.prog 126 Tryz.f126 (Xj Tryz.f126):=⟨Tryz.func126,by kernel_rfl,rfl⟩
theorem X03q:X2b Tryz.prog 127 Tryz.f127 (Xj Tryz.f127):=⟨Tryz.func127,by kernel_rfl,rfl⟩
theorem X03p:X2b Tryz.prog 128 Tryz.f128 (Xj Tryz.f128):=⟨Tryz.func128,by kernel_rfl,rfl⟩
theorem X03o:X2b Tryz.prog 129 Tryz.f129 (Xj Tryz.f129):=⟨Tryz.func129,by kernel_rfl,rfl⟩
theorem X03n:X2b Tryz.prog 130 Tryz.f130 (Xj Tryz.f130):=⟨Tryz.func130,by kernel_rfl,rfl⟩
theorem X03m:X2b Tryz.prog 131 Tryz.f131 (Xj Tryz.f131):=⟨Tryz.func131,by kernel_rfl,rfl⟩
theorem X03l:X2b Tryz.prog 132 Tryz.f132 (Xj Tryz.f132):=⟨Tryz.func132,by kernel_rfl,rfl⟩
theorem X03k:X2b Tryz.prog 133 Tryz.f133 (Xj Tryz.f133):=⟨Tryz.func133,by kernel_rfl,rfl⟩
theorem X03j:X2b Tryz.prog 134 Tryz.f134 (Xj Tryz.f134):=⟨Tryz.func134,by kernel_rfl,rfl⟩
theorem X03i:X2b Tryz.prog 135 Tryz.f135 (Xj Tryz.f135):=⟨Tryz.func135,by kernel_rfl,rfl⟩
theorem X01b:X2b Tryz.prog 136 Tryz.f136 (Xj Tryz.f136):=⟨Tryz.func136,by kernel_rfl,rfl⟩
theorem X03h:X2b Tryz.prog 137 Tryz.f137 (Xj Tryz.f137):=⟨Tryz.func137,by kernel_rfl,rfl⟩
theorem X03g:X2b Tryz.prog 138 Tryz.f138 (Xj Tryz.f138):=⟨Tryz.func138,by kernel_rfl,rfl⟩
theorem X03f:X2b Tryz.prog 139 Tryz.f139 (Xj Tryz.f139):=⟨Tryz.func139,by kernel_rfl,rfl⟩
theorem Xwh:X2b Tryz.prog 144 Tryz.f144 (Xj Tryz.f144):=⟨Tryz.func144,by kernel_rfl,rfl⟩
theorem X03e:X2b Tryz.prog 145 Tryz.f145 (Xj Tryz.f145):=⟨Tryz.func145,by kernel_rfl,rfl⟩
theorem X03d:X2b Tryz.prog 146 Tryz.f146 (Xj Tryz.f146):=⟨Tryz.func146,by kernel_rfl,rfl⟩
theorem X01a:X2b Tryz.prog 147 Tryz.f147 (Xj Tryz.f147):=⟨Tryz.func147,by kernel_rfl,rfl⟩
theorem X019:X2b Tryz.prog 148 Tryz.f148 (Xj Tryz.f148):=⟨Tryz.func148,by kernel_rfl,rfl⟩
theorem X03c:X2b Tryz.prog 150 Tryz.f150 (Xj Tryz.f150):=⟨Tryz.func150,by kernel_rfl,rfl⟩
theorem X03b:X2b Tryz.prog 151 Tryz.f151 (Xj Tryz.f151):=⟨Tryz.func151,by kernel_rfl,rfl⟩
theorem X018:X2b Tryz.prog 152 Tryz.f152 (Xj Tryz.f152):=⟨Tryz.func152,by kernel_rfl,rfl⟩
theorem X03a:X2b Tryz.prog 155 Tryz.f155 (Xj Tryz.f155):=⟨Tryz.func155,by kernel_rfl,rfl⟩
theorem X039:X2b Tryz.prog 156 Tryz.f156 (Xj Tryz.f156):=⟨Tryz.func156,by kernel_rfl,rfl⟩
theorem X038:X2b Tryz.prog 157 Tryz.f157 (Xj Tryz.f157):=⟨Tryz.func157,by kernel_rfl,rfl⟩
theorem X037:X2b Tryz.prog 158 Tryz.f158 (Xj Tryz.f158):=⟨Tryz.func158,by kernel_rfl,rfl⟩
theorem X036:X2b Tryz.prog 159 Tryz.f159 (Xj Tryz.f159):=⟨Tryz.func159,by kernel_rfl,rfl⟩
theorem Xwg:X2b Tryz.prog 166 Tryz.f166 (Xj Tryz.f166):=⟨Tryz.func166,by kernel_rfl,rfl⟩
theorem X035:X2b Tryz.prog 167 Tryz.f167 (Xj Tryz.f167):=⟨Tryz.func167,by kernel_rfl,rfl⟩
theorem X017:X2b Tryz.prog 168 Tryz.f168 (Xj Tryz.f168):=⟨Tryz.func168,by kernel_rfl,rfl⟩
theorem X034:X2b Tryz.prog 169 Tryz.f169 (Xj Tryz.f169):=⟨Tryz.func169,by kernel_rfl,rfl⟩
theorem X033:X2b Tryz.prog 170 Tryz.f170 (Xj Tryz.f170):=⟨Tryz.func170,by kernel_rfl,rfl⟩
theorem X016:X2b Tryz.prog 171 Tryz.f171 (Xj Tryz.f171):=⟨Tryz.func171,by kernel_rfl,rfl⟩
theorem X032:X2b Tryz.prog 173 Tryz.f173 (Xj Tryz.f173):=⟨Tryz.func173,by kernel_rfl,rfl⟩
theorem X031:X2b Tryz.prog 174 Tryz.f174 (Xj Tryz.f174):=⟨Tryz.func174,by kernel_rfl,rfl⟩
theorem X030:X2b Tryz.prog 175 Tryz.f175 (Xj Tryz.f175):=⟨Tryz.func175,by kernel_rfl,rfl⟩
theorem X02z:X2b Tryz.prog 176 Tryz.f176 (Xj Tryz.f176):=⟨Tryz.func176,by kernel_rfl,rfl⟩
theorem X02y:X2b Tryz.prog 177 Tryz.f177 (Xj Tryz.f177):=⟨Tryz.func177,by kernel_rfl,rfl⟩
theorem X02x:X2b Tryz.prog 178 Tryz.f178 (Xj Tryz.f178):=⟨Tryz.func178,by kernel_rfl,rfl⟩
theorem X02w:X2b Tryz.prog 179 Tryz.f179 (Xj Tryz.f179):=⟨Tryz.func179,by kernel_rfl,rfl⟩
theorem X02v:X2b Tryz.prog 180 Tryz.f180 (Xj Tryz.f180):=⟨Tryz.func180,by kernel_rfl,rfl⟩
theorem X02u:X2b Tryz.prog 181 Tryz.f181 (Xj Tryz.f181):=⟨Tryz.func181,by kernel_rfl,rfl⟩
theorem X015:X2b Tryz.prog 185 Tryz.f185 (Xj Tryz.f185):=⟨Tryz.func185,by kernel_rfl,rfl⟩
theorem X02t:X2b Tryz.prog 194 Tryz.f194 (Xj Tryz.f194):=⟨Tryz.func194,by kernel_rfl,rfl⟩
theorem X02s:X2b Tryz.prog 196 Tryz.f196 (Xj Tryz.f196):=⟨Tryz.func196,by kernel_rfl,rfl⟩
theorem X02r:X2b Tryz.prog 197 Tryz.f197 (Xj Tryz.f197):=⟨Tryz.func197,by kernel_rfl,rfl⟩
theorem X02q:X2b Tryz.prog 198 Tryz.f198 (Xj Tryz.f198):=⟨Tryz.func198,by kernel_rfl,rfl⟩
theorem X02p:X2b Tryz.prog 199 Tryz.f199 (Xj Tryz.f199):=⟨Tryz.func199,by kernel_rfl,rfl⟩
theorem X02o:X2b Tryz.prog 210 Tryz.f210 (Xj Tryz.f210):=⟨Tryz.func210,by kernel_rfl,rfl⟩
theorem Xwf:X2b Tryz.prog 211 Tryz.f211 (Xj Tryz.f211):=⟨Tryz.func211,by kernel_rfl,rfl⟩
theorem Xik:X2b Tryz.prog 212 Tryz.f212 (Xj Tryz.f212):=⟨Tryz.func212,by kernel_rfl,rfl⟩
instance Xvc:PCs Tryz.prog 46 (∀ (r:X06),Xen=some r->X0l Tryz.prog 46 [] (Xs true r)):=⟨fun r h=>by
 refine X0l.sym X6 fn46 (nt:=6) rfl rfl ?_ okM
 unfold Xen at h
 revert h
 exact fun e=>oj e▸Xa [] (k:=fi)⟩
instance Xxc:PCs Tryz.prog 47 (∀ (a0:Int) (a1:Int) (a2:Int) (r:Xh),Xdl a0 a1 a2=some r->X0l Tryz.prog 47 [(aI .i64 a0),(aI .i64 a1),(aI .i64 a2)] (Xe r)):=⟨fun a0 a1 a2 r h=>by
 refine X0l.sym X6 fn47 (nt:=12) rfl rfl ?_ okM
 unfold Xdl at h
 revert h
 exact fun e=>oj e▸Xa [] (k:=fi)⟩
instance Xve:PCs Tryz.prog 16 (∀ (a0:Int) (r:Xh),Xae a0=some r->X0l Tryz.prog 16 [(aI .i64 a0)] (Xe r)):=⟨fun a0 r h=>by
 refine X0l.sym X6 fn16 (nt:=5) rfl rfl ?_ okM
 unfold Xae at h
 revert h
 exact fun e=>oj e▸Xa [] (k:=fi)⟩
instance Xx9:PCs Tryz.prog 75 (∀ (a0:Int) (r:(List Int)×Int),Xh3 a0=some r->X0l Tryz.prog 75 [(aI .i64 a0)] (AV.tup [(AV.list true (List.map (aI .i64) r.1)),(aI .i64 r.2)])):=⟨fun a0 r h=>by
 refine X0l.sym X6 fn75 (nt:=13) rfl rfl ?_ okM
 unfold Xh3 at h
 revert h
 refine brI (fun h1=>fun e=>oj e▸Xa [Bt] (k:=fi)) fun h1=>?_
 refine brI (fun h2=>?_) fun h2=>?_
 ·
  intro h
  obtain rfl:a0=1:=eq_of_beq h2
  refine X0i [Bf] (o:=by repeat' first|apply Ya|exact pcM|(decide +kernel)|exact Xw) ?_
  refine X3.inline X6 Xwi rfl rfl rfl rfl rfl trivial trivial rfl rfl ?_
  refine X0i [Bf,.wrap,.wrap] (o:=by repeat' first|apply Ya|exact pcM|(decide +kernel)|exact Xw) ?_
  refine X3.inline X6 Xwh rfl rfl rfl rfl rfl trivial trivial rfl rfl ?_
  refine X0i [Bf] (o:=by repeat' first|apply Ya|exact pcM|(decide +kernel)|exact Xw) ?_
  refine X3.inline X6 Xwg rfl rfl rfl rfl rfl trivial trivial rfl rfl ?_
  refine X0i [] (o:=by repeat' first|apply Ya|exact pcM|(decide +kernel)|exact Xw) ?_
  refine X3.back (by intro id h;cases h) rfl ?_
  refine X0i [] (o:=by repeat' first|apply Ya|exact pcM|(decide +kernel)|exact Xw) ?_
  refine X3.back (by intro id h;cases h) rfl ?_
  refine X0i [.go true,.go true,Bf,.wrap] (o:=by repeat' first|apply Ya|exact pcM|(decide +kernel)|exact((show((8:Nat):Int)*1<=281474976710656 by decide))|exact Xw) ?_
  refine X3.copyS [(aI .i64 (-9223372036854775808))] 1 X6 rfl rfl rfl rfl trivial rfl rfl rfl trivial (.ref rfl (by decide)) rfl rfl rfl rfl rfl rfl rfl rfl ?_
  refine X0i [] (o:=by repeat' first|apply Ya|exact pcM|(decide +kernel)|exact Xw) ?_
  refine X3.round ?_
  refine X0i [Bf] (o:=by repeat' first|apply Ya|exact pcM|(decide +kernel)|exact Xw) ?_
  refine X3.back (by intro id h;cases h) rfl ?_
  revert h
  exact fun e=>oj e▸Xa [] (o:=by repeat' first|apply Ya|exact pcM|(decide +kernel)|exact Xw) (k:=fi)
 refine brI (fun h3=>?_) fun h3=>?_
 ·
  intro h
  obtain rfl:a0=2:=eq_of_beq h3
  refine X0i [Bf] (o:=by repeat' first|apply Ya|exact pcM|(decide +kernel)|exact Xw) ?_
  refine X3.inline X6 Xwi rfl rfl rfl rfl rfl trivial trivial rfl rfl ?_
  refine X0i [Bf,.wrap,.wrap] (o:=by repeat' first|apply Ya|exact pcM|(decide +kernel)|exact Xw) ?_
  refine X3.inline X6 Xwh rfl rfl rfl rfl rfl trivial trivial rfl rfl ?_
  refine X0i [Bf] (o:=by repeat' first|apply Ya|exact pcM|(decide +kernel)|exact Xw) ?_
  refine X3.inline X6 Xwg rfl rfl rfl rfl rfl trivial trivial rfl rfl ?_
  refine X0i [] (o:=by repeat' first|apply Ya|exact pcM|(decide +kernel)|exact Xw) ?_
  refine X3.back (by intro id h;cases h) rfl ?_
  refine X0i [] (o:=by repeat' first|apply Ya|exact pcM|(decide +kernel)|exact Xw) ?_
  refine X3.back (by intro id h;cases h) rfl ?_
  refine X0i [.go true,.go true,Bf,.wrap] (o:=by repeat' first|apply Ya|exact pcM|(decide +kernel)|exact((show((8:Nat):Int)*2<=281474976710656 by decide))|exact Xw) ?_
  refine X3.copyS [(aI .i64 (-9223372036854775808)),(aI .i64 0)] 1 X6 rfl rfl rfl rfl trivial rfl rfl rfl trivial (.ref rfl (by decide)) rfl rfl rfl rfl rfl rfl rfl rfl ?_
  refine X0i [] (o:=by repeat' first|apply Ya|exact pcM|(decide +kernel)|exact Xw) ?_
  refine X3.round ?_
  refine X0i [Bt,.stop 9] (o:=by repeat' first|apply Ya|exact pcM|(decide +kernel)|exact Xw) ?_
  refine X3.drawnCutF 7 tmD [] rfl rfl rfl rfl rfl rfl rfl (by decide) rfl rfl rfl (by decide) (by decide) (by decide) (by decide) rfl rfl rfl rfl rfl rfl rfl (by repeat' first|apply Ya|exact pcM|(decide +kernel)|exact Xw) ?_
  refine X0i [] (o:=by repeat' first|apply Ya|exact pcM|(decide +kernel)|exact Xw) ?_
  refine X3.copyS [(aI .i64 (-9223372036854775808)),(aI .i64 (-9223372036854775808))] 1 X6 rfl rfl rfl rfl trivial rfl rfl rfl trivial (.ref rfl (by decide)) rfl rfl rfl rfl rfl rfl rfl rfl ?_
  refine X0i [] (o:=by repeat' first|apply Ya|exact pcM|(decide +kernel)|exact Xw) ?_
  refine X3.round ?_
  refine X0i [Bf] (o:=by repeat' first|apply Ya|exact pcM|(decide +kernel)|exact Xw) ?_
  refine X3.back (by intro id h;cases h) rfl ?_
  revert h
  exact fun e=>oj e▸Xa [] (o:=by repeat' first|apply Ya|exact pcM|(decide +kernel)|exact Xw) (k:=fi)
 refine brI (fun h4=>?_) fun h4=>?_
 ·
  intro h
  obtain rfl:a0=3:=eq_of_beq h4
  refine X0i [Bf] (o:=by repeat' first|apply Ya|exact pcM|(decide +kernel)|exact Xw) ?_
  refine X3.inline X6 Xwi rfl rfl rfl rfl rfl trivial trivial rfl rfl ?_
  refine X0i [Bf,.wrap,.wrap] (o:=by repeat' first|apply Ya|exact pcM|(decide +kernel)|exact Xw) ?_
  refine X3.inline X6 Xwh rfl rfl rfl rfl rfl trivial trivial rfl rfl ?_
  refine X0i [Bf] (o:=by repeat' first|apply Ya|exact pcM|(decide +kernel)|exact Xw) ?_
  refine X3.inline X6 Xwg rfl rfl rfl rfl rfl trivial trivial rfl rfl ?_
  refine X0i [] (o:=by repeat' first|apply Ya|exact pcM|(decide +kernel)|exact Xw) ?_
  refine X3.back (by intro id h;cases h) rfl ?_
  refine X0i [] (o:=by repeat' first|apply Ya|exact pcM|(decide +kernel)|exact Xw) ?_
  refine X3.back (by intro id h;cases h) rfl ?_
  refine X0i [.go true,.go true,Bf,.wrap] (o:=by repeat' first|apply Ya|exact pcM|(decide +kernel)|exact((show((8:Nat):Int)*3<=281474976710656 by decide))|exact Xw) ?_
  refine X3.copyS [(aI .i64 (-9223372036854775808)),(aI .i64 0),(aI .i64 0)] 1 X6 rfl rfl rfl rfl trivial rfl rfl rfl trivial (.ref rfl (by decide)) rfl rfl rfl rfl rfl rfl rfl rfl ?_
  refine X0i [] (o:=by repeat' first|apply Ya|exact pcM|(decide +kernel)|exact Xw) ?_
  refine X3.round ?_
  refine X0i [Bt,.stop 9] (o:=by repeat' first|apply Ya|exact pcM|(decide +kernel)|exact Xw) ?_
  refine X3.drawnCutF 7 tmD [] rfl rfl rfl rfl rfl rfl rfl (by decide) rfl rfl rfl (by decide) (by decide) (by decide) (by decide) rfl rfl rfl rfl rfl rfl rfl (by repeat' first|apply Ya|exact pcM|(decide +kernel)|exact Xw) ?_
  refine X0i [] (o:=by repeat' first|apply Ya|exact pcM|(decide +kernel)|exact Xw) ?_
  refine X3.copyS [(aI .i64 (-9223372036854775808)),(aI .i64 (-9223372036854775808)),(aI .i64 0)] 1 X6 rfl rfl rfl rfl trivial rfl rfl rfl trivial (.ref rfl (by decide)) rfl rfl rfl rfl rfl rfl rfl rfl ?_
  refine X0i [] (o:=by repeat' first|apply Ya|exact pcM|(decide +kernel)|exact Xw) ?_
  refine X3.round ?_
  refine X0i [Bt,.stop 9] (o:=by repeat' first|apply Ya|exact pcM|(decide +kernel)|exact Xw) ?_
  refine X3.drawnCutF 7 tmD [] rfl rfl rfl rfl rfl rfl rfl (by decide) rfl rfl rfl (by decide) (by decide) (by decide) (by decide) rfl rfl rfl rfl rfl rfl rfl (by repeat' first|apply Ya|exact pcM|(decide +kernel)|exact Xw) ?_
  refine X0i [] (o:=by repeat' first|apply Ya|exact pcM|(decide +kernel)|exact Xw) ?_
  refine X3.copyS [(aI .i64 (-9223372036854775808)),(aI .i64 (-9223372036854775808)),(aI .i64 (-9223372036854775808))] 1 X6 rfl rfl rfl rfl trivial rfl rfl rfl trivial (.ref rfl (by decide)) rfl rfl rfl rfl rfl rfl rfl rfl ?_
  refine X0i [] (o:=by repeat' first|apply Ya|exact pcM|(decide +kernel)|exact Xw) ?_
  refine X3.round ?_
  refine X0i [Bf] (o:=by repeat' first|apply Ya|exact pcM|(decide +kernel)|exact Xw) ?_
  refine X3.back (by intro id h;cases h) rfl ?_
  revert h
  exact fun e=>oj e▸Xa [] (o:=by repeat' first|apply Ya|exact pcM|(decide +kernel)|exact Xw) (k:=fi)
 refine brI (fun h5=>?_) fun h5=>?_
 ·
  intro h
  obtain rfl:a0=4:=eq_of_beq h5
  refine X0i [Bf] (o:=by repeat' first|apply Ya|exact pcM|(decide +kernel)|exact Xw) ?_
  refine X3.inline X6 Xwi rfl rfl rfl rfl rfl trivial trivial rfl rfl ?_
  refine X0i [Bf,.wrap,.wrap] (o:=by repeat' first|apply Ya|exact pcM|(decide +kernel)|exact Xw) ?_
  refine X3.inline X6 Xwh rfl rfl rfl rfl rfl trivial trivial rfl rfl ?_
  refine X0i [Bf] (o:=by repeat' first|apply Ya|exact pcM|(decide +kernel)|exact Xw) ?_
  refine X3.inline X6 Xwg rfl rfl rfl rfl rfl trivial trivial rfl rfl ?_
  refine X0i [] (o:=by repeat' first|apply Ya|exact pcM|(decide +kernel)|exact Xw) ?_
  refine X3.back (by intro id h;cases h) rfl ?_
  refine X0i [] (o:=by repeat' first|apply Ya|exact pcM|(decide +kernel)|exact Xw) ?_
  refine X3.back (by intro id h;cases h) rfl ?_
  refine X0i [.go true,.go true,Bf,.wrap] (o:=by repeat' first|apply Ya|exact pcM|(decide +kernel)|exact((show((8:Nat):Int)*4<=281474976710656 by decide))|exact Xw) ?_
  refine X3.copyS [(aI .i64 (-9223372036854775808)),(aI .i64 0),(aI .i64 0),(aI .i64 0)] 1 X6 rfl rfl rfl rfl trivial rfl rfl rfl trivial (.ref rfl (by decide)) rfl rfl rfl rfl rfl rfl rfl rfl ?_
  refine X0i [] (o:=by repeat' first|apply Ya|exact pcM|(decide +kernel)|exact Xw) ?_
  refine X3.round ?_
  refine X0i [Bt,.stop 9] (o:=by repeat' first|apply Ya|exact pcM|(decide +kernel)|exact Xw) ?_
  refine X3.drawnCutF 7 tmD [] rfl rfl rfl rfl rfl rfl rfl (by decide) rfl rfl rfl (by decide) (by decide) (by decide) (by decide) rfl rfl rfl rfl rfl rfl rfl (by repeat' first|apply Ya|exact pcM|(decide +kernel)|exact Xw) ?_
  refine X0i [] (o:=by repeat' first|apply Ya|exact pcM|(decide +kernel)|exact Xw) ?_
  refine X3.copyS [(aI .i64 (-9223372036854775808)),(aI .i64 (-9223372036854775808)),(aI .i64 0),(aI .i64 0)] 1 X6 rfl rfl rfl rfl trivial rfl rfl rfl trivial (.ref rfl (by decide)) rfl rfl rfl rfl rfl rfl rfl rfl ?_
  refine X0i [] (o:=by repeat' first|apply Ya|exact pcM|(decide +kernel)|exact Xw) ?_
  refine X3.round ?_
  refine X0i [Bt,.stop 9] (o:=by repeat' first|apply Ya|exact pcM|(decide +kernel)|exact Xw) ?_
  refine X3.drawnCutF 7 tmD [] rfl rfl rfl rfl rfl rfl rfl (by decide) rfl rfl rfl (by decide) (by decide) (by decide) (by decide) rfl rfl rfl rfl rfl rfl rfl (by repeat' first|apply Ya|exact pcM|(decide +kernel)|exact Xw) ?_
  refine X0i [] (o:=by repeat' first|apply Ya|exact pcM|(decide +kernel)|exact Xw) ?_
  refine X3.copyS [(aI .i64 (-9223372036854775808)),(aI .i64 (-9223372036854775808)),(aI .i64 (-9223372036854775808)),(aI .i64 (-9223372036854775808))] 2 X6 rfl rfl rfl rfl trivial rfl rfl rfl trivial (.ref rfl (by decide)) rfl rfl rfl rfl rfl rfl rfl rfl ?_
  refine X0i [] (o:=by repeat' first|apply Ya|exact pcM|(decide +kernel)|exact Xw) ?_
  refine X3.round ?_
  refine X0i [Bf] (o:=by repeat' first|apply Ya|exact pcM|(decide +kernel)|exact Xw) ?_
  refine X3.back (by intro id h;cases h) rfl ?_
  revert h
  exact fun e=>oj e▸Xa [] (o:=by repeat' first|apply Ya|exact pcM|(decide +kernel)|exact Xw) (k:=fi)
 intro h
 cases h⟩
instance Xyj:PCs Tryz.prog 33 (∀ (a0:Int) (r:X0a×Int),Xg7 a0=some r->X0l Tryz.prog 33 [(aI .i64 a0)] (AV.tup [(Xr true r.1),(aI .i64 r.2)])):=⟨fun a0 r h=>by
 refine X0l.sym X6 fn33 (nt:=21) rfl rfl ?_ okM
 unfold Xg7 at h
 revert h
 exact brI (fun h1=>fun e=>oj e▸Xa [Bt] (k:=fi)) fun h1=>bI fun v2 h3=>fun e=>oj e▸Xa [Bf,.pure _ (AV.tup [(AV.list true (List.map (aI .i64) v2.1)),(aI .i64 v2.2)])] (k:=fi)⟩
instance Xu8:PCs Tryz.prog 210 (∀ (a0:Int) (r:Int×Int),X92 a0=some r->X0l Tryz.prog 210 [(aI .u8 a0)] (AV.tup [(aI .i64 r.1),(aI .i64 r.2)])):=⟨fun a0 r h=>by
 refine X0l.sym X6 X02o (nt:=25) rfl rfl ?_ okM
 unfold X92 at h
 revert h
 exact brI (fun h1=>fun e=>oj e▸Xa [Bt] (k:=fi)) fun h1=>brI (fun h2=>fun e=>oj e▸Xa [Bf,Bt] (k:=fi)) fun h2=>brI (fun h3=>fun e=>oj e▸Xa [Bf,Bf,Bt] (k:=fi)) fun h3=>fun e=>oj e▸Xa [Bf,Bf,Bf] (k:=fi)⟩
end Go.Av.Tryz