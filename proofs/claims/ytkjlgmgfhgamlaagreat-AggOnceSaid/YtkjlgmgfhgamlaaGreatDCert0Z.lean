/- Printed by decomp.py: that the program computes the functions. -/
import Derived.Test.YtkjlgmgfhgamlaaGreatDFunZ
import Derived.Test.YtkjlgmgfhgamlaaGreatTabZ
import Derived.Test.YtkjlgmgfhgamlaaGreatDeleteZ
import Derived.Test.YtkjlgmgfhgamlaaGreatInsertZ
set_option linter.all false

namespace Go.Av.Tryz
open Go.Proofs Go.D
set_option maxRecDepth 10000
set_option maxHeartbeats 40000000
theorem tmD:Xar Tryz.prog Xxy.find/\Tryz.prog.follows .mixedOrders=true:=⟨X5,by kernel_rfl⟩
instance tmI:TmD Tryz.prog Xxy.find:=⟨tmD⟩
theorem fn10:X23 Tryz.prog 10 Tryz.f10 (Xb Tryz.f10):=⟨Tryz.func10,by kernel_rfl,rfl⟩
theorem fn13:X23 Tryz.prog 13 Tryz.f13 (Xb Tryz.f13):=⟨Tryz.func13,by kernel_rfl,rfl⟩
theorem fn19:X23 Tryz.prog 19 Tryz.f19 (Xb Tryz.f19):=⟨Tryz.func19,by kernel_rfl,rfl⟩
theorem fn20:X23 Tryz.prog 20 Tryz.f20 (Xb Tryz.f20):=⟨Tryz.func20,by kernel_rfl,rfl⟩
theorem fn21:X23 Tryz.prog 21 Tryz.f21 (Xb Tryz.f21):=⟨Tryz.func21,by kernel_rfl,rfl⟩
theorem fn22:X23 Tryz.prog 22 Tryz.f22 (Xb Tryz.f22):=⟨Tryz.func22,by kernel_rfl,rfl⟩
theorem fn24:X23 Tryz.prog 24 Tryz.f24 (Xb Tryz.f24):=⟨Tryz.func24,by kernel_rfl,rfl⟩
theorem fn27:X23 Tryz.prog 27 Tryz.f27 (Xb Tryz.f27):=⟨Tryz.func27,by kernel_rfl,rfl⟩
theorem fn28:X23 Tryz.prog 28 Tryz.f28 (Xb Tryz.f28):=⟨Tryz.func28,by kernel_rfl,rfl⟩
theorem fn29:X23 Tryz.prog 29 Tryz.f29 (Xb Tryz.f29):=⟨Tryz.func29,by kernel_rfl,rfl⟩
theorem fn37:X23 Tryz.prog 37 Tryz.f37 (Xb Tryz.f37):=⟨Tryz.func37,by kernel_rfl,rfl⟩
theorem fn38:X23 Tryz.prog 38 Tryz.f38 (Xb Tryz.f38):=⟨Tryz.func38,by kernel_rfl,rfl⟩
theorem fn41:X23 Tryz.prog 41 Tryz.f41 (Xb Tryz.f41):=⟨Tryz.func41,by kernel_rfl,rfl⟩
theorem fn43:X23 Tryz.prog 43 Tryz.f43 (Xb Tryz.f43):=⟨Tryz.func43,by kernel_rfl,rfl⟩
theorem fn45:X23 Tryz.prog 45 Tryz.f45 (Xb Tryz.f45):=⟨Tryz.func45,by kernel_rfl,rfl⟩
theorem fn49:X23 Tryz.prog 49 Tryz.f49 (Xb Tryz.f49):=⟨Tryz.func49,by kernel_rfl,rfl⟩
theorem fn50:X23 Tryz.prog 50 Tryz.f50 (Xb Tryz.f50):=⟨Tryz.func50,by kernel_rfl,rfl⟩
theorem fn51:X23 Tryz.prog 51 Tryz.f51 (Xb Tryz.f51):=⟨Tryz.func51,by kernel_rfl,rfl⟩
theorem fn52:X23 Tryz.prog 52 Tryz.f52 (Xb Tryz.f52):=⟨Tryz.func52,by kernel_rfl,rfl⟩
theorem fn58:X23 Tryz.prog 58 Tryz.f58 (Xb Tryz.f58):=⟨Tryz.func58,by kernel_rfl,rfl⟩
theorem fn59:X23 Tryz.prog 59 Tryz.f59 (Xb Tryz.f59):=⟨Tryz.func59,by kernel_rfl,rfl⟩
theorem fn60:X23 Tryz.prog 60 Tryz.f60 (Xb Tryz.f60):=⟨Tryz.func60,by kernel_rfl,rfl⟩
theorem fn61:X23 Tryz.prog 61 Tryz.f61 (Xb Tryz.f61):=⟨Tryz.func61,by kernel_rfl,rfl⟩
theorem fn62:X23 Tryz.prog 62 Tryz.f62 (Xb Tryz.f62):=⟨Tryz.func62,by kernel_rfl,rfl⟩
theorem fn63:X23 Tryz.prog 63 Tryz.f63 (Xb Tryz.f63):=⟨Tryz.func63,by kernel_rfl,rfl⟩
theorem fn64:X23 Tryz.prog 64 Tryz.f64 (Xb Tryz.f64):=⟨Tryz.func64,by kernel_rfl,rfl⟩
theorem fn65:X23 Tryz.prog 65 Tryz.f65 (Xb Tryz.f65):=⟨Tryz.func65,by kernel_rfl,rfl⟩
theorem fn66:X23 Tryz.prog 66 Tryz.f66 (Xb Tryz.f66):=⟨Tryz.func66,by kernel_rfl,rfl⟩
theorem fn67:X23 Tryz.prog 67 Tryz.f67 (Xb Tryz.f67):=⟨Tryz.func67,by kernel_rfl,rfl⟩
theorem fn68:X23 Tryz.prog 68 Tryz.f68 (Xb Tryz.f68):=⟨Tryz.func68,by kernel_rfl,rfl⟩
theorem fn75:X23 Tryz.prog 75 Tryz.f75 (Xb Tryz.f75):=⟨Tryz.func75,by kernel_rfl,rfl⟩
theorem fn77:X23 Tryz.prog 77 Tryz.f77 (Xb Tryz.f77):=⟨Tryz.func77,by kernel_rfl,rfl⟩
theorem fn78:X23 Tryz.prog 78 Tryz.f78 (Xb Tryz.f78):=⟨Tryz.func78,by kernel_rfl,rfl⟩
theorem fn79:X23 Tryz.prog 79 Tryz.f79 (Xb Tryz.f79):=⟨Tryz.func79,by kernel_rfl,rfl⟩
theorem fn80:X23 Tryz.prog 80 Tryz.f80 (Xb Tryz.f80):=⟨Tryz.func80,by kernel_rfl,rfl⟩
theorem fn81:X23 Tryz.prog 81 Tryz.f81 (Xb Tryz.f81):=⟨Tryz.func81,by kernel_rfl,rfl⟩
theorem fn82:X23 Tryz.prog 82 Tryz.f82 (Xb Tryz.f82):=⟨Tryz.func82,by kernel_rfl,rfl⟩
theorem fn83:X23 Tryz.prog 83 Tryz.f83 (Xb Tryz.f83):=⟨Tryz.func83,by kernel_rfl,rfl⟩
theorem fn84:X23 Tryz.prog 84 Tryz.f84 (Xb Tryz.f84):=⟨Tryz.func84,by kernel_rfl,rfl⟩
theorem fn86:X23 Tryz.prog 86 Tryz.f86 (Xb Tryz.f86):=⟨Tryz.func86,by kernel_rfl,rfl⟩
theorem fn87:X23 Tryz.prog 87 Tryz.f87 (Xb Tryz.f87):=⟨Tryz.func87,by kernel_rfl,rfl⟩
theorem fn94:X23 Tryz.prog 94 Tryz.f94 (Xb Tryz.f94):=⟨Tryz.func94,by kernel_rfl,rfl⟩
theorem fn95:X23 Tryz.prog 95 Tryz.f95 (Xb Tryz.f95):=⟨Tryz.func95,by kernel_rfl,rfl⟩
theorem fn96:X23 Tryz.prog 96 Tryz.f96 (Xb Tryz.f96):=⟨Tryz.func96,by kernel_rfl,rfl⟩
theorem fn97:X23 Tryz.prog 97 Tryz.f97 (Xb Tryz.f97):=⟨Tryz.func97,by kernel_rfl,rfl⟩
theorem fn98:X23 Tryz.prog 98 Tryz.f98 (Xb Tryz.f98):=⟨Tryz.func98,by kernel_rfl,rfl⟩
theorem fn99:X23 Tryz.prog 99 Tryz.f99 (Xb Tryz.f99):=⟨Tryz.func99,by kernel_rfl,rfl⟩
theorem X04e:X23 Tryz.prog 100 Tryz.f100 (Xb Tryz.f100):=⟨Tryz.func100,by kernel_rfl,rfl⟩
theorem X04d:X23 Tryz.prog 101 Tryz.f101 (Xb Tryz.f101):=⟨Tryz.func101,by kernel_rfl,rfl⟩
theorem X04c:X23 Tryz.prog 102 Tryz.f102 (Xb Tryz.f102):=⟨Tryz.func102,by kernel_rfl,rfl⟩
theorem X04b:X23 Tryz.prog 103 Tryz.f103 (Xb Tryz.f103):=⟨Tryz.func103,by kernel_rfl,rfl⟩
theorem X01q:X23 Tryz.prog 104 Tryz.f104 (Xb Tryz.f104):=⟨Tryz.func104,by kernel_rfl,rfl⟩
theorem X04a:X23 Tryz.prog 105 Tryz.f105 (Xb Tryz.f105):=⟨Tryz.func105,by kernel_rfl,rfl⟩
theorem Xwp:X23 Tryz.prog 114 Tryz.f114 (Xb Tryz.f114):=⟨Tryz.func114,by kernel_rfl,rfl⟩
theorem X049:X23 Tryz.prog 115 Tryz.f115 (Xb Tryz.f115):=⟨Tryz.func115,by kernel_rfl,rfl⟩
theorem X048:X23 Tryz.prog 116 Tryz.f116 (Xb Tryz.f116):=⟨Tryz.func116,by kernel_rfl,rfl⟩
theorem X047:X23 Tryz.prog 117 Tryz.f117 (Xb Tryz.f117):=⟨Tryz.func117,by kernel_rfl,rfl⟩
theorem X01p:X23 Tryz.prog 118 Tryz.f118 (Xb Tryz.f118):=⟨Tryz.func118,by kernel_rfl,rfl⟩
theorem X01o:X23 Tryz.prog 119 Tryz.f119 (Xb Tryz.f119):=⟨Tryz.func119,by kernel_rfl,rfl⟩
theorem X046:X23 Tryz.prog 120 Tryz.f120 (Xb Tryz.f120):=⟨Tryz.func120,by kernel_rfl,rfl⟩
theorem Xzg:X23 Tryz.prog 121 Tryz.f121 (Xb Tryz.f121):=⟨Tryz.func121,by kernel_rfl,rfl⟩
theorem X045:X23 Tryz.prog 122 Tryz.f122 (Xb Tryz.f122):=⟨Tryz.func122,by kernel_rfl,rfl⟩
theorem X044:X23 Tryz.prog 123 Tryz.f123 (Xb Tryz.f123):=⟨Tryz.func123,by kernel_rfl,rfl⟩
theorem X043:X23 Tryz.prog 124 Tryz.f124 (Xb Tryz.f124):=⟨Tryz.func124,by kernel_rfl,rfl⟩
theorem X042:X23 Tryz.prog 125 Tryz.f125 (Xb Tryz.f125):=⟨Tryz.func125,by kernel_rfl,rfl⟩
theorem Xqv:X23 Tryz.prog 126 Tryz.f126 (Xb Tryz.f126):=⟨Tryz.func126,by kernel_rfl,rfl⟩
theorem X041:X23 Tryz.prog 127 Tryz.f127 (Xb Tryz.f127):=⟨Tryz.func127,by kernel_rfl,rfl⟩
theorem X040:X23 Tryz.prog 128 Tryz.f128 (Xb Tryz.f128):=⟨Tryz.func128,by kernel_rfl,rfl⟩
theorem X03z:X23 Tryz.prog 129 Tryz.f129 (Xb Tryz.f129):=⟨Tryz.func129,by kernel_rfl,rfl⟩
theorem X03y:X23 Tryz.prog 130 Tryz.f130 (Xb Tryz.f130):=⟨Tryz.func130,by kernel_rfl,rfl⟩
theorem X03x:X23 Tryz.prog 131 Tryz.f131 (Xb Tryz.f131):=⟨Tryz.func131,by kernel_rfl,rfl⟩
theorem X03w:X23 Tryz.prog 132 Tryz.f132 (Xb Tryz.f132):=⟨Tryz.func132,by kernel_rfl,rfl⟩
theorem X03v:X23 Tryz.prog 133 Tryz.f133 (Xb Tryz.f133):=⟨Tryz.func133,by kernel_rfl,rfl⟩
theorem X03u:X23 Tryz.prog 134 Tryz.f134 (Xb Tryz.f134):=⟨Tryz.func134,by kernel_rfl,rfl⟩
theorem X03t:X23 Tryz.prog 135 Tryz.f135 (Xb Tryz.f135):=⟨Tryz.func135,by kernel_rfl,rfl⟩
theorem X01n:X23 Tryz.prog 136 Tryz.f136 (Xb Tryz.f136):=⟨Tryz.func136,by kernel_rfl,rfl⟩
theorem X03s:X23 Tryz.prog 137 Tryz.f137 (Xb Tryz.f137):=⟨Tryz.func137,by kernel_rfl,rfl⟩
theorem X03r:X23 Tryz.prog 138 Tryz.f138 (Xb Tryz.f138):=⟨Tryz.func138,by kernel_rfl,rfl⟩
theorem X03q:X23 Tryz.prog 139 Tryz.f139 (Xb Tryz.f139):=⟨Tryz.func139,by kernel_rfl,rfl⟩
theorem Xwo:X23 Tryz.prog 144 Tryz.f144 (Xb Tryz.f144):=⟨Tryz.func144,by kernel_rfl,rfl⟩
theorem X03p:X23 Tryz.prog 145 Tryz.f145 (Xb Tryz.f145):=⟨Tryz.func145,by kernel_rfl,rfl⟩
theorem X03o:X23 Tryz.prog 146 Tryz.f146 (Xb Tryz.f146):=⟨Tryz.func146,by kernel_rfl,rfl⟩
theorem X01m:X23 Tryz.prog 147 Tryz.f147 (Xb Tryz.f147):=⟨Tryz.func147,by kernel_rfl,rfl⟩
theorem X01l:X23 Tryz.prog 148 Tryz.f148 (Xb Tryz.f148):=⟨Tryz.func148,by kernel_rfl,rfl⟩
theorem X03n:X23 Tryz.prog 150 Tryz.f150 (Xb Tryz.f150):=⟨Tryz.func150,by kernel_rfl,rfl⟩
theorem X03m:X23 Tryz.prog 151 Tryz.f151 (Xb Tryz.f151):=⟨Tryz.func151,by kernel_rfl,rfl⟩
theorem X01k:X23 Tryz.prog 152 Tryz.f152 (Xb Tryz.f152):=⟨Tryz.func152,by kernel_rfl,rfl⟩
theorem X03l:X23 Tryz.prog 155 Tryz.f155 (Xb Tryz.f155):=⟨Tryz.func155,by kernel_rfl,rfl⟩
theorem X03k:X23 Tryz.prog 156 Tryz.f156 (Xb Tryz.f156):=⟨Tryz.func156,by kernel_rfl,rfl⟩
theorem X03j:X23 Tryz.prog 157 Tryz.f157 (Xb Tryz.f157):=⟨Tryz.func157,by kernel_rfl,rfl⟩
theorem X03i:X23 Tryz.prog 158 Tryz.f158 (Xb Tryz.f158):=⟨Tryz.func158,by kernel_rfl,rfl⟩
theorem X03h:X23 Tryz.prog 159 Tryz.f159 (Xb Tryz.f159):=⟨Tryz.func159,by kernel_rfl,rfl⟩
theorem Xwn:X23 Tryz.prog 166 Tryz.f166 (Xb Tryz.f166):=⟨Tryz.func166,by kernel_rfl,rfl⟩
theorem X03g:X23 Tryz.prog 167 Tryz.f167 (Xb Tryz.f167):=⟨Tryz.func167,by kernel_rfl,rfl⟩
theorem X01j:X23 Tryz.prog 168 Tryz.f168 (Xb Tryz.f168):=⟨Tryz.func168,by kernel_rfl,rfl⟩
theorem X03f:X23 Tryz.prog 169 Tryz.f169 (Xb Tryz.f169):=⟨Tryz.func169,by kernel_rfl,rfl⟩
theorem X03e:X23 Tryz.prog 170 Tryz.f170 (Xb Tryz.f170):=⟨Tryz.func170,by kernel_rfl,rfl⟩
theorem X01i:X23 Tryz.prog 171 Tryz.f171 (Xb Tryz.f171):=⟨Tryz.func171,by kernel_rfl,rfl⟩
theorem X03d:X23 Tryz.prog 173 Tryz.f173 (Xb Tryz.f173):=⟨Tryz.func173,by kernel_rfl,rfl⟩
theorem X03c:X23 Tryz.prog 174 Tryz.f174 (Xb Tryz.f174):=⟨Tryz.func174,by kernel_rfl,rfl⟩
theorem X03b:X23 Tryz.prog 175 Tryz.f175 (Xb Tryz.f175):=⟨Tryz.func175,by kernel_rfl,rfl⟩
theorem X03a:X23 Tryz.prog 176 Tryz.f176 (Xb Tryz.f176):=⟨Tryz.func176,by kernel_rfl,rfl⟩
theorem X039:X23 Tryz.prog 177 Tryz.f177 (Xb Tryz.f177):=⟨Tryz.func177,by kernel_rfl,rfl⟩
theorem X038:X23 Tryz.prog 178 Tryz.f178 (Xb Tryz.f178):=⟨Tryz.func178,by kernel_rfl,rfl⟩
theorem X037:X23 Tryz.prog 179 Tryz.f179 (Xb Tryz.f179):=⟨Tryz.func179,by kernel_rfl,rfl⟩
theorem X036:X23 Tryz.prog 180 Tryz.f180 (Xb Tryz.f180):=⟨Tryz.func180,by kernel_rfl,rfl⟩
theorem X035:X23 Tryz.prog 181 Tryz.f181 (Xb Tryz.f181):=⟨Tryz.func181,by kernel_rfl,rfl⟩
theorem X01h:X23 Tryz.prog 185 Tryz.f185 (Xb Tryz.f185):=⟨Tryz.func185,by kernel_rfl,rfl⟩
theorem X034:X23 Tryz.prog 194 Tryz.f194 (Xb Tryz.f194):=⟨Tryz.func194,by kernel_rfl,rfl⟩
theorem X033:X23 Tryz.prog 196 Tryz.f196 (Xb Tryz.f196):=⟨Tryz.func196,by kernel_rfl,rfl⟩
theorem X032:X23 Tryz.prog 197 Tryz.f197 (Xb Tryz.f197):=⟨Tryz.func197,by kernel_rfl,rfl⟩
theorem X031:X23 Tryz.prog 198 Tryz.f198 (Xb Tryz.f198):=⟨Tryz.func198,by kernel_rfl,rfl⟩
theorem X030:X23 Tryz.prog 199 Tryz.f199 (Xb Tryz.f199):=⟨Tryz.func199,by kernel_rfl,rfl⟩
theorem X02z:X23 Tryz.prog 210 Tryz.f210 (Xb Tryz.f210):=⟨Tryz.func210,by kernel_rfl,rfl⟩
theorem Xwm:X23 Tryz.prog 211 Tryz.f211 (Xb Tryz.f211):=⟨Tryz.func211,by kernel_rfl,rfl⟩
theorem Xj2:X23 Tryz.prog 212 Tryz.f212 (Xb Tryz.f212):=⟨Tryz.func212,by kernel_rfl,rfl⟩
instance Xv2:PCs Tryz.prog 50 (∀ (r:X07),Xdc=some r->X0j Tryz.prog 50 [] (Xy true r)):=⟨fun r h=>by
 refine X0j.sym X5 fn50 (nt:=4) rfl rfl ?_ okM
 unfold Xdc at h
 revert h
 exact fun e=>oj e▸Xa [] (k:=fi)⟩
instance Xxj:PCs Tryz.prog 51 (∀ (a0:Int) (a1:Int) (a2:Int) (r:Xg),Xdz a0 a1 a2=some r->X0j Tryz.prog 51 [(aI .i64 a0),(aI .i64 a1),(aI .i64 a2)] (Xo r)):=⟨fun a0 a1 a2 r h=>by
 refine X0j.sym X5 fn51 (nt:=12) rfl rfl ?_ okM
 unfold Xdz at h
 revert h
 exact fun e=>oj e▸Xa [] (k:=fi)⟩
instance Xw3:PCs Tryz.prog 22 (∀ (a0:Int) (r:Xg),Xez a0=some r->X0j Tryz.prog 22 [(aI .i64 a0)] (Xo r)):=⟨fun a0 r h=>by
 refine X0j.sym X5 fn22 (nt:=5) rfl rfl ?_ okM
 unfold Xez at h
 revert h
 exact fun e=>oj e▸Xa [] (k:=fi)⟩
instance Xxg:PCs Tryz.prog 75 (∀ (a0:Int) (r:(List Int)×Int),Xho a0=some r->X0j Tryz.prog 75 [(aI .i64 a0)] (AV.tup [(AV.list true (List.map (aI .i64) r.1)),(aI .i64 r.2)])):=⟨fun a0 r h=>by
 refine X0j.sym X5 fn75 (nt:=13) rfl rfl ?_ okM
 unfold Xho at h
 revert h
 refine brI (fun h1=>fun e=>oj e▸Xa [Bt] (k:=fi)) fun h1=>?_
 refine brI (fun h2=>?_) fun h2=>?_
 ·
  intro h
  obtain rfl:a0=1:=eq_of_beq h2
  refine X09 [Bf] (o:=by repeat' first|apply Ya|exact pcM|(decide +kernel)|exact X04) ?_
  refine X3.inline X5 Xwp rfl rfl rfl rfl rfl trivial trivial rfl rfl ?_
  refine X09 [Bf,.wrap,.wrap] (o:=by repeat' first|apply Ya|exact pcM|(decide +kernel)|exact X04) ?_
  refine X3.inline X5 Xwo rfl rfl rfl rfl rfl trivial trivial rfl rfl ?_
  refine X09 [Bf] (o:=by repeat' first|apply Ya|exact pcM|(decide +kernel)|exact X04) ?_
  refine X3.inline X5 Xwn rfl rfl rfl rfl rfl trivial trivial rfl rfl ?_
  refine X09 [] (o:=by repeat' first|apply Ya|exact pcM|(decide +kernel)|exact X04) ?_
  refine X3.back (by intro id h;cases h) rfl ?_
  refine X09 [] (o:=by repeat' first|apply Ya|exact pcM|(decide +kernel)|exact X04) ?_
  refine X3.back (by intro id h;cases h) rfl ?_
  refine X09 [.go true,.go true,Bf,.wrap] (o:=by repeat' first|apply Ya|exact pcM|(decide +kernel)|exact((show((8:Nat):Int)*1<=281474976710656 by decide))|exact X04) ?_
  refine X3.copyS [(aI .i64 (-9223372036854775808))] 1 X5 rfl rfl rfl rfl trivial rfl rfl rfl trivial (.ref rfl (by decide)) rfl rfl rfl rfl rfl rfl rfl rfl ?_
  refine X09 [] (o:=by repeat' first|apply Ya|exact pcM|(decide +kernel)|exact X04) ?_
  refine X3.round ?_
  refine X09 [Bf] (o:=by repeat' first|apply Ya|exact pcM|(decide +kernel)|exact X04) ?_
  refine X3.back (by intro id h;cases h) rfl ?_
  revert h
  exact fun e=>oj e▸Xa [] (o:=by repeat' first|apply Ya|exact pcM|(decide +kernel)|exact X04) (k:=fi)
 refine brI (fun h3=>?_) fun h3=>?_
 ·
  intro h
  obtain rfl:a0=2:=eq_of_beq h3
  refine X09 [Bf] (o:=by repeat' first|apply Ya|exact pcM|(decide +kernel)|exact X04) ?_
  refine X3.inline X5 Xwp rfl rfl rfl rfl rfl trivial trivial rfl rfl ?_
  refine X09 [Bf,.wrap,.wrap] (o:=by repeat' first|apply Ya|exact pcM|(decide +kernel)|exact X04) ?_
  refine X3.inline X5 Xwo rfl rfl rfl rfl rfl trivial trivial rfl rfl ?_
  refine X09 [Bf] (o:=by repeat' first|apply Ya|exact pcM|(decide +kernel)|exact X04) ?_
  refine X3.inline X5 Xwn rfl rfl rfl rfl rfl trivial trivial rfl rfl ?_
  refine X09 [] (o:=by repeat' first|apply Ya|exact pcM|(decide +kernel)|exact X04) ?_
  refine X3.back (by intro id h;cases h) rfl ?_
  refine X09 [] (o:=by repeat' first|apply Ya|exact pcM|(decide +kernel)|exact X04) ?_
  refine X3.back (by intro id h;cases h) rfl ?_
  refine X09 [.go true,.go true,Bf,.wrap] (o:=by repeat' first|apply Ya|exact pcM|(decide +kernel)|exact((show((8:Nat):Int)*2<=281474976710656 by decide))|exact X04) ?_
  refine X3.copyS [(aI .i64 (-9223372036854775808)),(aI .i64 0)] 1 X5 rfl rfl rfl rfl trivial rfl rfl rfl trivial (.ref rfl (by decide)) rfl rfl rfl rfl rfl rfl rfl rfl ?_
  refine X09 [] (o:=by repeat' first|apply Ya|exact pcM|(decide +kernel)|exact X04) ?_
  refine X3.round ?_
  refine X09 [Bt,.stop 9] (o:=by repeat' first|apply Ya|exact pcM|(decide +kernel)|exact X04) ?_
  refine X3.drawnCutF 7 tmD [] rfl rfl rfl rfl rfl rfl rfl (by decide) rfl rfl rfl (by decide) (by decide) (by decide) (by decide) rfl rfl rfl rfl rfl rfl rfl (by repeat' first|apply Ya|exact pcM|(decide +kernel)|exact X04) ?_
  refine X09 [] (o:=by repeat' first|apply Ya|exact pcM|(decide +kernel)|exact X04) ?_
  refine X3.copyS [(aI .i64 (-9223372036854775808)),(aI .i64 (-9223372036854775808))] 1 X5 rfl rfl rfl rfl trivial rfl rfl rfl trivial (.ref rfl (by decide)) rfl rfl rfl rfl rfl rfl rfl rfl ?_
  refine X09 [] (o:=by repeat' first|apply Ya|exact pcM|(decide +kernel)|exact X04) ?_
  refine X3.round ?_
  refine X09 [Bf] (o:=by repeat' first|apply Ya|exact pcM|(decide +kernel)|exact X04) ?_
  refine X3.back (by intro id h;cases h) rfl ?_
  revert h
  exact fun e=>oj e▸Xa [] (o:=by repeat' first|apply Ya|exact pcM|(decide +kernel)|exact X04) (k:=fi)
 refine brI (fun h4=>?_) fun h4=>?_
 ·
  intro h
  obtain rfl:a0=3:=eq_of_beq h4
  refine X09 [Bf] (o:=by repeat' first|apply Ya|exact pcM|(decide +kernel)|exact X04) ?_
  refine X3.inline X5 Xwp rfl rfl rfl rfl rfl trivial trivial rfl rfl ?_
  refine X09 [Bf,.wrap,.wrap] (o:=by repeat' first|apply Ya|exact pcM|(decide +kernel)|exact X04) ?_
  refine X3.inline X5 Xwo rfl rfl rfl rfl rfl trivial trivial rfl rfl ?_
  refine X09 [Bf] (o:=by repeat' first|apply Ya|exact pcM|(decide +kernel)|exact X04) ?_
  refine X3.inline X5 Xwn rfl rfl rfl rfl rfl trivial trivial rfl rfl ?_
  refine X09 [] (o:=by repeat' first|apply Ya|exact pcM|(decide +kernel)|exact X04) ?_
  refine X3.back (by intro id h;cases h) rfl ?_
  refine X09 [] (o:=by repeat' first|apply Ya|exact pcM|(decide +kernel)|exact X04) ?_
  refine X3.back (by intro id h;cases h) rfl ?_
  refine X09 [.go true,.go true,Bf,.wrap] (o:=by repeat' first|apply Ya|exact pcM|(decide +kernel)|exact((show((8:Nat):Int)*3<=281474976710656 by decide))|exact X04) ?_
  refine X3.copyS [(aI .i64 (-9223372036854775808)),(aI .i64 0),(aI .i64 0)] 1 X5 rfl rfl rfl rfl trivial rfl rfl rfl trivial (.ref rfl (by decide)) rfl rfl rfl rfl rfl rfl rfl rfl ?_
  refine X09 [] (o:=by repeat' first|apply Ya|exact pcM|(decide +kernel)|exact X04) ?_
  refine X3.round ?_
  refine X09 [Bt,.stop 9] (o:=by repeat' first|apply Ya|exact pcM|(decide +kernel)|exact X04) ?_
  refine X3.drawnCutF 7 tmD [] rfl rfl rfl rfl rfl rfl rfl (by decide) rfl rfl rfl (by decide) (by decide) (by decide) (by decide) rfl rfl rfl rfl rfl rfl rfl (by repeat' first|apply Ya|exact pcM|(decide +kernel)|exact X04) ?_
  refine X09 [] (o:=by repeat' first|apply Ya|exact pcM|(decide +kernel)|exact X04) ?_
  refine X3.copyS [(aI .i64 (-9223372036854775808)),(aI .i64 (-9223372036854775808)),(aI .i64 0)] 1 X5 rfl rfl rfl rfl trivial rfl rfl rfl trivial (.ref rfl (by decide)) rfl rfl rfl rfl rfl rfl rfl rfl ?_
  refine X09 [] (o:=by repeat' first|apply Ya|exact pcM|(decide +kernel)|exact X04) ?_
  refine X3.round ?_
  refine X09 [Bt,.stop 9] (o:=by repeat' first|apply Ya|exact pcM|(decide +kernel)|exact X04) ?_
  refine X3.drawnCutF 7 tmD [] rfl rfl rfl rfl rfl rfl rfl (by decide) rfl rfl rfl (by decide) (by decide) (by decide) (by decide) rfl rfl rfl rfl rfl rfl rfl (by repeat' first|apply Ya|exact pcM|(decide +kernel)|exact X04) ?_
  refine X09 [] (o:=by repeat' first|apply Ya|exact pcM|(decide +kernel)|exact X04) ?_
  refine X3.copyS [(aI .i64 (-9223372036854775808)),(aI .i64 (-9223372036854775808)),(aI .i64 (-9223372036854775808))] 1 X5 rfl rfl rfl rfl trivial rfl rfl rfl trivial (.ref rfl (by decide)) rfl rfl rfl rfl rfl rfl rfl rfl ?_
  refine X09 [] (o:=by repeat' first|apply Ya|exact pcM|(decide +kernel)|exact X04) ?_
  refine X3.round ?_
  refine X09 [Bf] (o:=by repeat' first|apply Ya|exact pcM|(decide +kernel)|exact X04) ?_
  refine X3.back (by intro id h;cases h) rfl ?_
  revert h
  exact fun e=>oj e▸Xa [] (o:=by repeat' first|apply Ya|exact pcM|(decide +kernel)|exact X04) (k:=fi)
 refine brI (fun h5=>?_) fun h5=>?_
 ·
  intro h
  obtain rfl:a0=4:=eq_of_beq h5
  refine X09 [Bf] (o:=by repeat' first|apply Ya|exact pcM|(decide +kernel)|exact X04) ?_
  refine X3.inline X5 Xwp rfl rfl rfl rfl rfl trivial trivial rfl rfl ?_
  refine X09 [Bf,.wrap,.wrap] (o:=by repeat' first|apply Ya|exact pcM|(decide +kernel)|exact X04) ?_
  refine X3.inline X5 Xwo rfl rfl rfl rfl rfl trivial trivial rfl rfl ?_
  refine X09 [Bf] (o:=by repeat' first|apply Ya|exact pcM|(decide +kernel)|exact X04) ?_
  refine X3.inline X5 Xwn rfl rfl rfl rfl rfl trivial trivial rfl rfl ?_
  refine X09 [] (o:=by repeat' first|apply Ya|exact pcM|(decide +kernel)|exact X04) ?_
  refine X3.back (by intro id h;cases h) rfl ?_
  refine X09 [] (o:=by repeat' first|apply Ya|exact pcM|(decide +kernel)|exact X04) ?_
  refine X3.back (by intro id h;cases h) rfl ?_
  refine X09 [.go true,.go true,Bf,.wrap] (o:=by repeat' first|apply Ya|exact pcM|(decide +kernel)|exact((show((8:Nat):Int)*4<=281474976710656 by decide))|exact X04) ?_
  refine X3.copyS [(aI .i64 (-9223372036854775808)),(aI .i64 0),(aI .i64 0),(aI .i64 0)] 1 X5 rfl rfl rfl rfl trivial rfl rfl rfl trivial (.ref rfl (by decide)) rfl rfl rfl rfl rfl rfl rfl rfl ?_
  refine X09 [] (o:=by repeat' first|apply Ya|exact pcM|(decide +kernel)|exact X04) ?_
  refine X3.round ?_
  refine X09 [Bt,.stop 9] (o:=by repeat' first|apply Ya|exact pcM|(decide +kernel)|exact X04) ?_
  refine X3.drawnCutF 7 tmD [] rfl rfl rfl rfl rfl rfl rfl (by decide) rfl rfl rfl (by decide) (by decide) (by decide) (by decide) rfl rfl rfl rfl rfl rfl rfl (by repeat' first|apply Ya|exact pcM|(decide +kernel)|exact X04) ?_
  refine X09 [] (o:=by repeat' first|apply Ya|exact pcM|(decide +kernel)|exact X04) ?_
  refine X3.copyS [(aI .i64 (-9223372036854775808)),(aI .i64 (-9223372036854775808)),(aI .i64 0),(aI .i64 0)] 1 X5 rfl rfl rfl rfl trivial rfl rfl rfl trivial (.ref rfl (by decide)) rfl rfl rfl rfl rfl rfl rfl rfl ?_
  refine X09 [] (o:=by repeat' first|apply Ya|exact pcM|(decide +kernel)|exact X04) ?_
  refine X3.round ?_
  refine X09 [Bt,.stop 9] (o:=by repeat' first|apply Ya|exact pcM|(decide +kernel)|exact X04) ?_
  refine X3.drawnCutF 7 tmD [] rfl rfl rfl rfl rfl rfl rfl (by decide) rfl rfl rfl (by decide) (by decide) (by decide) (by decide) rfl rfl rfl rfl rfl rfl rfl (by repeat' first|apply Ya|exact pcM|(decide +kernel)|exact X04) ?_
  refine X09 [] (o:=by repeat' first|apply Ya|exact pcM|(decide +kernel)|exact X04) ?_
  refine X3.copyS [(aI .i64 (-9223372036854775808)),(aI .i64 (-9223372036854775808)),(aI .i64 (-9223372036854775808)),(aI .i64 (-9223372036854775808))] 2 X5 rfl rfl rfl rfl trivial rfl rfl rfl trivial (.ref rfl (by decide)) rfl rfl rfl rfl rfl rfl rfl rfl ?_
  refine X09 [] (o:=by repeat' first|apply Ya|exact pcM|(decide +kernel)|exact X04) ?_
  refine X3.round ?_
  refine X09 [Bf] (o:=by repeat' first|apply Ya|exact pcM|(decide +kernel)|exact X04) ?_
  refine X3.back (by intro id h;cases h) rfl ?_
  revert h
  exact fun e=>oj e▸Xa [] (o:=by repeat' first|apply Ya|exact pcM|(decide +kernel)|exact X04) (k:=fi)
 intro h
 cases h⟩
instance X00n:PCs Tryz.prog 41 (∀ (a0:Int) (a1:Int) (r:X00×Int),Xia a0 a1=some r->X0j Tryz.prog 41 [(aI .i64 a0),(aI .i64 a1)] (AV.tup [(Xj true r.1),(aI .i64 r.2)])):=⟨fun a0 a1 r h=>by
 refine X0j.sym X5 fn41 (nt:=28) rfl rfl ?_ okM
 unfold Xia at h
 revert h
 exact bI fun v1 h2=>brI (fun h3=>fun e=>oj e▸Xa [.pure _ (AV.tup [(AV.list true (List.map (aI .i64) v1.1)),(aI .i64 v1.2)]),Bt] (k:=fi)) fun h3=>fun e=>oj e▸Xa [.pure _ (AV.tup [(AV.list true (List.map (aI .i64) v1.1)),(aI .i64 v1.2)]),Bf] (k:=fi)⟩
instance Xut:PCs Tryz.prog 210 (∀ (a0:Int) (r:Int×Int),X9d a0=some r->X0j Tryz.prog 210 [(aI .u8 a0)] (AV.tup [(aI .i64 r.1),(aI .i64 r.2)])):=⟨fun a0 r h=>by
 refine X0j.sym X5 X02z (nt:=25) rfl rfl ?_ okM
 unfold X9d at h
 revert h
 exact brI (fun h1=>fun e=>oj e▸Xa [Bt] (k:=fi)) fun h1=>brI (fun h2=>fun e=>oj e▸Xa [Bf,Bt] (k:=fi)) fun h2=>brI (fun h3=>fun e=>oj e▸Xa [Bf,Bf,Bt] (k:=fi)) fun h3=>fun e=>oj e▸Xa [Bf,Bf,Bf] (k:=fi)⟩
end Go.Av.Tryz