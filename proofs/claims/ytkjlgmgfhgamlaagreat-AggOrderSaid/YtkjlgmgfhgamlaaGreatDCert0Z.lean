/- Printed by decomp.py: that the program computes the functions. -/
import Derived.Test.YtkjlgmgfhgamlaaGreatDFunZ
import Derived.Test.YtkjlgmgfhgamlaaGreatTabZ
import Derived.Test.YtkjlgmgfhgamlaaGreatDeleteZ
import Derived.Test.YtkjlgmgfhgamlaaGreatInsertZ
set_option linter.all false

namespace Go.Av.Tryz
open Go.Proofs Go.D
set_option maxRecDepth 10000
set_option maxHeartbeats 40000000
theorem tmD:Xat Tryz.prog Xyb.find/\Tryz.prog.follows .mixedOrders=true:=⟨X3,by kernel_rfl⟩
instance tmI:TmD Tryz.prog Xyb.find:=⟨tmD⟩
theorem fn5:X1w Tryz.prog 5 Tryz.f5 (Xa Tryz.f5):=⟨Tryz.func5,by kernel_rfl,rfl⟩
theorem fn13:X1w Tryz.prog 13 Tryz.f13 (Xa Tryz.f13):=⟨Tryz.func13,by kernel_rfl,rfl⟩
theorem fn14:X1w Tryz.prog 14 Tryz.f14 (Xa Tryz.f14):=⟨Tryz.func14,by kernel_rfl,rfl⟩
theorem fn15:X1w Tryz.prog 15 Tryz.f15 (Xa Tryz.f15):=⟨Tryz.func15,by kernel_rfl,rfl⟩
theorem fn19:X1w Tryz.prog 19 Tryz.f19 (Xa Tryz.f19):=⟨Tryz.func19,by kernel_rfl,rfl⟩
theorem fn20:X1w Tryz.prog 20 Tryz.f20 (Xa Tryz.f20):=⟨Tryz.func20,by kernel_rfl,rfl⟩
theorem fn21:X1w Tryz.prog 21 Tryz.f21 (Xa Tryz.f21):=⟨Tryz.func21,by kernel_rfl,rfl⟩
theorem fn22:X1w Tryz.prog 22 Tryz.f22 (Xa Tryz.f22):=⟨Tryz.func22,by kernel_rfl,rfl⟩
theorem fn23:X1w Tryz.prog 23 Tryz.f23 (Xa Tryz.f23):=⟨Tryz.func23,by kernel_rfl,rfl⟩
theorem fn24:X1w Tryz.prog 24 Tryz.f24 (Xa Tryz.f24):=⟨Tryz.func24,by kernel_rfl,rfl⟩
theorem fn27:X1w Tryz.prog 27 Tryz.f27 (Xa Tryz.f27):=⟨Tryz.func27,by kernel_rfl,rfl⟩
theorem fn28:X1w Tryz.prog 28 Tryz.f28 (Xa Tryz.f28):=⟨Tryz.func28,by kernel_rfl,rfl⟩
theorem fn29:X1w Tryz.prog 29 Tryz.f29 (Xa Tryz.f29):=⟨Tryz.func29,by kernel_rfl,rfl⟩
theorem fn37:X1w Tryz.prog 37 Tryz.f37 (Xa Tryz.f37):=⟨Tryz.func37,by kernel_rfl,rfl⟩
theorem fn41:X1w Tryz.prog 41 Tryz.f41 (Xa Tryz.f41):=⟨Tryz.func41,by kernel_rfl,rfl⟩
theorem fn49:X1w Tryz.prog 49 Tryz.f49 (Xa Tryz.f49):=⟨Tryz.func49,by kernel_rfl,rfl⟩
theorem fn50:X1w Tryz.prog 50 Tryz.f50 (Xa Tryz.f50):=⟨Tryz.func50,by kernel_rfl,rfl⟩
theorem fn51:X1w Tryz.prog 51 Tryz.f51 (Xa Tryz.f51):=⟨Tryz.func51,by kernel_rfl,rfl⟩
theorem fn52:X1w Tryz.prog 52 Tryz.f52 (Xa Tryz.f52):=⟨Tryz.func52,by kernel_rfl,rfl⟩
theorem fn53:X1w Tryz.prog 53 Tryz.f53 (Xa Tryz.f53):=⟨Tryz.func53,by kernel_rfl,rfl⟩
theorem fn58:X1w Tryz.prog 58 Tryz.f58 (Xa Tryz.f58):=⟨Tryz.func58,by kernel_rfl,rfl⟩
theorem fn59:X1w Tryz.prog 59 Tryz.f59 (Xa Tryz.f59):=⟨Tryz.func59,by kernel_rfl,rfl⟩
theorem fn60:X1w Tryz.prog 60 Tryz.f60 (Xa Tryz.f60):=⟨Tryz.func60,by kernel_rfl,rfl⟩
theorem fn61:X1w Tryz.prog 61 Tryz.f61 (Xa Tryz.f61):=⟨Tryz.func61,by kernel_rfl,rfl⟩
theorem fn62:X1w Tryz.prog 62 Tryz.f62 (Xa Tryz.f62):=⟨Tryz.func62,by kernel_rfl,rfl⟩
theorem fn63:X1w Tryz.prog 63 Tryz.f63 (Xa Tryz.f63):=⟨Tryz.func63,by kernel_rfl,rfl⟩
theorem fn64:X1w Tryz.prog 64 Tryz.f64 (Xa Tryz.f64):=⟨Tryz.func64,by kernel_rfl,rfl⟩
theorem fn65:X1w Tryz.prog 65 Tryz.f65 (Xa Tryz.f65):=⟨Tryz.func65,by kernel_rfl,rfl⟩
theorem fn66:X1w Tryz.prog 66 Tryz.f66 (Xa Tryz.f66):=⟨Tryz.func66,by kernel_rfl,rfl⟩
theorem fn67:X1w Tryz.prog 67 Tryz.f67 (Xa Tryz.f67):=⟨Tryz.func67,by kernel_rfl,rfl⟩
theorem fn68:X1w Tryz.prog 68 Tryz.f68 (Xa Tryz.f68):=⟨Tryz.func68,by kernel_rfl,rfl⟩
theorem fn75:X1w Tryz.prog 75 Tryz.f75 (Xa Tryz.f75):=⟨Tryz.func75,by kernel_rfl,rfl⟩
theorem fn77:X1w Tryz.prog 77 Tryz.f77 (Xa Tryz.f77):=⟨Tryz.func77,by kernel_rfl,rfl⟩
theorem fn78:X1w Tryz.prog 78 Tryz.f78 (Xa Tryz.f78):=⟨Tryz.func78,by kernel_rfl,rfl⟩
theorem fn79:X1w Tryz.prog 79 Tryz.f79 (Xa Tryz.f79):=⟨Tryz.func79,by kernel_rfl,rfl⟩
theorem fn80:X1w Tryz.prog 80 Tryz.f80 (Xa Tryz.f80):=⟨Tryz.func80,by kernel_rfl,rfl⟩
theorem fn81:X1w Tryz.prog 81 Tryz.f81 (Xa Tryz.f81):=⟨Tryz.func81,by kernel_rfl,rfl⟩
theorem fn82:X1w Tryz.prog 82 Tryz.f82 (Xa Tryz.f82):=⟨Tryz.func82,by kernel_rfl,rfl⟩
theorem fn83:X1w Tryz.prog 83 Tryz.f83 (Xa Tryz.f83):=⟨Tryz.func83,by kernel_rfl,rfl⟩
theorem fn84:X1w Tryz.prog 84 Tryz.f84 (Xa Tryz.f84):=⟨Tryz.func84,by kernel_rfl,rfl⟩
theorem fn86:X1w Tryz.prog 86 Tryz.f86 (Xa Tryz.f86):=⟨Tryz.func86,by kernel_rfl,rfl⟩
theorem fn87:X1w Tryz.prog 87 Tryz.f87 (Xa Tryz.f87):=⟨Tryz.func87,by kernel_rfl,rfl⟩
theorem fn94:X1w Tryz.prog 94 Tryz.f94 (Xa Tryz.f94):=⟨Tryz.func94,by kernel_rfl,rfl⟩
theorem fn95:X1w Tryz.prog 95 Tryz.f95 (Xa Tryz.f95):=⟨Tryz.func95,by kernel_rfl,rfl⟩
theorem fn96:X1w Tryz.prog 96 Tryz.f96 (Xa Tryz.f96):=⟨Tryz.func96,by kernel_rfl,rfl⟩
theorem fn97:X1w Tryz.prog 97 Tryz.f97 (Xa Tryz.f97):=⟨Tryz.func97,by kernel_rfl,rfl⟩
theorem fn98:X1w Tryz.prog 98 Tryz.f98 (Xa Tryz.f98):=⟨Tryz.func98,by kernel_rfl,rfl⟩
theorem fn99:X1w Tryz.prog 99 Tryz.f99 (Xa Tryz.f99):=⟨Tryz.func99,by kernel_rfl,rfl⟩
theorem X04v:X1w Tryz.prog 100 Tryz.f100 (Xa Tryz.f100):=⟨Tryz.func100,by kernel_rfl,rfl⟩
theorem X04u:X1w Tryz.prog 101 Tryz.f101 (Xa Tryz.f101):=⟨Tryz.func101,by kernel_rfl,rfl⟩
theorem X04t:X1w Tryz.prog 102 Tryz.f102 (Xa Tryz.f102):=⟨Tryz.func102,by kernel_rfl,rfl⟩
theorem X04s:X1w Tryz.prog 103 Tryz.f103 (Xa Tryz.f103):=⟨Tryz.func103,by kernel_rfl,rfl⟩
theorem X026:X1w Tryz.prog 104 Tryz.f104 (Xa Tryz.f104):=⟨Tryz.func104,by kernel_rfl,rfl⟩
theorem X04r:X1w Tryz.prog 105 Tryz.f105 (Xa Tryz.f105):=⟨Tryz.func105,by kernel_rfl,rfl⟩
theorem Xx5:X1w Tryz.prog 114 Tryz.f114 (Xa Tryz.f114):=⟨Tryz.func114,by kernel_rfl,rfl⟩
theorem X04q:X1w Tryz.prog 115 Tryz.f115 (Xa Tryz.f115):=⟨Tryz.func115,by kernel_rfl,rfl⟩
theorem X04p:X1w Tryz.prog 116 Tryz.f116 (Xa Tryz.f116):=⟨Tryz.func116,by kernel_rfl,rfl⟩
theorem X04o:X1w Tryz.prog 117 Tryz.f117 (Xa Tryz.f117):=⟨Tryz.func117,by kernel_rfl,rfl⟩
theorem X025:X1w Tryz.prog 118 Tryz.f118 (Xa Tryz.f118):=⟨Tryz.func118,by kernel_rfl,rfl⟩
theorem X024:X1w Tryz.prog 119 Tryz.f119 (Xa Tryz.f119):=⟨Tryz.func119,by kernel_rfl,rfl⟩
theorem X04n:X1w Tryz.prog 120 Tryz.f120 (Xa Tryz.f120):=⟨Tryz.func120,by kernel_rfl,rfl⟩
theorem Xzr:X1w Tryz.prog 121 Tryz.f121 (Xa Tryz.f121):=⟨Tryz.func121,by kernel_rfl,rfl⟩
theorem X04m:X1w Tryz.prog 122 Tryz.f122 (Xa Tryz.f122):=⟨Tryz.func122,by kernel_rfl,rfl⟩
theorem X04l:X1w Tryz.prog 123 Tryz.f123 (Xa Tryz.f123):=⟨Tryz.func123,by kernel_rfl,rfl⟩
theorem X04k:X1w Tryz.prog 124 Tryz.f124 (Xa Tryz.f124):=⟨Tryz.func124,by kernel_rfl,rfl⟩
theorem X04j:X1w Tryz.prog 125 Tryz.f125 (Xa Tryz.f125):=⟨Tryz.func125,by kernel_rfl,rfl⟩
theorem Xrc:X1w Tryz.prog 126 Tryz.f126 (Xa Tryz.f126):=⟨Tryz.func126,by kernel_rfl,rfl⟩
theorem X04i:X1w Tryz.prog 127 Tryz.f127 (Xa Tryz.f127):=⟨Tryz.func127,by kernel_rfl,rfl⟩
theorem X04h:X1w Tryz.prog 128 Tryz.f128 (Xa Tryz.f128):=⟨Tryz.func128,by kernel_rfl,rfl⟩
theorem X04g:X1w Tryz.prog 129 Tryz.f129 (Xa Tryz.f129):=⟨Tryz.func129,by kernel_rfl,rfl⟩
theorem X04f:X1w Tryz.prog 130 Tryz.f130 (Xa Tryz.f130):=⟨Tryz.func130,by kernel_rfl,rfl⟩
theorem X04e:X1w Tryz.prog 131 Tryz.f131 (Xa Tryz.f131):=⟨Tryz.func131,by kernel_rfl,rfl⟩
theorem X04d:X1w Tryz.prog 132 Tryz.f132 (Xa Tryz.f132):=⟨Tryz.func132,by kernel_rfl,rfl⟩
theorem X04c:X1w Tryz.prog 133 Tryz.f133 (Xa Tryz.f133):=⟨Tryz.func133,by kernel_rfl,rfl⟩
theorem X04b:X1w Tryz.prog 134 Tryz.f134 (Xa Tryz.f134):=⟨Tryz.func134,by kernel_rfl,rfl⟩
theorem X04a:X1w Tryz.prog 135 Tryz.f135 (Xa Tryz.f135):=⟨Tryz.func135,by kernel_rfl,rfl⟩
theorem X023:X1w Tryz.prog 136 Tryz.f136 (Xa Tryz.f136):=⟨Tryz.func136,by kernel_rfl,rfl⟩
theorem X049:X1w Tryz.prog 137 Tryz.f137 (Xa Tryz.f137):=⟨Tryz.func137,by kernel_rfl,rfl⟩
theorem X048:X1w Tryz.prog 138 Tryz.f138 (Xa Tryz.f138):=⟨Tryz.func138,by kernel_rfl,rfl⟩
theorem X047:X1w Tryz.prog 139 Tryz.f139 (Xa Tryz.f139):=⟨Tryz.func139,by kernel_rfl,rfl⟩
theorem Xx4:X1w Tryz.prog 144 Tryz.f144 (Xa Tryz.f144):=⟨Tryz.func144,by kernel_rfl,rfl⟩
theorem X046:X1w Tryz.prog 145 Tryz.f145 (Xa Tryz.f145):=⟨Tryz.func145,by kernel_rfl,rfl⟩
theorem X045:X1w Tryz.prog 146 Tryz.f146 (Xa Tryz.f146):=⟨Tryz.func146,by kernel_rfl,rfl⟩
theorem X022:X1w Tryz.prog 147 Tryz.f147 (Xa Tryz.f147):=⟨Tryz.func147,by kernel_rfl,rfl⟩
theorem X021:X1w Tryz.prog 148 Tryz.f148 (Xa Tryz.f148):=⟨Tryz.func148,by kernel_rfl,rfl⟩
theorem X044:X1w Tryz.prog 150 Tryz.f150 (Xa Tryz.f150):=⟨Tryz.func150,by kernel_rfl,rfl⟩
theorem X043:X1w Tryz.prog 151 Tryz.f151 (Xa Tryz.f151):=⟨Tryz.func151,by kernel_rfl,rfl⟩
theorem X020:X1w Tryz.prog 152 Tryz.f152 (Xa Tryz.f152):=⟨Tryz.func152,by kernel_rfl,rfl⟩
theorem X042:X1w Tryz.prog 155 Tryz.f155 (Xa Tryz.f155):=⟨Tryz.func155,by kernel_rfl,rfl⟩
theorem X041:X1w Tryz.prog 156 Tryz.f156 (Xa Tryz.f156):=⟨Tryz.func156,by kernel_rfl,rfl⟩
theorem X040:X1w Tryz.prog 157 Tryz.f157 (Xa Tryz.f157):=⟨Tryz.func157,by kernel_rfl,rfl⟩
theorem X03z:X1w Tryz.prog 158 Tryz.f158 (Xa Tryz.f158):=⟨Tryz.func158,by kernel_rfl,rfl⟩
theorem X03y:X1w Tryz.prog 159 Tryz.f159 (Xa Tryz.f159):=⟨Tryz.func159,by kernel_rfl,rfl⟩
theorem Xx3:X1w Tryz.prog 166 Tryz.f166 (Xa Tryz.f166):=⟨Tryz.func166,by kernel_rfl,rfl⟩
theorem X03x:X1w Tryz.prog 167 Tryz.f167 (Xa Tryz.f167):=⟨Tryz.func167,by kernel_rfl,rfl⟩
theorem X01z:X1w Tryz.prog 168 Tryz.f168 (Xa Tryz.f168):=⟨Tryz.func168,by kernel_rfl,rfl⟩
theorem X03w:X1w Tryz.prog 169 Tryz.f169 (Xa Tryz.f169):=⟨Tryz.func169,by kernel_rfl,rfl⟩
theorem X03v:X1w Tryz.prog 170 Tryz.f170 (Xa Tryz.f170):=⟨Tryz.func170,by kernel_rfl,rfl⟩
theorem X01y:X1w Tryz.prog 171 Tryz.f171 (Xa Tryz.f171):=⟨Tryz.func171,by kernel_rfl,rfl⟩
theorem X03u:X1w Tryz.prog 173 Tryz.f173 (Xa Tryz.f173):=⟨Tryz.func173,by kernel_rfl,rfl⟩
theorem X03t:X1w Tryz.prog 174 Tryz.f174 (Xa Tryz.f174):=⟨Tryz.func174,by kernel_rfl,rfl⟩
theorem X03s:X1w Tryz.prog 175 Tryz.f175 (Xa Tryz.f175):=⟨Tryz.func175,by kernel_rfl,rfl⟩
theorem X03r:X1w Tryz.prog 176 Tryz.f176 (Xa Tryz.f176):=⟨Tryz.func176,by kernel_rfl,rfl⟩
theorem X03q:X1w Tryz.prog 177 Tryz.f177 (Xa Tryz.f177):=⟨Tryz.func177,by kernel_rfl,rfl⟩
theorem X03p:X1w Tryz.prog 178 Tryz.f178 (Xa Tryz.f178):=⟨Tryz.func178,by kernel_rfl,rfl⟩
theorem X03o:X1w Tryz.prog 179 Tryz.f179 (Xa Tryz.f179):=⟨Tryz.func179,by kernel_rfl,rfl⟩
theorem X03n:X1w Tryz.prog 180 Tryz.f180 (Xa Tryz.f180):=⟨Tryz.func180,by kernel_rfl,rfl⟩
theorem X03m:X1w Tryz.prog 181 Tryz.f181 (Xa Tryz.f181):=⟨Tryz.func181,by kernel_rfl,rfl⟩
theorem X01x:X1w Tryz.prog 185 Tryz.f185 (Xa Tryz.f185):=⟨Tryz.func185,by kernel_rfl,rfl⟩
theorem X03l:X1w Tryz.prog 194 Tryz.f194 (Xa Tryz.f194):=⟨Tryz.func194,by kernel_rfl,rfl⟩
theorem X03k:X1w Tryz.prog 196 Tryz.f196 (Xa Tryz.f196):=⟨Tryz.func196,by kernel_rfl,rfl⟩
theorem X03j:X1w Tryz.prog 197 Tryz.f197 (Xa Tryz.f197):=⟨Tryz.func197,by kernel_rfl,rfl⟩
theorem X03i:X1w Tryz.prog 198 Tryz.f198 (Xa Tryz.f198):=⟨Tryz.func198,by kernel_rfl,rfl⟩
theorem X03h:X1w Tryz.prog 199 Tryz.f199 (Xa Tryz.f199):=⟨Tryz.func199,by kernel_rfl,rfl⟩
theorem X03g:X1w Tryz.prog 210 Tryz.f210 (Xa Tryz.f210):=⟨Tryz.func210,by kernel_rfl,rfl⟩
theorem Xx2:X1w Tryz.prog 211 Tryz.f211 (Xa Tryz.f211):=⟨Tryz.func211,by kernel_rfl,rfl⟩
theorem Xjh:X1w Tryz.prog 212 Tryz.f212 (Xa Tryz.f212):=⟨Tryz.func212,by kernel_rfl,rfl⟩
instance Xvc:PCs Tryz.prog 50 (∀ (r:X08),Xdh=some r->X0i Tryz.prog 50 [] (X06 true r)):=⟨λr h=>by
 refine X0i.sym X3 fn50 (nt:=4) rfl rfl ?_ okM;unfold Xdh at h;revert h;exact λe=>oj e▸X7 [] (k:=fi)⟩
instance Xxx:PCs Tryz.prog 51 (∀ (a0:Int) (a1:Int) (a2:Int) (r:Xd),Xe5 a0 a1 a2=some r->X0i Tryz.prog 51 [(aI .i64 a0),(aI .i64 a1),(aI .i64 a2)] (Xl r)):=⟨λa0 a1 a2 r h=>by
 refine X0i.sym X3 fn51 (nt:=12) rfl rfl ?_ okM;unfold Xe5 at h;revert h;exact λe=>oj e▸X7 [] (k:=fi)⟩
instance Xwg:PCs Tryz.prog 22 (∀ (a0:Int) (r:Xd),Xao a0=some r->X0i Tryz.prog 22 [(aI .i64 a0)] (Xl r)):=⟨λa0 r h=>by
 refine X0i.sym X3 fn22 (nt:=5) rfl rfl ?_ okM;unfold Xao at h;revert h;exact λe=>oj e▸X7 [] (k:=fi)⟩
instance Xxu:PCs Tryz.prog 75 (∀ (a0:Int) (r:(List Int)×Int),Xi1 a0=some r->X0i Tryz.prog 75 [(aI .i64 a0)] (AV.tup [(Lt (List.map (aI .i64) r.1)),(aI .i64 r.2)])):=⟨λa0 r h=>by
 refine X0i.sym X3 fn75 (nt:=13) rfl rfl ?_ okM;unfold Xi1 at h;revert h;refine brI (λh1=>λe=>oj e▸X7 [Bt] (k:=fi)) λh1=>?_;refine brI (λh2=>?_) λh2=>?_
 ·
  intro h;obtain rfl:a0=1:=eq_of_beq h2;refine X0e [Bf] (o:=by repeat' first|apply Ya|exact pcM|(decide +kernel)|exact Xz) ?_;refine X2.inline X3 Xx5 rfl rfl rfl rfl rfl trivial trivial rfl rfl ?_;refine X0e [Bf,.wrap,.wrap] (o:=by repeat' first|apply Ya|exact pcM|(decide +kernel)|exact Xz) ?_;refine X2.inline X3 Xx4 rfl rfl rfl rfl rfl trivial trivial rfl rfl ?_;refine X0e [Bf] (o:=by repeat' first|apply Ya|exact pcM|(decide +kernel)|exact Xz) ?_;refine X2.inline X3 Xx3 rfl rfl rfl rfl rfl trivial trivial rfl rfl ?_;refine X0e [] (o:=by repeat' first|apply Ya|exact pcM|(decide +kernel)|exact Xz) ?_;refine X2.back (by intro id h;cases h) rfl ?_;refine X0e [] (o:=by repeat' first|apply Ya|exact pcM|(decide +kernel)|exact Xz) ?_;refine X2.back (by intro id h;cases h) rfl ?_;refine X0e [Gt,Gt,Bf,.wrap] (o:=by repeat' first|apply Ya|exact pcM|(decide +kernel)|exact((show((8:Nat):Int)*1<=281474976710656 by decide))|exact Xz) ?_;refine X2.copyS [(aI .i64 (-9223372036854775808))] 1 X3 rfl rfl rfl rfl trivial rfl rfl rfl trivial (.ref rfl (by decide)) rfl rfl rfl rfl rfl rfl rfl rfl ?_;refine X0e [] (o:=by repeat' first|apply Ya|exact pcM|(decide +kernel)|exact Xz) ?_;refine X2.round ?_;refine X0e [Bf] (o:=by repeat' first|apply Ya|exact pcM|(decide +kernel)|exact Xz) ?_;refine X2.back (by intro id h;cases h) rfl ?_;revert h;exact λe=>oj e▸X7 [] (o:=by repeat' first|apply Ya|exact pcM|(decide +kernel)|exact Xz) (k:=fi)
 refine brI (λh3=>?_) λh3=>?_
 ·
  intro h;obtain rfl:a0=2:=eq_of_beq h3;refine X0e [Bf] (o:=by repeat' first|apply Ya|exact pcM|(decide +kernel)|exact Xz) ?_;refine X2.inline X3 Xx5 rfl rfl rfl rfl rfl trivial trivial rfl rfl ?_;refine X0e [Bf,.wrap,.wrap] (o:=by repeat' first|apply Ya|exact pcM|(decide +kernel)|exact Xz) ?_;refine X2.inline X3 Xx4 rfl rfl rfl rfl rfl trivial trivial rfl rfl ?_;refine X0e [Bf] (o:=by repeat' first|apply Ya|exact pcM|(decide +kernel)|exact Xz) ?_;refine X2.inline X3 Xx3 rfl rfl rfl rfl rfl trivial trivial rfl rfl ?_;refine X0e [] (o:=by repeat' first|apply Ya|exact pcM|(decide +kernel)|exact Xz) ?_;refine X2.back (by intro id h;cases h) rfl ?_;refine X0e [] (o:=by repeat' first|apply Ya|exact pcM|(decide +kernel)|exact Xz) ?_;refine X2.back (by intro id h;cases h) rfl ?_;refine X0e [Gt,Gt,Bf,.wrap] (o:=by repeat' first|apply Ya|exact pcM|(decide +kernel)|exact((show((8:Nat):Int)*2<=281474976710656 by decide))|exact Xz) ?_;refine X2.copyS [(aI .i64 (-9223372036854775808)),(aI .i64 0)] 1 X3 rfl rfl rfl rfl trivial rfl rfl rfl trivial (.ref rfl (by decide)) rfl rfl rfl rfl rfl rfl rfl rfl ?_;refine X0e [] (o:=by repeat' first|apply Ya|exact pcM|(decide +kernel)|exact Xz) ?_;refine X2.round ?_;refine X0e [Bt,.stop 9] (o:=by repeat' first|apply Ya|exact pcM|(decide +kernel)|exact Xz) ?_;refine X2.drawnCutF 7 tmD [] rfl rfl rfl rfl rfl rfl rfl (by decide) rfl rfl rfl (by decide) (by decide) (by decide) (by decide) rfl rfl rfl rfl rfl rfl rfl (by repeat' first|apply Ya|exact pcM|(decide +kernel)|exact Xz) ?_;refine X0e [] (o:=by repeat' first|apply Ya|exact pcM|(decide +kernel)|exact Xz) ?_;refine X2.copyS [(aI .i64 (-9223372036854775808)),(aI .i64 (-9223372036854775808))] 1 X3 rfl rfl rfl rfl trivial rfl rfl rfl trivial (.ref rfl (by decide)) rfl rfl rfl rfl rfl rfl rfl rfl ?_;refine X0e [] (o:=by repeat' first|apply Ya|exact pcM|(decide +kernel)|exact Xz) ?_;refine X2.round ?_;refine X0e [Bf] (o:=by repeat' first|apply Ya|exact pcM|(decide +kernel)|exact Xz) ?_;refine X2.back (by intro id h;cases h) rfl ?_;revert h;exact λe=>oj e▸X7 [] (o:=by repeat' first|apply Ya|exact pcM|(decide +kernel)|exact Xz) (k:=fi)
 refine brI (λh4=>?_) λh4=>?_
 ·
  intro h;obtain rfl:a0=3:=eq_of_beq h4;refine X0e [Bf] (o:=by repeat' first|apply Ya|exact pcM|(decide +kernel)|exact Xz) ?_;refine X2.inline X3 Xx5 rfl rfl rfl rfl rfl trivial trivial rfl rfl ?_;refine X0e [Bf,.wrap,.wrap] (o:=by repeat' first|apply Ya|exact pcM|(decide +kernel)|exact Xz) ?_;refine X2.inline X3 Xx4 rfl rfl rfl rfl rfl trivial trivial rfl rfl ?_;refine X0e [Bf] (o:=by repeat' first|apply Ya|exact pcM|(decide +kernel)|exact Xz) ?_;refine X2.inline X3 Xx3 rfl rfl rfl rfl rfl trivial trivial rfl rfl ?_;refine X0e [] (o:=by repeat' first|apply Ya|exact pcM|(decide +kernel)|exact Xz) ?_;refine X2.back (by intro id h;cases h) rfl ?_;refine X0e [] (o:=by repeat' first|apply Ya|exact pcM|(decide +kernel)|exact Xz) ?_;refine X2.back (by intro id h;cases h) rfl ?_;refine X0e [Gt,Gt,Bf,.wrap] (o:=by repeat' first|apply Ya|exact pcM|(decide +kernel)|exact((show((8:Nat):Int)*3<=281474976710656 by decide))|exact Xz) ?_;refine X2.copyS [(aI .i64 (-9223372036854775808)),(aI .i64 0),(aI .i64 0)] 1 X3 rfl rfl rfl rfl trivial rfl rfl rfl trivial (.ref rfl (by decide)) rfl rfl rfl rfl rfl rfl rfl rfl ?_;refine X0e [] (o:=by repeat' first|apply Ya|exact pcM|(decide +kernel)|exact Xz) ?_;refine X2.round ?_;refine X0e [Bt,.stop 9] (o:=by repeat' first|apply Ya|exact pcM|(decide +kernel)|exact Xz) ?_;refine X2.drawnCutF 7 tmD [] rfl rfl rfl rfl rfl rfl rfl (by decide) rfl rfl rfl (by decide) (by decide) (by decide) (by decide) rfl rfl rfl rfl rfl rfl rfl (by repeat' first|apply Ya|exact pcM|(decide +kernel)|exact Xz) ?_;refine X0e [] (o:=by repeat' first|apply Ya|exact pcM|(decide +kernel)|exact Xz) ?_;refine X2.copyS [(aI .i64 (-9223372036854775808)),(aI .i64 (-9223372036854775808)),(aI .i64 0)] 1 X3 rfl rfl rfl rfl trivial rfl rfl rfl trivial (.ref rfl (by decide)) rfl rfl rfl rfl rfl rfl rfl rfl ?_;refine X0e [] (o:=by repeat' first|apply Ya|exact pcM|(decide +kernel)|exact Xz) ?_;refine X2.round ?_;refine X0e [Bt,.stop 9] (o:=by repeat' first|apply Ya|exact pcM|(decide +kernel)|exact Xz) ?_;refine X2.drawnCutF 7 tmD [] rfl rfl rfl rfl rfl rfl rfl (by decide) rfl rfl rfl (by decide) (by decide) (by decide) (by decide) rfl rfl rfl rfl rfl rfl rfl (by repeat' first|apply Ya|exact pcM|(decide +kernel)|exact Xz) ?_;refine X0e [] (o:=by repeat' first|apply Ya|exact pcM|(decide +kernel)|exact Xz) ?_;refine X2.copyS [(aI .i64 (-9223372036854775808)),(aI .i64 (-9223372036854775808)),(aI .i64 (-9223372036854775808))] 1 X3 rfl rfl rfl rfl trivial rfl rfl rfl trivial (.ref rfl (by decide)) rfl rfl rfl rfl rfl rfl rfl rfl ?_;refine X0e [] (o:=by repeat' first|apply Ya|exact pcM|(decide +kernel)|exact Xz) ?_;refine X2.round ?_;refine X0e [Bf] (o:=by repeat' first|apply Ya|exact pcM|(decide +kernel)|exact Xz) ?_;refine X2.back (by intro id h;cases h) rfl ?_;revert h;exact λe=>oj e▸X7 [] (o:=by repeat' first|apply Ya|exact pcM|(decide +kernel)|exact Xz) (k:=fi)
 refine brI (λh5=>?_) λh5=>?_
 ·
  intro h;obtain rfl:a0=4:=eq_of_beq h5;refine X0e [Bf] (o:=by repeat' first|apply Ya|exact pcM|(decide +kernel)|exact Xz) ?_;refine X2.inline X3 Xx5 rfl rfl rfl rfl rfl trivial trivial rfl rfl ?_;refine X0e [Bf,.wrap,.wrap] (o:=by repeat' first|apply Ya|exact pcM|(decide +kernel)|exact Xz) ?_;refine X2.inline X3 Xx4 rfl rfl rfl rfl rfl trivial trivial rfl rfl ?_;refine X0e [Bf] (o:=by repeat' first|apply Ya|exact pcM|(decide +kernel)|exact Xz) ?_;refine X2.inline X3 Xx3 rfl rfl rfl rfl rfl trivial trivial rfl rfl ?_;refine X0e [] (o:=by repeat' first|apply Ya|exact pcM|(decide +kernel)|exact Xz) ?_;refine X2.back (by intro id h;cases h) rfl ?_;refine X0e [] (o:=by repeat' first|apply Ya|exact pcM|(decide +kernel)|exact Xz) ?_;refine X2.back (by intro id h;cases h) rfl ?_;refine X0e [Gt,Gt,Bf,.wrap] (o:=by repeat' first|apply Ya|exact pcM|(decide +kernel)|exact((show((8:Nat):Int)*4<=281474976710656 by decide))|exact Xz) ?_;refine X2.copyS [(aI .i64 (-9223372036854775808)),(aI .i64 0),(aI .i64 0),(aI .i64 0)] 1 X3 rfl rfl rfl rfl trivial rfl rfl rfl trivial (.ref rfl (by decide)) rfl rfl rfl rfl rfl rfl rfl rfl ?_;refine X0e [] (o:=by repeat' first|apply Ya|exact pcM|(decide +kernel)|exact Xz) ?_;refine X2.round ?_;refine X0e [Bt,.stop 9] (o:=by repeat' first|apply Ya|exact pcM|(decide +kernel)|exact Xz) ?_;refine X2.drawnCutF 7 tmD [] rfl rfl rfl rfl rfl rfl rfl (by decide) rfl rfl rfl (by decide) (by decide) (by decide) (by decide) rfl rfl rfl rfl rfl rfl rfl (by repeat' first|apply Ya|exact pcM|(decide +kernel)|exact Xz) ?_;refine X0e [] (o:=by repeat' first|apply Ya|exact pcM|(decide +kernel)|exact Xz) ?_;refine X2.copyS [(aI .i64 (-9223372036854775808)),(aI .i64 (-9223372036854775808)),(aI .i64 0),(aI .i64 0)] 1 X3 rfl rfl rfl rfl trivial rfl rfl rfl trivial (.ref rfl (by decide)) rfl rfl rfl rfl rfl rfl rfl rfl ?_;refine X0e [] (o:=by repeat' first|apply Ya|exact pcM|(decide +kernel)|exact Xz) ?_;refine X2.round ?_;refine X0e [Bt,.stop 9] (o:=by repeat' first|apply Ya|exact pcM|(decide +kernel)|exact Xz) ?_;refine X2.drawnCutF 7 tmD [] rfl rfl rfl rfl rfl rfl rfl (by decide) rfl rfl rfl (by decide) (by decide) (by decide) (by decide) rfl rfl rfl rfl rfl rfl rfl (by repeat' first|apply Ya|exact pcM|(decide +kernel)|exact Xz) ?_;refine X0e [] (o:=by repeat' first|apply Ya|exact pcM|(decide +kernel)|exact Xz) ?_;refine X2.copyS [(aI .i64 (-9223372036854775808)),(aI .i64 (-9223372036854775808)),(aI .i64 (-9223372036854775808)),(aI .i64 (-9223372036854775808))] 2 X3 rfl rfl rfl rfl trivial rfl rfl rfl trivial (.ref rfl (by decide)) rfl rfl rfl rfl rfl rfl rfl rfl ?_;refine X0e [] (o:=by repeat' first|apply Ya|exact pcM|(decide +kernel)|exact Xz) ?_;refine X2.round ?_;refine X0e [Bf] (o:=by repeat' first|apply Ya|exact pcM|(decide +kernel)|exact Xz) ?_;refine X2.back (by intro id h;cases h) rfl ?_;revert h;exact λe=>oj e▸X7 [] (o:=by repeat' first|apply Ya|exact pcM|(decide +kernel)|exact Xz) (k:=fi)
 intro h;cases h⟩
instance X011:PCs Tryz.prog 41 (∀ (a0:Int) (a1:Int) (r:Xp×Int),Xlk a0 a1=some r->X0i Tryz.prog 41 [(aI .i64 a0),(aI .i64 a1)] (AV.tup [(X9 true r.1),(aI .i64 r.2)])):=⟨λa0 a1 r h=>by
 refine X0i.sym X3 fn41 (nt:=28) rfl rfl ?_ okM;unfold Xlk at h;revert h;exact bI λv1 h2=>brI (λh3=>λe=>oj e▸X7 [.pure _ (AV.tup [(Lt (List.map (aI .i64) v1.1)),(aI .i64 v1.2)]),Bt] (k:=fi)) λh3=>λe=>oj e▸X7 [.pure _ (AV.tup [(Lt (List.map (aI .i64) v1.1)),(aI .i64 v1.2)]),Bf] (k:=fi)⟩
instance Xv5:PCs Tryz.prog 210 (∀ (a0:Int) (r:Int×Int),X9c a0=some r->X0i Tryz.prog 210 [(aI .u8 a0)] (AV.tup [(aI .i64 r.1),(aI .i64 r.2)])):=⟨λa0 r h=>by
 refine X0i.sym X3 X03g (nt:=25) rfl rfl ?_ okM;unfold X9c at h;revert h;exact brI (λh1=>λe=>oj e▸X7 [Bt] (k:=fi)) λh1=>brI (λh2=>λe=>oj e▸X7 [Bf,Bt] (k:=fi)) λh2=>brI (λh3=>λe=>oj e▸X7 [Bf,Bf,Bt] (k:=fi)) λh3=>λe=>oj e▸X7 [Bf,Bf,Bf] (k:=fi)⟩
end Go.Av.Tryz