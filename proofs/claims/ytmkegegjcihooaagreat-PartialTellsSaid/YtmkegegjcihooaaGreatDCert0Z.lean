/- Printed by decomp.py: that the program computes the functions. -/
import Derived.Test.YtmkegegjcihooaaGreatDFunZ
import Derived.Test.YtmkegegjcihooaaGreatTabZ
import Derived.Test.YtmkegegjcihooaaGreatSortFZ
import Derived.Test.YtmkegegjcihooaaGreatSortIZ
set_option linter.all false

namespace Go.Av.Tryz
open Go.Proofs Go.D
set_option maxRecDepth 100000
set_option maxHeartbeats 40000000
theorem tmD:Xf0 Tryz.prog X05h.find/\Tryz.prog.follows .mixedOrders=true:=⟨X9,by kernel_rfl⟩
instance tmI:TmD Tryz.prog X05h.find:=⟨tmD⟩
theorem fn3:X1g Tryz.prog 3 Tryz.f3 (Xd Tryz.f3):=⟨Tryz.func3,by kernel_rfl,rfl⟩
theorem fn11:X1g Tryz.prog 11 Tryz.f11 (Xd Tryz.f11):=⟨Tryz.func11,by kernel_rfl,rfl⟩
theorem fn12:X1g Tryz.prog 12 Tryz.f12 (Xd Tryz.f12):=⟨Tryz.func12,by kernel_rfl,rfl⟩
theorem fn13:X1g Tryz.prog 13 Tryz.f13 (Xd Tryz.f13):=⟨Tryz.func13,by kernel_rfl,rfl⟩
theorem fn14:X1g Tryz.prog 14 Tryz.f14 (Xd Tryz.f14):=⟨Tryz.func14,by kernel_rfl,rfl⟩
theorem fn15:X1g Tryz.prog 15 Tryz.f15 (Xd Tryz.f15):=⟨Tryz.func15,by kernel_rfl,rfl⟩
theorem fn16:X1g Tryz.prog 16 Tryz.f16 (Xd Tryz.f16):=⟨Tryz.func16,by kernel_rfl,rfl⟩
theorem fn17:X1g Tryz.prog 17 Tryz.f17 (Xd Tryz.f17):=⟨Tryz.func17,by kernel_rfl,rfl⟩
theorem fn18:X1g Tryz.prog 18 Tryz.f18 (Xd Tryz.f18):=⟨Tryz.func18,by kernel_rfl,rfl⟩
theorem fn25:X1g Tryz.prog 25 Tryz.f25 (Xd Tryz.f25):=⟨Tryz.func25,by kernel_rfl,rfl⟩
theorem fn26:X1g Tryz.prog 26 Tryz.f26 (Xd Tryz.f26):=⟨Tryz.func26,by kernel_rfl,rfl⟩
theorem fn28:X1g Tryz.prog 28 Tryz.f28 (Xd Tryz.f28):=⟨Tryz.func28,by kernel_rfl,rfl⟩
theorem fn29:X1g Tryz.prog 29 Tryz.f29 (Xd Tryz.f29):=⟨Tryz.func29,by kernel_rfl,rfl⟩
theorem fn30:X1g Tryz.prog 30 Tryz.f30 (Xd Tryz.f30):=⟨Tryz.func30,by kernel_rfl,rfl⟩
theorem fn31:X1g Tryz.prog 31 Tryz.f31 (Xd Tryz.f31):=⟨Tryz.func31,by kernel_rfl,rfl⟩
theorem fn36:X1g Tryz.prog 36 Tryz.f36 (Xd Tryz.f36):=⟨Tryz.func36,by kernel_rfl,rfl⟩
theorem fn37:X1g Tryz.prog 37 Tryz.f37 (Xd Tryz.f37):=⟨Tryz.func37,by kernel_rfl,rfl⟩
theorem fn38:X1g Tryz.prog 38 Tryz.f38 (Xd Tryz.f38):=⟨Tryz.func38,by kernel_rfl,rfl⟩
theorem fn39:X1g Tryz.prog 39 Tryz.f39 (Xd Tryz.f39):=⟨Tryz.func39,by kernel_rfl,rfl⟩
theorem fn40:X1g Tryz.prog 40 Tryz.f40 (Xd Tryz.f40):=⟨Tryz.func40,by kernel_rfl,rfl⟩
theorem fn41:X1g Tryz.prog 41 Tryz.f41 (Xd Tryz.f41):=⟨Tryz.func41,by kernel_rfl,rfl⟩
theorem fn42:X1g Tryz.prog 42 Tryz.f42 (Xd Tryz.f42):=⟨Tryz.func42,by kernel_rfl,rfl⟩
theorem fn43:X1g Tryz.prog 43 Tryz.f43 (Xd Tryz.f43):=⟨Tryz.func43,by kernel_rfl,rfl⟩
theorem fn44:X1g Tryz.prog 44 Tryz.f44 (Xd Tryz.f44):=⟨Tryz.func44,by kernel_rfl,rfl⟩
theorem fn45:X1g Tryz.prog 45 Tryz.f45 (Xd Tryz.f45):=⟨Tryz.func45,by kernel_rfl,rfl⟩
theorem fn47:X1g Tryz.prog 47 Tryz.f47 (Xd Tryz.f47):=⟨Tryz.func47,by kernel_rfl,rfl⟩
theorem fn57:X1g Tryz.prog 57 Tryz.f57 (Xd Tryz.f57):=⟨Tryz.func57,by kernel_rfl,rfl⟩
theorem fn58:X1g Tryz.prog 58 Tryz.f58 (Xd Tryz.f58):=⟨Tryz.func58,by kernel_rfl,rfl⟩
theorem fn59:X1g Tryz.prog 59 Tryz.f59 (Xd Tryz.f59):=⟨Tryz.func59,by kernel_rfl,rfl⟩
theorem fn60:X1g Tryz.prog 60 Tryz.f60 (Xd Tryz.f60):=⟨Tryz.func60,by kernel_rfl,rfl⟩
theorem fn61:X1g Tryz.prog 61 Tryz.f61 (Xd Tryz.f61):=⟨Tryz.func61,by kernel_rfl,rfl⟩
theorem fn62:X1g Tryz.prog 62 Tryz.f62 (Xd Tryz.f62):=⟨Tryz.func62,by kernel_rfl,rfl⟩
theorem fn63:X1g Tryz.prog 63 Tryz.f63 (Xd Tryz.f63):=⟨Tryz.func63,by kernel_rfl,rfl⟩
theorem fn64:X1g Tryz.prog 64 Tryz.f64 (Xd Tryz.f64):=⟨Tryz.func64,by kernel_rfl,rfl⟩
theorem fn67:X1g Tryz.prog 67 Tryz.f67 (Xd Tryz.f67):=⟨Tryz.func67,by kernel_rfl,rfl⟩
theorem fn68:X1g Tryz.prog 68 Tryz.f68 (Xd Tryz.f68):=⟨Tryz.func68,by kernel_rfl,rfl⟩
theorem fn75:X1g Tryz.prog 75 Tryz.f75 (Xd Tryz.f75):=⟨Tryz.func75,by kernel_rfl,rfl⟩
theorem fn76:X1g Tryz.prog 76 Tryz.f76 (Xd Tryz.f76):=⟨Tryz.func76,by kernel_rfl,rfl⟩
theorem fn77:X1g Tryz.prog 77 Tryz.f77 (Xd Tryz.f77):=⟨Tryz.func77,by kernel_rfl,rfl⟩
theorem fn78:X1g Tryz.prog 78 Tryz.f78 (Xd Tryz.f78):=⟨Tryz.func78,by kernel_rfl,rfl⟩
theorem fn79:X1g Tryz.prog 79 Tryz.f79 (Xd Tryz.f79):=⟨Tryz.func79,by kernel_rfl,rfl⟩
theorem fn80:X1g Tryz.prog 80 Tryz.f80 (Xd Tryz.f80):=⟨Tryz.func80,by kernel_rfl,rfl⟩
theorem fn81:X1g Tryz.prog 81 Tryz.f81 (Xd Tryz.f81):=⟨Tryz.func81,by kernel_rfl,rfl⟩
theorem fn82:X1g Tryz.prog 82 Tryz.f82 (Xd Tryz.f82):=⟨Tryz.func82,by kernel_rfl,rfl⟩
theorem fn84:X1g Tryz.prog 84 Tryz.f84 (Xd Tryz.f84):=⟨Tryz.func84,by kernel_rfl,rfl⟩
theorem fn91:X1g Tryz.prog 91 Tryz.f91 (Xd Tryz.f91):=⟨Tryz.func91,by kernel_rfl,rfl⟩
theorem fn98:X1g Tryz.prog 98 Tryz.f98 (Xd Tryz.f98):=⟨Tryz.func98,by kernel_rfl,rfl⟩
theorem fn99:X1g Tryz.prog 99 Tryz.f99 (Xd Tryz.f99):=⟨Tryz.func99,by kernel_rfl,rfl⟩
theorem X0dt:X1g Tryz.prog 100 Tryz.f100 (Xd Tryz.f100):=⟨Tryz.func100,by kernel_rfl,rfl⟩
theorem X0ds:X1g Tryz.prog 101 Tryz.f101 (Xd Tryz.f101):=⟨Tryz.func101,by kernel_rfl,rfl⟩
theorem X0dr:X1g Tryz.prog 102 Tryz.f102 (Xd Tryz.f102):=⟨Tryz.func102,by kernel_rfl,rfl⟩
theorem X0dq:X1g Tryz.prog 103 Tryz.f103 (Xd Tryz.f103):=⟨Tryz.func103,by kernel_rfl,rfl⟩
theorem X0dp:X1g Tryz.prog 104 Tryz.f104 (Xd Tryz.f104):=⟨Tryz.func104,by kernel_rfl,rfl⟩
theorem X0do:X1g Tryz.prog 105 Tryz.f105 (Xd Tryz.f105):=⟨Tryz.func105,by kernel_rfl,rfl⟩
theorem X0dn:X1g Tryz.prog 106 Tryz.f106 (Xd Tryz.f106):=⟨Tryz.func106,by kernel_rfl,rfl⟩
theorem X0dm:X1g Tryz.prog 107 Tryz.f107 (Xd Tryz.f107):=⟨Tryz.func107,by kernel_rfl,rfl⟩
theorem X0dl:X1g Tryz.prog 108 Tryz.f108 (Xd Tryz.f108):=⟨Tryz.func108,by kernel_rfl,rfl⟩
theorem X0dk:X1g Tryz.prog 109 Tryz.f109 (Xd Tryz.f109):=⟨Tryz.func109,by kernel_rfl,rfl⟩
theorem X0dj:X1g Tryz.prog 123 Tryz.f123 (Xd Tryz.f123):=⟨Tryz.func123,by kernel_rfl,rfl⟩
theorem X0di:X1g Tryz.prog 126 Tryz.f126 (Xd Tryz.f126):=⟨Tryz.func126,by kernel_rfl,rfl⟩
theorem X0al:X1g Tryz.prog 128 Tryz.f128 (Xd Tryz.f128):=⟨Tryz.func128,by kernel_rfl,rfl⟩
theorem X0dh:X1g Tryz.prog 135 Tryz.f135 (Xd Tryz.f135):=⟨Tryz.func135,by kernel_rfl,rfl⟩
theorem X0dg:X1g Tryz.prog 148 Tryz.f148 (Xd Tryz.f148):=⟨Tryz.func148,by kernel_rfl,rfl⟩
theorem X0df:X1g Tryz.prog 149 Tryz.f149 (Xd Tryz.f149):=⟨Tryz.func149,by kernel_rfl,rfl⟩
theorem X0de:X1g Tryz.prog 150 Tryz.f150 (Xd Tryz.f150):=⟨Tryz.func150,by kernel_rfl,rfl⟩
theorem X0dd:X1g Tryz.prog 151 Tryz.f151 (Xd Tryz.f151):=⟨Tryz.func151,by kernel_rfl,rfl⟩
theorem X0dc:X1g Tryz.prog 152 Tryz.f152 (Xd Tryz.f152):=⟨Tryz.func152,by kernel_rfl,rfl⟩
theorem X0ak:X1g Tryz.prog 153 Tryz.f153 (Xd Tryz.f153):=⟨Tryz.func153,by kernel_rfl,rfl⟩
theorem X0db:X1g Tryz.prog 154 Tryz.f154 (Xd Tryz.f154):=⟨Tryz.func154,by kernel_rfl,rfl⟩
theorem X0da:X1g Tryz.prog 155 Tryz.f155 (Xd Tryz.f155):=⟨Tryz.func155,by kernel_rfl,rfl⟩
theorem X0d9:X1g Tryz.prog 156 Tryz.f156 (Xd Tryz.f156):=⟨Tryz.func156,by kernel_rfl,rfl⟩
theorem X0d8:X1g Tryz.prog 157 Tryz.f157 (Xd Tryz.f157):=⟨Tryz.func157,by kernel_rfl,rfl⟩
theorem X0d7:X1g Tryz.prog 158 Tryz.f158 (Xd Tryz.f158):=⟨Tryz.func158,by kernel_rfl,rfl⟩
theorem X0d6:X1g Tryz.prog 159 Tryz.f159 (Xd Tryz.f159):=⟨Tryz.func159,by kernel_rfl,rfl⟩
theorem X0d5:X1g Tryz.prog 160 Tryz.f160 (Xd Tryz.f160):=⟨Tryz.func160,by kernel_rfl,rfl⟩
theorem X0d4:X1g Tryz.prog 161 Tryz.f161 (Xd Tryz.f161):=⟨Tryz.func161,by kernel_rfl,rfl⟩
theorem X0d3:X1g Tryz.prog 162 Tryz.f162 (Xd Tryz.f162):=⟨Tryz.func162,by kernel_rfl,rfl⟩
theorem X0d2:X1g Tryz.prog 163 Tryz.f163 (Xd Tryz.f163):=⟨Tryz.func163,by kernel_rfl,rfl⟩
theorem X0d1:X1g Tryz.prog 164 Tryz.f164 (Xd Tryz.f164):=⟨Tryz.func164,by kernel_rfl,rfl⟩
theorem X0d0:X1g Tryz.prog 165 Tryz.f165 (Xd Tryz.f165):=⟨Tryz.func165,by kernel_rfl,rfl⟩
theorem X0cz:X1g Tryz.prog 166 Tryz.f166 (Xd Tryz.f166):=⟨Tryz.func166,by kernel_rfl,rfl⟩
theorem X0cy:X1g Tryz.prog 167 Tryz.f167 (Xd Tryz.f167):=⟨Tryz.func167,by kernel_rfl,rfl⟩
theorem X0cx:X1g Tryz.prog 168 Tryz.f168 (Xd Tryz.f168):=⟨Tryz.func168,by kernel_rfl,rfl⟩
theorem X0cw:X1g Tryz.prog 169 Tryz.f169 (Xd Tryz.f169):=⟨Tryz.func169,by kernel_rfl,rfl⟩
theorem X0cv:X1g Tryz.prog 170 Tryz.f170 (Xd Tryz.f170):=⟨Tryz.func170,by kernel_rfl,rfl⟩
theorem X0cu:X1g Tryz.prog 171 Tryz.f171 (Xd Tryz.f171):=⟨Tryz.func171,by kernel_rfl,rfl⟩
theorem X0ct:X1g Tryz.prog 172 Tryz.f172 (Xd Tryz.f172):=⟨Tryz.func172,by kernel_rfl,rfl⟩
theorem X0cs:X1g Tryz.prog 173 Tryz.f173 (Xd Tryz.f173):=⟨Tryz.func173,by kernel_rfl,rfl⟩
theorem X0cr:X1g Tryz.prog 174 Tryz.f174 (Xd Tryz.f174):=⟨Tryz.func174,by kernel_rfl,rfl⟩
theorem X0cq:X1g Tryz.prog 175 Tryz.f175 (Xd Tryz.f175):=⟨Tryz.func175,by kernel_rfl,rfl⟩
theorem X0cp:X1g Tryz.prog 212 Tryz.f212 (Xd Tryz.f212):=⟨Tryz.func212,by kernel_rfl,rfl⟩
theorem X0co:X1g Tryz.prog 213 Tryz.f213 (Xd Tryz.f213):=⟨Tryz.func213,by kernel_rfl,rfl⟩
theorem X0cn:X1g Tryz.prog 214 Tryz.f214 (Xd Tryz.f214):=⟨Tryz.func214,by kernel_rfl,rfl⟩
theorem X0cm:X1g Tryz.prog 215 Tryz.f215 (Xd Tryz.f215):=⟨Tryz.func215,by kernel_rfl,rfl⟩
theorem X0cl:X1g Tryz.prog 216 Tryz.f216 (Xd Tryz.f216):=⟨Tryz.func216,by kernel_rfl,rfl⟩
theorem X0ck:X1g Tryz.prog 218 Tryz.f218 (Xd Tryz.f218):=⟨Tryz.func218,by kernel_rfl,rfl⟩
theorem X0cj:X1g Tryz.prog 219 Tryz.f219 (Xd Tryz.f219):=⟨Tryz.func219,by kernel_rfl,rfl⟩
theorem X0ci:X1g Tryz.prog 220 Tryz.f220 (Xd Tryz.f220):=⟨Tryz.func220,by kernel_rfl,rfl⟩
theorem X0ch:X1g Tryz.prog 221 Tryz.f221 (Xd Tryz.f221):=⟨Tryz.func221,by kernel_rfl,rfl⟩
theorem X0cg:X1g Tryz.prog 222 Tryz.f222 (Xd Tryz.f222):=⟨Tryz.func222,by kernel_rfl,rfl⟩
theorem X0cf:X1g Tryz.prog 223 Tryz.f223 (Xd Tryz.f223):=⟨Tryz.func223,by kernel_rfl,rfl⟩
theorem X0ce:X1g Tryz.prog 224 Tryz.f224 (Xd Tryz.f224):=⟨Tryz.func224,by kernel_rfl,rfl⟩
theorem X0cd:X1g Tryz.prog 225 Tryz.f225 (Xd Tryz.f225):=⟨Tryz.func225,by kernel_rfl,rfl⟩
theorem X0cc:X1g Tryz.prog 226 Tryz.f226 (Xd Tryz.f226):=⟨Tryz.func226,by kernel_rfl,rfl⟩
theorem X0cb:X1g Tryz.prog 227 Tryz.f227 (Xd Tryz.f227):=⟨Tryz.func227,by kernel_rfl,rfl⟩
theorem X0ca:X1g Tryz.prog 254 Tryz.f254 (Xd Tryz.f254):=⟨Tryz.func254,by kernel_rfl,rfl⟩
theorem X0c9:X1g Tryz.prog 255 Tryz.f255 (Xd Tryz.f255):=⟨Tryz.func255,by kernel_rfl,rfl⟩
theorem X0c8:X1g Tryz.prog 256 Tryz.f256 (Xd Tryz.f256):=⟨Tryz.func256,by kernel_rfl,rfl⟩
theorem X0c7:X1g Tryz.prog 258 Tryz.f258 (Xd Tryz.f258):=⟨Tryz.func258,by kernel_rfl,rfl⟩
theorem X0c6:X1g Tryz.prog 259 Tryz.f259 (Xd Tryz.f259):=⟨Tryz.func259,by kernel_rfl,rfl⟩
theorem X0c5:X1g Tryz.prog 260 Tryz.f260 (Xd Tryz.f260):=⟨Tryz.func260,by kernel_rfl,rfl⟩
theorem X0c4:X1g Tryz.prog 278 Tryz.f278 (Xd Tryz.f278):=⟨Tryz.func278,by kernel_rfl,rfl⟩
theorem X044:X1g Tryz.prog 279 Tryz.f279 (Xd Tryz.f279):=⟨Tryz.func279,by kernel_rfl,rfl⟩
theorem Xnm:X1g Tryz.prog 280 Tryz.f280 (Xd Tryz.f280):=⟨Tryz.func280,by kernel_rfl,rfl⟩
theorem X0c3:X1g Tryz.prog 290 Tryz.f290 (Xd Tryz.f290):=⟨Tryz.func290,by kernel_rfl,rfl⟩
theorem X0c2:X1g Tryz.prog 291 Tryz.f291 (Xd Tryz.f291):=⟨Tryz.func291,by kernel_rfl,rfl⟩
theorem X0c1:X1g Tryz.prog 292 Tryz.f292 (Xd Tryz.f292):=⟨Tryz.func292,by kernel_rfl,rfl⟩
theorem X0c0:X1g Tryz.prog 293 Tryz.f293 (Xd Tryz.f293):=⟨Tryz.func293,by kernel_rfl,rfl⟩
theorem X0bz:X1g Tryz.prog 313 Tryz.f313 (Xd Tryz.f313):=⟨Tryz.func313,by kernel_rfl,rfl⟩
instance X018:PCs Tryz.prog 36 (∀ (a0:Xv) (r:Bool),Xc0 a0=some r->X05 Tryz.prog 36 [(Xa false a0)] (aB r)):=⟨λa0 r h=>by
 refine X05.sym X9 fn36 (nt:=56) rfl rfl ?_ okM;unfold Xc0 at h;refine X1f [.el (aI .i64 (a0.Pending.length:Int)),.el (aI .i64 (a0.Rows.length:Int)),.el (aI .i64 (a0.Late.length:Int))] ?_;refine X0.round ?_;revert h;refine bI λX07j h6=>rnI [Bt,.stop 5] ?_;intro h;refine X0.join (s':=⟨fr [(1,(AV.ptr 0 0 0)),(3,(AV.ref 1 0 3)),(4,(aI .i64 0)),(39,(aB X07j))],hp ([(0,Ob [(Xa false a0)] 9),(1,Ob [(aI .i64 (a0.Pending.length:Int)),(aI .i64 (a0.Rows.length:Int)),(aI .i64 (a0.Late.length:Int))] 1)]),2⟩) ?_ (λJ=>X0.cut ?_)
 ·
  revert h;refine brI (λh7=>λe=>oj e▸X3 [Bt] (k:=fi)) λh7=>rnI [Bf] ?_;intro h;refine X0.round ?_;revert h;refine bI λXzm h13=>rnI [Bt,.stop 5] ?_;intro h;refine X0.join (s':=⟨fr [(1,(AV.ptr 0 0 0)),(3,(AV.ref 1 0 3)),(4,(aI .i64 1)),(39,(aB Xzm))],hp ([(0,Ob [(Xa false a0)] 9),(1,Ob [(aI .i64 (a0.Pending.length:Int)),(aI .i64 (a0.Rows.length:Int)),(aI .i64 (a0.Late.length:Int))] 1)]),2⟩) ?_ (λJ=>X0.cut ?_)
  ·
   revert h;refine brI (λh14=>λe=>oj e▸X3 [Bt] (k:=fi)) λh14=>rnI [Bf] ?_;intro h;refine X0.round ?_;revert h;refine bI λXzi h20=>rnI [Bt,.stop 5] ?_;intro h;refine X0.join (s':=⟨fr [(1,(AV.ptr 0 0 0)),(3,(AV.ref 1 0 3)),(4,(aI .i64 2)),(39,(aB Xzi))],hp ([(0,Ob [(Xa false a0)] 9),(1,Ob [(aI .i64 (a0.Pending.length:Int)),(aI .i64 (a0.Rows.length:Int)),(aI .i64 (a0.Late.length:Int))] 1)]),2⟩) ?_ (λJ=>X0.cut ?_)
   ·
    revert h;refine brI (λh21=>λe=>oj e▸X3 [Bt] (k:=fi)) λh21=>rnI [Bf] ?_;intro h;refine X0.round ?_;revert h;refine bI λX07w h27=>rnI [Bf,.stop 7] ?_;intro h;refine X0.join (s':=⟨fr [(2,(aB X07w))],hp ([]),0⟩) ?_ (λJ=>X0.cut ?_)
    ·
     revert h;exact λe=>oj e▸X3 [] (k:=fi)
    clear h;revert h27;refine brI (λh25=>?_) λh25=>?_
    ·
     intro h;obtain rfl:=oj h;exact X3 [.el (aI .i64 (a0.Store.length:Int)),Gf,Gf,Gf,Gf,Gf,Gf,Gf,Gf] (o:=by repeat' first|apply Ya|exact pcM|exact fq (X6 h25 rfl)|exact X04) (k:=wkT [] (X0.glue J))
    refine brI (λh26=>?_) λh26=>?_
    ·
     intro h;obtain rfl:=oj h;exact X3 [.el (aI .i64 (a0.Store.length:Int)),Gt,Gt,Gt,.el (aI .i64 (a0.Events.length:Int)),Gt,Gf,Gf,Gf,Gf] (o:=by repeat' first|apply Ya|exact pcM|exact fq (X5 h25 h26)|exact X04) (k:=wkT [] (X0.glue J))
    intro h;obtain rfl:=oj h;exact X3 [.el (aI .i64 (a0.Store.length:Int)),Gt,Gt,Gt,.el (aI .i64 (a0.Events.length:Int)),Gt,Gt,Gt,Gt,.el (aI .i64 (a0.Marks.length:Int)),Gt] (o:=by repeat' first|apply Ya|exact pcM|exact fq (X5 h25 h26)|exact X04) (k:=wkT [] (X0.glue J))
   clear h;revert h20;refine brI (λh18=>?_) λh18=>?_
   ·
    refine brI (λh19=>?_) λh19=>?_
    ·
     intro h;obtain rfl:=oj h;exact X3 [.el ((aI .i64 (a0.Late.length:Int))),Gt,Gt,Gt,.el ((aI .i64 (a0.Late.length:Int))),Gt,Gt,Gf,Gf,Gf,Gf,Gf] (o:=by repeat' first|apply Ya|exact pcM|exact fq (X6 h18 h19)|exact X04) (k:=wkT [] (X0.glue J))
    intro h;obtain rfl:=oj h;exact X3 [.el ((aI .i64 (a0.Late.length:Int))),Gt,Gt,Gt,.el ((aI .i64 (a0.Late.length:Int))),Gt,Gt,Gt,Gt,Gt,.el ((aI .i64 (a0.Late.length:Int))),Gt,Gt] (o:=by repeat' first|apply Ya|exact pcM|exact fq (X6 h18 h19)|exact X04) (k:=wkT [] (X0.glue J))
   intro h;obtain rfl:=oj h;exact X3 [.el ((aI .i64 (a0.Late.length:Int))),Gf,Gf,Gf,Gf,Gf,Gt,Gt,Gt,.el ((aI .i64 (a0.Late.length:Int))),Gt,Gt] (o:=by repeat' first|apply Ya|exact pcM|exact fq (X5 h18 rfl)|exact X04) (k:=wkT [] (X0.glue J))
  clear h;revert h13;refine brI (λh11=>?_) λh11=>?_
  ·
   refine brI (λh12=>?_) λh12=>?_
   ·
    intro h;obtain rfl:=oj h;exact X3 [.el ((aI .i64 (a0.Rows.length:Int))),Gt,Gt,Gt,.el ((aI .i64 (a0.Rows.length:Int))),Gt,Gt,Gf,Gf,Gf,Gf,Gf] (o:=by repeat' first|apply Ya|exact pcM|exact fq (X6 h11 h12)|exact X04) (k:=wkT [] (X0.glue J))
   intro h;obtain rfl:=oj h;exact X3 [.el ((aI .i64 (a0.Rows.length:Int))),Gt,Gt,Gt,.el ((aI .i64 (a0.Rows.length:Int))),Gt,Gt,Gt,Gt,Gt,.el ((aI .i64 (a0.Rows.length:Int))),Gt,Gt] (o:=by repeat' first|apply Ya|exact pcM|exact fq (X6 h11 h12)|exact X04) (k:=wkT [] (X0.glue J))
  intro h;obtain rfl:=oj h;exact X3 [.el ((aI .i64 (a0.Rows.length:Int))),Gf,Gf,Gf,Gf,Gf,Gt,Gt,Gt,.el ((aI .i64 (a0.Rows.length:Int))),Gt,Gt] (o:=by repeat' first|apply Ya|exact pcM|exact fq (X5 h11 rfl)|exact X04) (k:=wkT [] (X0.glue J))
 clear h;revert h6;refine brI (λh4=>?_) λh4=>?_
 ·
  refine brI (λh5=>?_) λh5=>?_
  ·
   intro h;obtain rfl:=oj h;exact X3 [.el ((aI .i64 (a0.Pending.length:Int))),Gt,Gt,Gt,.el ((aI .i64 (a0.Pending.length:Int))),Gt,Gt,Gf,Gf,Gf,Gf,Gf] (o:=by repeat' first|apply Ya|exact pcM|exact fq (X6 h4 h5)|exact X04) (k:=wkT [] (X0.glue J))
  intro h;obtain rfl:=oj h;exact X3 [.el ((aI .i64 (a0.Pending.length:Int))),Gt,Gt,Gt,.el ((aI .i64 (a0.Pending.length:Int))),Gt,Gt,Gt,Gt,Gt,.el ((aI .i64 (a0.Pending.length:Int))),Gt,Gt] (o:=by repeat' first|apply Ya|exact pcM|exact fq (X6 h4 h5)|exact X04) (k:=wkT [] (X0.glue J))
 intro h;obtain rfl:=oj h;exact X3 [.el ((aI .i64 (a0.Pending.length:Int))),Gf,Gf,Gf,Gf,Gf,Gt,Gt,Gt,.el ((aI .i64 (a0.Pending.length:Int))),Gt,Gt] (o:=by repeat' first|apply Ya|exact pcM|exact fq (X5 h4 rfl)|exact X04) (k:=wkT [] (X0.glue J))⟩
instance X01a:PCs Tryz.prog 37 (∀ (a0:X0e) (r:Bool),Xe9 a0=some r->X05 Tryz.prog 37 [(Xq false a0)] (aB r)):=⟨λa0 r h=>by
 refine X05.sym X9 fn37 (nt:=7) rfl rfl ?_ okM;unfold Xe9 at h;revert h;exact λe=>oj e▸X3 [.el (aI .i64 (a0.List.length:Int))] (k:=fi)⟩
theorem Xir {Q:Xp->St->Mu->Prop} {μ:Mu} (Xe:Xf):∀ (n:Nat) (X6v:Int) (o:X73) (h:X44 Xe n X6v=some o)
  (C0:o=X73.x0->X0 Tryz.prog 76 0 Q (.exit .ret) [] ⟨fr [(2,(aB true))],hp ([]),0⟩ μ)
  (C1:o=X73.x1->X0 Tryz.prog 76 0 Q (.exit (.exit 0)) [] ⟨fr [(1,(AV.ptr 0 0 0))],hp ([(0,Ob [(Xc false Xe)] 14)]),1⟩ μ),
  X0 Tryz.prog 76 0 Q (.loop (X0w 0 (Xd Tryz.f11))) [] ⟨fr [(1,(AV.ptr 0 0 0)),(3,(aI .i64 X6v))],hp ([(0,Ob [(Xc false Xe)] 14)]),1⟩ μ:=by
 intro n
 induction n with
 |zero=>intro X6v o h C0 C1;cases h
 |succ n ih =>
  intro X6v o h C0 C1;rw[X44] at h;refine X0.round ?_;revert h;refine brI (λh29=>?_) λh29=>λe=>X3 [.el (aI .i64 (Xe.Tasks.length:Int)),Bf] (k:=wkT [] (C1  (oj e).symm));refine bI λe30 h31=>?_;try have qh31:=Xi h31
  refine bI λv32 h33=>brI (λh34=>λe=>X3 [.el (aI .i64 (Xe.Tasks.length:Int)),Bt,.el (Xa false e30),.pure _ (aB v32),Bt] (k:=wkT [] (C0  (oj e).symm))) λh34=>rnI [.el (aI .i64 (Xe.Tasks.length:Int)),Bt,.el (Xa false e30),.pure _ (aB v32),Bf,.wrap] ?_;intro h;exact wkT [] (ih  _ o h C0 C1)
theorem Xiq {Q:Xp->St->Mu->Prop} {μ:Mu} (X09:Xf):∀ (n:Nat) (Xb6:Int) (o:X72) (h:X43 X09 n Xb6=some o)
  (C0:o=X72.x0->X0 Tryz.prog 76 0 Q (.exit .ret) [] ⟨fr [(2,(aB true))],hp ([]),0⟩ μ)
  (C1:o=X72.x1->X0 Tryz.prog 76 0 Q (.exit (.exit 2)) [] ⟨fr [],hp ([]),0⟩ μ),
  X0 Tryz.prog 76 0 Q (.loop (X0w 1 (Xd Tryz.f11))) [] ⟨fr [(1,(AV.ptr 0 0 0)),(4,(aI .i64 Xb6))],hp ([(0,Ob [(Xc false X09)] 14)]),1⟩ μ:=by
 intro n
 induction n with
 |zero=>intro Xb6 o h C0 C1;cases h
 |succ n ih =>
  intro Xb6 o h C0 C1;rw[X43] at h;refine X0.round ?_;revert h;refine brI (λh50=>?_) λh50=>λe=>X3 [.el (aI .i64 (X09.Queues.length:Int)),Bf] (k:=wkT [] (C1  (oj e).symm));refine bI λe51 h52=>?_;try have qh52:=Xi h52
  refine bI λv53 h54=>brI (λh55=>λe=>X3 [.el (aI .i64 (X09.Queues.length:Int)),Bt,.el (Xq false e51),.pure _ (aB v53),Bt] (k:=wkT [] (C0  (oj e).symm))) λh55=>rnI [.el (aI .i64 (X09.Queues.length:Int)),Bt,.el (Xq false e51),.pure _ (aB v53),Bf,.wrap] ?_;intro h;exact wkT [] (ih  _ o h C0 C1)
instance X013:PCs Tryz.prog 11 (∀ (a0:Xf) (r:Bool),Xbw a0=some r->X05 Tryz.prog 11 [(Xc false a0)] (aB r)):=⟨λa0 r h=>by
 refine X05.sym X9 fn11 (nt:=76) rfl rfl ?_ okM;unfold Xbw at h;revert h;refine bI λX074 h14=>rnI [.stop 1] ?_;intro h;refine X0.join (s':=⟨fr [(1,(AV.ptr 0 0 0)),(49,(aB X074))],hp ([(0,Ob [(Xc false a0)] 14)]),1⟩) ?_ (λJ=>X0.cut ?_)
 ·
  revert h;refine brI (λh15=>λe=>oj e▸X3 [Bt] (k:=fi)) λh15=>bI λo35 h36=>rnI [Bf] ?_;intro h;refine wkT [] (X0.cut (Xir a0 _ _ _ h36 ?_ ?_))
  ·
   intro eo35;subst eo35;refine X0.glue ?_;try dsimp only at h
   revert h;exact λe=>oj e▸X3 [] (k:=fi)
  intro eo35;subst eo35;refine X0.glue ?_;try dsimp only at h
  revert h;refine bI λo56 h57=>rnI [] ?_;intro h;refine wkT [] (X0.cut (Xiq a0 _ _ _ h57 ?_ ?_))
  ·
   intro eo56;subst eo56;refine X0.glue ?_;try dsimp only at h
   revert h;exact λe=>oj e▸X3 [] (k:=fi)
  intro eo56;subst eo56;refine X0.glue ?_;try dsimp only at h
  revert h;exact λe=>oj e▸X3 [] (k:=fi)
 clear h;revert h14;refine brI (λh8=>?_) λh8=>?_
 ·
  intro h;obtain rfl:=oj h;exact X3 [X21.el (aI .i64 (a0.Graph.Ops.length:Int)),Gf,Gf,Gf,Gf,Gf,Gf,Gf,Gf,Gf,Gf,Gf,Gf,Gf,Gf,Gf,Gf,Gf,Gf,Gf,Gf,Gf,Gf,Gf,Gf,Gf,Gf,Gf,Gf] (o:=by repeat' first|apply Ya|exact pcM|exact fq (X6 h8 rfl)|exact fq (X6 (X6 h8 rfl) rfl)|exact fq (X6 (X6 (X6 h8 rfl) rfl) rfl)|exact fq (X6 (X6 (X6 (X6 h8 rfl) rfl) rfl) rfl)|exact fq (X6 (X6 (X6 (X6 (X6 h8 rfl) rfl) rfl) rfl) rfl)|exact X04) (k:=wkT [] (X0.glue J))
 refine rnI [.el (aI .i64 (a0.Graph.Ops.length:Int)),Gt,Gt,Gt,Gt,.el (aI .i64 (a0.Graph.Channels.length:Int)),Gt,.stop 999999] ?_;refine brI (λh9=>?_) λh9=>?_
 ·
  intro h;obtain rfl:=oj h;exact X3 [Gf,Gf,Gf,Gf,Gf,Gf,Gf,Gf,Gf,Gf,Gf,Gf,Gf,Gf,Gf,Gf,Gf,Gf,Gf,Gf,Gf,Gf,Gf] (o:=by repeat' first|apply Ya|exact pcM|exact fq (X5 h8 h9)|exact fq (X6 (X5 h8 h9) rfl)|exact fq (X6 (X6 (X5 h8 h9) rfl) rfl)|exact fq (X6 (X6 (X6 (X5 h8 h9) rfl) rfl) rfl)|exact fq (X6 (X6 (X6 (X6 (X5 h8 h9) rfl) rfl) rfl) rfl)|exact X04) (k:=wkT [] (X0.glue J))
 refine brI (λh10=>?_) λh10=>?_
 ·
  intro h;obtain rfl:=oj h;exact X3 [Gt,Gt,Gt,.el (aI .i64 (a0.Tasks.length:Int)),Gt,Gf,Gf,Gf,Gf,Gf,Gf,Gf,Gf,Gf,Gf,Gf,Gf,Gf,Gf,Gf,Gf,Gf,Gf,Gf] (o:=by repeat' first|apply Ya|exact pcM|exact fq (X5 h8 h9)|exact fq (X5 (X5 h8 h9) h10)|exact fq (X6 (X5 (X5 h8 h9) h10) rfl)|exact fq (X6 (X6 (X5 (X5 h8 h9) h10) rfl) rfl)|exact fq (X6 (X6 (X6 (X5 (X5 h8 h9) h10) rfl) rfl) rfl)|exact X04) (k:=wkT [] (X0.glue J))
 refine rnI [Gt,Gt,Gt,.el (aI .i64 (a0.Tasks.length:Int)),Gt,Gt,Gt,Gt,.el (aI .i64 (a0.Queues.length:Int)),Gt,.stop 999999] (o:=by repeat' first|apply Ya|exact pcM|exact fq (X5 h8 h9)|exact fq (X5 (X5 h8 h9) h10)|exact X04) ?_;refine brI (λh11=>?_) λh11=>?_
 ·
  intro h;obtain rfl:=oj h;exact X3 [Gf,Gf,Gf,Gf,Gf,Gf,Gf,Gf,Gf,Gf,Gf,Gf,Gf,Gf,Gf] (o:=by repeat' first|apply Ya|exact pcM|exact fq (X5 (X5 (X5 h8 h9) h10) h11)|exact fq (X6 (X5 (X5 (X5 h8 h9) h10) h11) rfl)|exact fq (X6 (X6 (X5 (X5 (X5 h8 h9) h10) h11) rfl) rfl)|exact X04) (k:=wkT [] (X0.glue J))
 refine brI (λh12=>?_) λh12=>?_
 ·
  intro h;obtain rfl:=oj h;exact X3 [Gt,Gt,Gt,Gt,.el (aI .i64 (a0.Query.Arg.length:Int)),Gt,Gf,Gf,Gf,Gf,Gf,Gf,Gf,Gf,Gf,Gf] (o:=by repeat' first|apply Ya|exact pcM|exact fq (X5 (X5 (X5 h8 h9) h10) h11)|exact fq (X5 (X5 (X5 (X5 h8 h9) h10) h11) h12)|exact fq (X6 (X5 (X5 (X5 (X5 h8 h9) h10) h11) h12) rfl)|exact X04) (k:=wkT [] (X0.glue J))
 refine rnI [Gt,Gt,Gt,Gt,.el (aI .i64 (a0.Query.Arg.length:Int)),Gt,Gt,Gt,Gt,Gt,.el (aI .i64 (a0.Query.Where.length:Int)),Gt,.stop 999999] (o:=by repeat' first|apply Ya|exact pcM|exact fq (X5 (X5 (X5 h8 h9) h10) h11)|exact fq (X5 (X5 (X5 (X5 h8 h9) h10) h11) h12)|exact X04) ?_;refine brI (λh13=>?_) λh13=>?_
 ·
  intro h;obtain rfl:=oj h;exact X3 [Gf,Gf,Gf,Gf,Gf] (o:=by repeat' first|apply Ya|exact pcM|exact fq (X5 (X5 (X5 (X5 (X5 h8 h9) h10) h11) h12) h13)|exact X04) (k:=wkT [] (X0.glue J))
 intro h;obtain rfl:=oj h;exact X3 [Gt,Gt,Gt,Gt,.el (aI .i64 (a0.Query.Sources.length:Int)),Gt] (o:=by repeat' first|apply Ya|exact pcM|exact fq (X5 (X5 (X5 (X5 (X5 h8 h9) h10) h11) h12) h13)|exact X04) (k:=wkT [] (X0.glue J))⟩
end Go.Av.Tryz