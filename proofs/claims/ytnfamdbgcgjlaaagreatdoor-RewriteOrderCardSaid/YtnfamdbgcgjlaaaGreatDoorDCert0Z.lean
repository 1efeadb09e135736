/- Printed by decomp.py: that the program computes the functions. -/
import Derived.Test.YtnfamdbgcgjlaaaGreatDoorDFunZ
set_option linter.all false

namespace Go.Av.Tryz
open Go.Proofs Go.D
set_option maxRecDepth 10000
set_option maxHeartbeats 40000000
theorem tmD:X5e Tryz.prog Xmc.find/\Tryz.prog.follows .mixedOrders=true:=⟨X7,by kernel_rfl⟩
instance tmI:TmD Tryz.prog Xmc.find:=⟨tmD⟩
theorem fn4:X2m Tryz.prog 4 Tryz.f4 (X3 Tryz.f4):=⟨Tryz.func4,by kernel_rfl,rfl⟩
theorem fn5:X2m Tryz.prog 5 Tryz.f5 (X3 Tryz.f5):=⟨Tryz.func5,by kernel_rfl,rfl⟩
theorem fn6:X2m Tryz.prog 6 Tryz.f6 (X3 Tryz.f6):=⟨Tryz.func6,by kernel_rfl,rfl⟩
theorem fn9:X2m Tryz.prog 9 Tryz.f9 (X3 Tryz.f9):=⟨Tryz.func9,by kernel_rfl,rfl⟩
theorem fn10:X2m Tryz.prog 10 Tryz.f10 (X3 Tryz.f10):=⟨Tryz.func10,by kernel_rfl,rfl⟩
theorem fn11:X2m Tryz.prog 11 Tryz.f11 (X3 Tryz.f11):=⟨Tryz.func11,by kernel_rfl,rfl⟩
theorem fn13:X2m Tryz.prog 13 Tryz.f13 (X3 Tryz.f13):=⟨Tryz.func13,by kernel_rfl,rfl⟩
theorem fn14:X2m Tryz.prog 14 Tryz.f14 (X3 Tryz.f14):=⟨Tryz.func14,by kernel_rfl,rfl⟩
theorem fn15:X2m Tryz.prog 15 Tryz.f15 (X3 Tryz.f15):=⟨Tryz.func15,by kernel_rfl,rfl⟩
theorem fn18:X2m Tryz.prog 18 Tryz.f18 (X3 Tryz.f18):=⟨Tryz.func18,by kernel_rfl,rfl⟩
theorem fn19:X2m Tryz.prog 19 Tryz.f19 (X3 Tryz.f19):=⟨Tryz.func19,by kernel_rfl,rfl⟩
theorem fn20:X2m Tryz.prog 20 Tryz.f20 (X3 Tryz.f20):=⟨Tryz.func20,by kernel_rfl,rfl⟩
theorem fn21:X2m Tryz.prog 21 Tryz.f21 (X3 Tryz.f21):=⟨Tryz.func21,by kernel_rfl,rfl⟩
theorem fn22:X2m Tryz.prog 22 Tryz.f22 (X3 Tryz.f22):=⟨Tryz.func22,by kernel_rfl,rfl⟩
theorem fn23:X2m Tryz.prog 23 Tryz.f23 (X3 Tryz.f23):=⟨Tryz.func23,by kernel_rfl,rfl⟩
theorem fn24:X2m Tryz.prog 24 Tryz.f24 (X3 Tryz.f24):=⟨Tryz.func24,by kernel_rfl,rfl⟩
theorem fn25:X2m Tryz.prog 25 Tryz.f25 (X3 Tryz.f25):=⟨Tryz.func25,by kernel_rfl,rfl⟩
theorem fn32:X2m Tryz.prog 32 Tryz.f32 (X3 Tryz.f32):=⟨Tryz.func32,by kernel_rfl,rfl⟩
theorem fn33:X2m Tryz.prog 33 Tryz.f33 (X3 Tryz.f33):=⟨Tryz.func33,by kernel_rfl,rfl⟩
theorem fn34:X2m Tryz.prog 34 Tryz.f34 (X3 Tryz.f34):=⟨Tryz.func34,by kernel_rfl,rfl⟩
theorem fn35:X2m Tryz.prog 35 Tryz.f35 (X3 Tryz.f35):=⟨Tryz.func35,by kernel_rfl,rfl⟩
theorem fn36:X2m Tryz.prog 36 Tryz.f36 (X3 Tryz.f36):=⟨Tryz.func36,by kernel_rfl,rfl⟩
theorem fn37:X2m Tryz.prog 37 Tryz.f37 (X3 Tryz.f37):=⟨Tryz.func37,by kernel_rfl,rfl⟩
theorem fn38:X2m Tryz.prog 38 Tryz.f38 (X3 Tryz.f38):=⟨Tryz.func38,by kernel_rfl,rfl⟩
theorem fn39:X2m Tryz.prog 39 Tryz.f39 (X3 Tryz.f39):=⟨Tryz.func39,by kernel_rfl,rfl⟩
theorem fn40:X2m Tryz.prog 40 Tryz.f40 (X3 Tryz.f40):=⟨Tryz.func40,by kernel_rfl,rfl⟩
theorem fn41:X2m Tryz.prog 41 Tryz.f41 (X3 Tryz.f41):=⟨Tryz.func41,by kernel_rfl,rfl⟩
theorem fn42:X2m Tryz.prog 42 Tryz.f42 (X3 Tryz.f42):=⟨Tryz.func42,by kernel_rfl,rfl⟩
theorem fn43:X2m Tryz.prog 43 Tryz.f43 (X3 Tryz.f43):=⟨Tryz.func43,by kernel_rfl,rfl⟩
theorem fn44:X2m Tryz.prog 44 Tryz.f44 (X3 Tryz.f44):=⟨Tryz.func44,by kernel_rfl,rfl⟩
theorem fn45:X2m Tryz.prog 45 Tryz.f45 (X3 Tryz.f45):=⟨Tryz.func45,by kernel_rfl,rfl⟩
theorem fn46:X2m Tryz.prog 46 Tryz.f46 (X3 Tryz.f46):=⟨Tryz.func46,by kernel_rfl,rfl⟩
theorem fn61:X2m Tryz.prog 61 Tryz.f61 (X3 Tryz.f61):=⟨Tryz.func61,by kernel_rfl,rfl⟩
theorem fn62:X2m Tryz.prog 62 Tryz.f62 (X3 Tryz.f62):=⟨Tryz.func62,by kernel_rfl,rfl⟩
theorem fn63:X2m Tryz.prog 63 Tryz.f63 (X3 Tryz.f63):=⟨Tryz.func63,by kernel_rfl,rfl⟩
theorem fn64:X2m Tryz.prog 64 Tryz.f64 (X3 Tryz.f64):=⟨Tryz.func64,by kernel_rfl,rfl⟩
theorem fn65:X2m Tryz.prog 65 Tryz.f65 (X3 Tryz.f65):=⟨Tryz.func65,by kernel_rfl,rfl⟩
theorem fn66:X2m Tryz.prog 66 Tryz.f66 (X3 Tryz.f66):=⟨Tryz.func66,by kernel_rfl,rfl⟩
theorem fn67:X2m Tryz.prog 67 Tryz.f67 (X3 Tryz.f67):=⟨Tryz.func67,by kernel_rfl,rfl⟩
theorem fn68:X2m Tryz.prog 68 Tryz.f68 (X3 Tryz.f68):=⟨Tryz.func68,by kernel_rfl,rfl⟩
theorem fn69:X2m Tryz.prog 69 Tryz.f69 (X3 Tryz.f69):=⟨Tryz.func69,by kernel_rfl,rfl⟩
theorem fn70:X2m Tryz.prog 70 Tryz.f70 (X3 Tryz.f70):=⟨Tryz.func70,by kernel_rfl,rfl⟩
theorem fn71:X2m Tryz.prog 71 Tryz.f71 (X3 Tryz.f71):=⟨Tryz.func71,by kernel_rfl,rfl⟩
theorem fn72:X2m Tryz.prog 72 Tryz.f72 (X3 Tryz.f72):=⟨Tryz.func72,by kernel_rfl,rfl⟩
theorem fn73:X2m Tryz.prog 73 Tryz.f73 (X3 Tryz.f73):=⟨Tryz.func73,by kernel_rfl,rfl⟩
theorem fn88:X2m Tryz.prog 88 Tryz.f88 (X3 Tryz.f88):=⟨Tryz.func88,by kernel_rfl,rfl⟩
theorem fn89:X2m Tryz.prog 89 Tryz.f89 (X3 Tryz.f89):=⟨Tryz.func89,by kernel_rfl,rfl⟩
theorem fn90:X2m Tryz.prog 90 Tryz.f90 (X3 Tryz.f90):=⟨Tryz.func90,by kernel_rfl,rfl⟩
theorem fn91:X2m Tryz.prog 91 Tryz.f91 (X3 Tryz.f91):=⟨Tryz.func91,by kernel_rfl,rfl⟩
theorem fn92:X2m Tryz.prog 92 Tryz.f92 (X3 Tryz.f92):=⟨Tryz.func92,by kernel_rfl,rfl⟩
theorem fn93:X2m Tryz.prog 93 Tryz.f93 (X3 Tryz.f93):=⟨Tryz.func93,by kernel_rfl,rfl⟩
theorem fn94:X2m Tryz.prog 94 Tryz.f94 (X3 Tryz.f94):=⟨Tryz.func94,by kernel_rfl,rfl⟩
theorem fn95:X2m Tryz.prog 95 Tryz.f95 (X3 Tryz.f95):=⟨Tryz.func95,by kernel_rfl,rfl⟩
theorem fn96:X2m Tryz.prog 96 Tryz.f96 (X3 Tryz.f96):=⟨Tryz.func96,by kernel_rfl,rfl⟩
theorem fn97:X2m Tryz.prog 97 Tryz.f97 (X3 Tryz.f97):=⟨Tryz.func97,by kernel_rfl,rfl⟩
theorem fn98:X2m Tryz.prog 98 Tryz.f98 (X3 Tryz.f98):=⟨Tryz.func98,by kernel_rfl,rfl⟩
theorem fn99:X2m Tryz.prog 99 Tryz.f99 (X3 Tryz.f99):=⟨Tryz.func99,by kernel_rfl,rfl⟩
theorem X05f:X2m Tryz.prog 100 Tryz.f100 (X3 Tryz.f100):=⟨Tryz.func100,by kernel_rfl,rfl⟩
theorem X05e:X2m Tryz.prog 101 Tryz.f101 (X3 Tryz.f101):=⟨Tryz.func101,by kernel_rfl,rfl⟩
theorem X05d:X2m Tryz.prog 102 Tryz.f102 (X3 Tryz.f102):=⟨Tryz.func102,by kernel_rfl,rfl⟩
theorem X05c:X2m Tryz.prog 103 Tryz.f103 (X3 Tryz.f103):=⟨Tryz.func103,by kernel_rfl,rfl⟩
theorem X05b:X2m Tryz.prog 118 Tryz.f118 (X3 Tryz.f118):=⟨Tryz.func118,by kernel_rfl,rfl⟩
theorem X05a:X2m Tryz.prog 119 Tryz.f119 (X3 Tryz.f119):=⟨Tryz.func119,by kernel_rfl,rfl⟩
theorem X059:X2m Tryz.prog 120 Tryz.f120 (X3 Tryz.f120):=⟨Tryz.func120,by kernel_rfl,rfl⟩
theorem X058:X2m Tryz.prog 121 Tryz.f121 (X3 Tryz.f121):=⟨Tryz.func121,by kernel_rfl,rfl⟩
theorem X023:X2m Tryz.prog 122 Tryz.f122 (X3 Tryz.f122):=⟨Tryz.func122,by kernel_rfl,rfl⟩
theorem X057:X2m Tryz.prog 123 Tryz.f123 (X3 Tryz.f123):=⟨Tryz.func123,by kernel_rfl,rfl⟩
theorem Xga:X2m Tryz.prog 124 Tryz.f124 (X3 Tryz.f124):=⟨Tryz.func124,by kernel_rfl,rfl⟩
theorem X056:X2m Tryz.prog 125 Tryz.f125 (X3 Tryz.f125):=⟨Tryz.func125,by kernel_rfl,rfl⟩
theorem X055:X2m Tryz.prog 126 Tryz.f126 (X3 Tryz.f126):=⟨Tryz.func126,by kernel_rfl,rfl⟩
theorem X054:X2m Tryz.prog 127 Tryz.f127 (X3 Tryz.f127):=⟨Tryz.func127,by kernel_rfl,rfl⟩
theorem X053:X2m Tryz.prog 128 Tryz.f128 (X3 Tryz.f128):=⟨Tryz.func128,by kernel_rfl,rfl⟩
theorem Xtm:X2m Tryz.prog 129 Tryz.f129 (X3 Tryz.f129):=⟨Tryz.func129,by kernel_rfl,rfl⟩
theorem X052:X2m Tryz.prog 152 Tryz.f152 (X3 Tryz.f152):=⟨Tryz.func152,by kernel_rfl,rfl⟩
theorem Xx (r:Bool) (h:X4y=some r):X06 Tryz.prog 12 [] (aB r):=by
 obtain rfl:=oj h;exact X02n
instance Xrc:PCs Tryz.prog 43 (∀ (a0:(List X1)) (r:Bool),X76 a0=some r->X06 Tryz.prog 43 [(Lf (a0.map X0))] (aB r)):=⟨λa0 r h=>by
 refine X06.sym X7 fn43 (nt:=6) rfl rfl ?_ okM;unfold X76 at h;revert h;exact λe=>oj e▸Xd [.el (aI .i64 (a0.length:Int))] (k:=fi)⟩
instance Xr6:PCs Tryz.prog 24 (∀ (a0:Xa) (r:Bool),X74 a0=some r->X06 Tryz.prog 24 [(X8 false a0)] (aB r)):=⟨λa0 r h=>by
 refine X06.sym X7 fn24 (nt:=17) rfl rfl ?_ okM;unfold X74 at h;revert h;refine bI λj7_2 h14=>rnI [.stop 1] ?_;intro h;refine X4.join (s':=⟨fr [(2,(aB j7_2))],hp ([]),0⟩) ?_ (λJ=>X4.cut ?_)
 ·
  revert h;exact λe=>oj e▸Xd [] (k:=fi)
 clear h;revert h14;refine bI λv8 h9=>brI (λh10=>?_) λh10=>?_
 ·
  intro h;obtain rfl:=oj h;exact Xd [.pure _ (aB v8),Gf,Gf,Gf,Gf,Gf,Gf,Gf] (o:=by repeat' first|apply Ya|exact pcM|exact fq (X6 h10 rfl)|exact Xu) (k:=wkT [] (X4.glue J))
 refine bI λv11 h12=>brI (λh13=>?_) λh13=>?_
 ·
  intro h;obtain rfl:=oj h;exact Xd [.pure _ (aB v8),Gt,Gt,Gt,.pure _ (aB v11),Gf,Gf,Gf,Gf] (o:=by repeat' first|apply Ya|exact pcM|exact fq (X9 h10 h13)|exact Xu) (k:=wkT [] (X4.glue J))
 intro h;obtain rfl:=oj h;exact Xd [.pure _ (aB v8),Gt,Gt,Gt,.pure _ (aB v11),Gt,Gt,Gt,.el (aI .i64 (a0.Sources.length:Int)),Gt] (o:=by repeat' first|apply Ya|exact pcM|exact fq (X9 h10 h13)|exact Xu) (k:=wkT [] (X4.glue J))⟩
instance Xrd:PCs Tryz.prog 98 (∀ (a0:Int) (r:Int),X0b a0=some r->X06 Tryz.prog 98 [(aI .u8 a0)] (aI .i64 r)):=⟨λa0 r h=>by
 refine X06.sym X7 fn98 (nt:=7) rfl rfl ?_ okM;unfold X0b at h;revert h;exact brI (λh1=>λe=>oj e▸Xd [Bt] (k:=fi)) λh1=>brI (λh2=>λe=>oj e▸Xd [Bf,Bt] (k:=fi)) λh2=>λe=>oj e▸Xd [Bf,Bf] (k:=fi)⟩
instance Xra:PCs Tryz.prog 99 (∀ (a0:X1) (a1:Int) (a2:Int) (r:Bool),X4u a0 a1 a2=some r->X06 Tryz.prog 99 [(X0 a0),(aI .i64 a1),(aI .i64 a2)] (aB r)):=⟨λa0 a1 a2 r h=>by
 refine X06.sym X7 fn99 (nt:=52) rfl rfl ?_ okM;unfold X4u at h;revert h;exact λe=>oj e▸Xd [] (k:=fi)⟩
theorem Xck {Q:Xi->St->Mu->Prop} {μ:Mu} (X0l:(List X1)) (hl:X0l.length<=140737488355328):∀ (xs:List X1) (k:Nat) (hx:X0l.drop k=xs) (Xr:(List Int)) (Xg:(List Int)) (X2b:Nb Xr) (Xp:Nb Xg) (o:X3h) (h:X0w X0l xs k Xr Xg=some o)
  (C0:∀ (X01:(List Int)) (X03:(List Int)) (X1s:Nb X01) (X0h:Nb X03),o=X3h.x0 X01 X03->X4 Tryz.prog 102 0 Q (.exit (.exit 0)) [] ⟨fr [(0,(Lf (X0l.map X0))),(5,(slE X1s.1 0 (List.map (aI .i64) X01))),(6,(slE X0h.1 1 (List.map (aI .i64) X03)))],hp ([]++opE X1s.1 0 1 (List.map (aI .i64) X01)++opE X0h.1 1 1 (List.map (aI .i64) X03)),2⟩ μ)
  (C1:∀ (X05:(List Int)) (X4r:(List Int)) (X07:Nb X05) (Xaa:Nb X4r),o=X3h.x1 X05 X4r->X4 Tryz.prog 102 0 Q (.exit .ret) [] ⟨fr [(2,(slE X07.1 0 (List.map (aI .i64) X05))),(3,(slE Xaa.1 1 (List.map (aI .i64) X4r))),(4,(aB false))],hp ([]++opE X07.1 0 1 (List.map (aI .i64) X05)++opE Xaa.1 1 1 (List.map (aI .i64) X4r)),2⟩ μ),
  X4 Tryz.prog 102 0 Q (.loop (X7j 0 (X3 Tryz.f68))) [] ⟨fr [(0,(Lf (X0l.map X0))),(5,(slE X2b.1 0 (List.map (aI .i64) Xr))),(6,(slE Xp.1 1 (List.map (aI .i64) Xg))),(7,(aI .i64 (k:Int)))],hp ([]++opE X2b.1 0 1 (List.map (aI .i64) Xr)++opE Xp.1 1 1 (List.map (aI .i64) Xg)),2⟩ μ:=by
 intro xs
 induction xs with
 |nil =>
  intro k hx Xr Xg X2b Xp o h C0 C1;have hk:=drop_nil hx;have hc:decide ((k:Int)<(X0l.length:Int))=false:=Yf om;rw[X0w] at h;rcases X2b with ⟨_|_,X6p⟩
  ·
   rcases Xp with ⟨_|_,X0j⟩
   ·
    refine X4.round ?_;revert h;exact λe=>Xd [.el (aI .i64 (X0l.length:Int)),Bf] (k:=wkT [] (C0 _ _  nbF nbF (oj e).symm))
   obtain rfl:=X0j rfl;refine X4.round ?_;revert h;exact λe=>Xd [.el (aI .i64 (X0l.length:Int)),Bf] (k:=wkT [] (C0 _ _  nbF nbS (oj e).symm))
  ·
   obtain rfl:=X6p rfl;rcases Xp with ⟨_|_,X0j⟩
   ·
    refine X4.round ?_;revert h;exact λe=>Xd [.el (aI .i64 (X0l.length:Int)),Bf] (k:=wkT [] (C0 _ _  nbS nbF (oj e).symm))
   ·
    obtain rfl:=X0j rfl;refine X4.round ?_;revert h;exact λe=>Xd [.el (aI .i64 (X0l.length:Int)),Bf] (k:=wkT [] (C0 _ _  nbS nbS (oj e).symm))
 |cons x xs ih =>
  intro k hx Xr Xg X2b Xp o h C0 C1;obtain⟨hk,hg,hx1⟩:=drop_cons hx;have hc:decide ((k:Int)<(X0l.length:Int))=true:=Yt om;rw[X0w] at h;rcases X2b with ⟨_|_,X6p⟩
  ·
   rcases Xp with ⟨_|_,X0j⟩
   ·
    refine X4.round ?_;revert h;refine bI λv156 h157=>brI (λh158=>?_) λh158=>?_
    ·
     refine brI (λh159=>λe=>Xd [.el (aI .i64 (X0l.length:Int)),Bt,.el (X0 x),.pure _ (aI .i64 v156),Bt,.wrap,Bt] (k:=wkT [] (C1 _ _  nbS nbS (oj e).symm))) λh159=>bI λe160 h161=>?_;try have qh161:=Xm h161
     refine bI λe162 h163=>?_;try have qh163:=Xm h163
     refine rnI [.el (aI .i64 (X0l.length:Int)),Bt,.el (X0 x),.pure _ (aI .i64 v156),Bt,.wrap,Bf,.el (aI .i64 e160),.ld (aI .i64 e160),.wrap,.el (aI .i64 e160),.ld (aI .i64 e160),.wrap,.el (aI .i64 e162),.ld (aI .i64 e162),.wrap] ?_;refine brI (λh164=>?_) λh164=>?_
     ·
      refine brI (λh165=>λe=>Xd [Bt,Bt] (k:=wkT [] (C1 _ _  nbS nbS (oj e).symm))) λh165=>bI λe166 h167=>?_;try have qh167:=Xm h167
      refine bI λe168 h169=>?_;try have qh169:=Xm h169
      refine bI λv170 h171=>rnI [Bt,Bf,.el (aI .i64 e166),.ld (aI .i64 e166),.wrap,.el (aI .i64 e168),.ld (aI .i64 e168),.wrap,.el (X0 x),.pure _ (aB v170)] ?_;refine brI (λh172=>λe=>Xd [Bt] (k:=wkT [] (C1 _ _  nbS nbS (oj e).symm))) λh172=>?_;refine bI λu173 h174=>bI λu175 h176=>rnI [Bf,.no,.no] (o:=by repeat' first|apply Ya|exact pcM|(refine X20 h174 rfl ?_;first|(simp<;>omega)|(simp[hc,h158,h159,h164,h165,h172]<;>omega))|(refine X0p h174 (by decide) ?_;first|(simp<;>omega)|(simp[hc,h158,h159,h164,h165,h172]<;>omega))|(refine X20 h176 rfl ?_;first|(simp<;>omega)|(simp[hc,h158,h159,h164,h165,h172]<;>omega))|(refine X0p h176 (by decide) ?_;first|(simp<;>omega)|(simp[hc,h158,h159,h164,h165,h172]<;>omega))|exact Xu) ?_;intro h;exact wkT [(0,3),(1,5)] (ih (k+1) hx1 _ _ nbF nbF o h C0 C1)
     refine bI λv177 h178=>brI (λh179=>λe=>Xd [Bf,.el (X0 x),.pure _ (aB v177),Bt] (k:=wkT [] (C1 _ _  nbS nbS (oj e).symm))) λh179=>?_;refine bI λu180 h181=>bI λu182 h183=>rnI [Bf,.el (X0 x),.pure _ (aB v177),Bf,.no,.no] (o:=by repeat' first|apply Ya|exact pcM|(refine X20 h181 rfl ?_;first|(simp<;>omega)|(simp[hc,h158,h159,h164,h179]<;>omega))|(refine X0p h181 (by decide) ?_;first|(simp<;>omega)|(simp[hc,h158,h159,h164,h179]<;>omega))|(refine X20 h183 rfl ?_;first|(simp<;>omega)|(simp[hc,h158,h159,h164,h179]<;>omega))|(refine X0p h183 (by decide) ?_;first|(simp<;>omega)|(simp[hc,h158,h159,h164,h179]<;>omega))|exact Xu) ?_;intro h;exact wkT [(0,3),(1,5)] (ih (k+1) hx1 _ _ nbF nbF o h C0 C1)
    refine bI λv184 h185=>brI (λh186=>λe=>Xd [.el (aI .i64 (X0l.length:Int)),Bt,.el (X0 x),.pure _ (aI .i64 v156),Bf,.el (X0 x),.pure _ (aB v184),Bt] (k:=wkT [] (C1 _ _  nbS nbS (oj e).symm))) λh186=>?_;refine bI λu187 h188=>bI λu189 h190=>rnI [.el (aI .i64 (X0l.length:Int)),Bt,.el (X0 x),.pure _ (aI .i64 v156),Bf,.el (X0 x),.pure _ (aB v184),Bf,.no,.no] (o:=by repeat' first|apply Ya|exact pcM|(refine X20 h188 rfl ?_;first|(simp<;>omega)|(simp[hc,h158,h186]<;>omega))|(refine X0p h188 (by decide) ?_;first|(simp<;>omega)|(simp[hc,h158,h186]<;>omega))|(refine X20 h190 rfl ?_;first|(simp<;>omega)|(simp[hc,h158,h186]<;>omega))|(refine X0p h190 (by decide) ?_;first|(simp<;>omega)|(simp[hc,h158,h186]<;>omega))|exact Xu) ?_;intro h;exact wkT [(0,3),(1,5)] (ih (k+1) hx1 _ _ nbF nbF o h C0 C1)
   obtain rfl:=X0j rfl;refine X4.round ?_;revert h;refine bI λv191 h192=>brI (λh193=>?_) λh193=>?_
   ·
    refine brI (λh194=>λe=>Xd [.el (aI .i64 (X0l.length:Int)),Bt,.el (X0 x),.pure _ (aI .i64 v191),Bt,.wrap,Bt] (k:=wkT [] (C1 _ _  nbS nbS (oj e).symm))) λh194=>bI λe195 h196=>?_;try have qh196:=Xm h196
    refine bI λe197 h198=>?_;try have qh198:=Xm h198
    intro h
    first|exact absurd (h198) (by simp[getI];done)|(simp[getI,hc,h193,h194] at h;done)|(simp[hc,h193,h194] at hg;done)|exact absurd (h198) (by simp[getI,hc,h193,h194];done)
   refine bI λv199 h200=>brI (λh201=>λe=>Xd [.el (aI .i64 (X0l.length:Int)),Bt,.el (X0 x),.pure _ (aI .i64 v191),Bf,.el (X0 x),.pure _ (aB v199),Bt] (k:=wkT [] (C1 _ _  nbS nbS (oj e).symm))) λh201=>?_;refine bI λu202 h203=>bI λu204 h205=>rnI [.el (aI .i64 (X0l.length:Int)),Bt,.el (X0 x),.pure _ (aI .i64 v191),Bf,.el (X0 x),.pure _ (aB v199),Bf,.no,.no] (o:=by repeat' first|apply Ya|exact pcM|(refine X20 h203 rfl ?_;first|(simp<;>omega)|(simp[hc,h193,h201]<;>omega))|(refine X0p h203 (by decide) ?_;first|(simp<;>omega)|(simp[hc,h193,h201]<;>omega))|(refine X20 h205 rfl ?_;first|(simp<;>omega)|(simp[hc,h193,h201]<;>omega))|(refine X0p h205 (by decide) ?_;first|(simp<;>omega)|(simp[hc,h193,h201]<;>omega))|exact Xu) ?_;intro h;exact wkT [(0,3),(1,5)] (ih (k+1) hx1 _ _ nbF nbF o h C0 C1)
  obtain rfl:=X6p rfl;rcases Xp with ⟨_|_,X0j⟩<;>(try obtain rfl:=X0j rfl);all_goals
   refine X4.round ?_;revert h;refine bI λv206 h207=>brI (λh208=>?_) λh208=>?_
   ·
    refine brI (λh209=>λe=>Xd [.el (aI .i64 (X0l.length:Int)),Bt,.el (X0 x),.pure _ (aI .i64 v206),Bt,.wrap,Bt] (k:=wkT [] (C1 _ _  nbS nbS (oj e).symm))) λh209=>bI λe210 h211=>?_;try have qh211:=Xm h211
    intro h
    first|exact absurd (h211) (by simp[getI];done)|(simp[getI,hc,h208,h209] at h;done)|(simp[hc,h208,h209] at hg;done)|exact absurd (h211) (by simp[getI,hc,h208,h209];done)
   refine bI λv212 h213=>brI (λh214=>λe=>Xd [.el (aI .i64 (X0l.length:Int)),Bt,.el (X0 x),.pure _ (aI .i64 v206),Bf,.el (X0 x),.pure _ (aB v212),Bt] (k:=wkT [] (C1 _ _  nbS nbS (oj e).symm))) λh214=>?_;refine bI λu215 h216=>bI λu217 h218=>rnI [.el (aI .i64 (X0l.length:Int)),Bt,.el (X0 x),.pure _ (aI .i64 v206),Bf,.el (X0 x),.pure _ (aB v212),Bf,.no,.no] (o:=by repeat' first|apply Ya|exact pcM|(refine X20 h216 rfl ?_;first|(simp<;>omega)|(simp[hc,h208,h214]<;>omega))|(refine X0p h216 (by decide) ?_;first|(simp<;>omega)|(simp[hc,h208,h214]<;>omega))|(refine X20 h218 rfl ?_;first|(simp<;>omega)|(simp[hc,h208,h214]<;>omega))|(refine X0p h218 (by decide) ?_;first|(simp<;>omega)|(simp[hc,h208,h214]<;>omega))|exact Xu) ?_;intro h;exact wkT [(0,3),(1,5)] (ih (k+1) hx1 _ _ nbF nbF o h C0 C1)
instance Xrb:PCs Tryz.prog 68 (∀ (a0:(List X1)) (r:(List Int)×(List Int)×Bool),X4v a0=some r->X06 Tryz.prog 68 [(Lf (a0.map X0))] (AV.tup [(Lt (List.map (aI .i64) r.1)),(Lt (List.map (aI .i64) r.2.1)),(aB r.2.2)])):=⟨λa0 r h=>by
 refine X06.sym X7 fn68 (nt:=102) rfl rfl ?_ okM;unfold X4v at h;revert h;refine bI λu1 h2=>?_;have qh2:=X1x h2;refine bI λo232 h233=>rnI [] ?_;intro h;refine wkT [] (X4.cut (Xck a0 qh2 a0 0 (by simp) _ _ nbS nbS _ h233 ?_ ?_))
 ·
  intro X01 X03 X1s X0h eo232;subst eo232;refine X4.glue ?_;try dsimp only at h
  rcases X1s with ⟨_|_,X5w⟩
  ·
   rcases X0h with ⟨_|_,X36⟩
   ·
    revert h;refine bI λXp6 h241=>rnI [.stop 25] ?_;intro h;refine X4.join (s':=⟨fr [(2,(AV.ref 0 0 (X01.length))),(3,(AV.ref 1 0 (X03.length))),(4,(aB Xp6))],hp ([(0,Ob (List.map (aI .i64) X01) 1),(1,Ob (List.map (aI .i64) X03) 1)]),2⟩) ?_ (λJ=>X4.cut ?_)
    ·
     revert h;exact λe=>oj e▸Xd [] (k:=fi)
    clear h;revert h241;refine brI (λh238=>?_) λh238=>?_
    ·
     refine bI λe239 h240=>?_;try have qh240:=Xm h240
     intro h;obtain rfl:=oj h;exact Xd [.el (aI .i64 (a0.length:Int)),Gt,Gt,Gt,.el (aI .i64 (a0.length:Int)),Gt,.wrap,Gt,.el (aI .i64 e239),Gt,.ld (aI .i64 e239),Gt,Gt,.el (aI .i64 (a0.length:Int)),Gt] (k:=wkT [] (X4.glue J))
    intro h;obtain rfl:=oj h;exact Xd [.el (aI .i64 (a0.length:Int)),Gf,Gf,Gf,Gf,Gf,Gf,Gf,Gf,Gf,Gf] (k:=wkT [] (X4.glue J))
   obtain rfl:=X36 rfl;revert h;refine bI λX01o h249=>rnI [.stop 25] ?_;intro h;refine X4.join (s':=⟨fr [(2,(AV.ref 0 0 (X01.length))),(3,AV.nils),(4,(aB X01o))],hp ([(0,Ob (List.map (aI .i64) X01) 1)]),2⟩) ?_ (λJ=>X4.cut ?_)
   ·
    revert h;exact λe=>oj e▸Xd [] (k:=fi)
   clear h;revert h249;refine brI (λh246=>?_) λh246=>?_
   ·
    refine bI λe247 h248=>?_;try have qh248:=Xm h248
    intro h;obtain rfl:=oj h;exact Xd [.el (aI .i64 (a0.length:Int)),Gt,Gt,Gt,.el (aI .i64 (a0.length:Int)),Gt,.wrap,Gt,.el (aI .i64 e247),Gt,.ld (aI .i64 e247),Gt,Gt,.el (aI .i64 (a0.length:Int)),Gt] (k:=wkT [] (X4.glue J))
   intro h;obtain rfl:=oj h;exact Xd [.el (aI .i64 (a0.length:Int)),Gf,Gf,Gf,Gf,Gf,Gf,Gf,Gf,Gf,Gf] (k:=wkT [] (X4.glue J))
  obtain rfl:=X5w rfl;rcases X0h with ⟨_|_,X36⟩
  ·
   revert h;refine bI λX01n h257=>rnI [.stop 25] ?_;intro h;refine X4.join (s':=⟨fr [(2,AV.nils),(3,(AV.ref 1 0 (X03.length))),(4,(aB X01n))],hp ([(1,Ob (List.map (aI .i64) X03) 1)]),2⟩) ?_ (λJ=>X4.cut ?_)
   ·
    revert h;exact λe=>oj e▸Xd [] (k:=fi)
   clear h;revert h257;refine brI (λh254=>?_) λh254=>?_
   ·
    refine bI λe255 h256=>?_;try have qh256:=Xm h256
    intro h
    first|exact absurd (h256) (by simp[getI];done)|(simp[getI,h254] at h;done)|(simp[h254] at hg;done)|exact absurd (h256) (by simp[getI,h254];done)
   intro h;obtain rfl:=oj h;exact Xd [.el (aI .i64 (a0.length:Int)),Gf,Gf,Gf,Gf,Gf,Gf,Gf,Gf,Gf,Gf] (k:=wkT [] (X4.glue J))
  obtain rfl:=X36 rfl;revert h;refine bI λX01l h265=>rnI [.stop 25] ?_;intro h;refine X4.join (s':=⟨fr [(2,AV.nils),(3,AV.nils),(4,(aB X01l))],hp ([]),2⟩) ?_ (λJ=>X4.cut ?_)
  ·
   revert h;exact λe=>oj e▸Xd [] (k:=fi)
  clear h;revert h265;refine brI (λh262=>?_) λh262=>?_
  ·
   refine bI λe263 h264=>?_;try have qh264:=Xm h264
   intro h
   first|exact absurd (h264) (by simp[getI];done)|(simp[getI,h262] at h;done)|(simp[h262] at hg;done)|exact absurd (h264) (by simp[getI,h262];done)
  intro h;obtain rfl:=oj h;exact Xd [.el (aI .i64 (a0.length:Int)),Gf,Gf,Gf,Gf,Gf,Gf,Gf,Gf,Gf,Gf] (k:=wkT [] (X4.glue J))
 intro X05 X4r X07 Xaa eo232;subst eo232;refine X4.glue ?_;try dsimp only at h
 rcases X07 with ⟨_|_,X35⟩<;>(try obtain rfl:=X35 rfl);all_goals
  rcases Xaa with ⟨_|_,Xmo⟩<;>(try obtain rfl:=Xmo rfl);all_goals
   revert h;exact λe=>oj e▸Xd [] (k:=fi)⟩
instance Xre:PCs Tryz.prog 39 (∀ (a0:(List X1)) (r:Int),X3a a0=some r->X06 Tryz.prog 39 [(Lf (a0.map X0))] (aI .i64 r)):=⟨λa0 r h=>by
 refine X06.sym X7 fn39 (nt:=24) rfl rfl ?_ okM;unfold X3a at h;revert h;refine brI (λh1=>λe=>oj e▸Xd [.el (aI .i64 (a0.length:Int)),Bt] (k:=fi)) λh1=>bI λv2 h3=>rnI [.el (aI .i64 (a0.length:Int)),Bf,.pure _ (AV.tup [(Lt (List.map (aI .i64) v2.1)),(Lt (List.map (aI .i64) v2.2.1)),(aB v2.2.2)])] ?_;refine brI (λh4=>λe=>oj e▸Xd [Bt] (k:=fi)) λh4=>bI λe5 h6=>?_;try have qh6:=Xm h6
 exact brI (λh7=>λe=>oj e▸Xd [Bf,.el (aI .i64 (a0.length:Int)),.wrap,.el (aI .i64 e5),Bt] (k:=fi)) λh7=>λe=>oj e▸Xd [Bf,.el (aI .i64 (a0.length:Int)),.wrap,.el (aI .i64 e5),Bf] (k:=fi)⟩
theorem Xb1 {Q:Xi->St->Mu->Prop} {μ:Mu} (X0l:(List Int)) (hl:X0l.length<=140737488355328):∀ (xs:List Int) (k:Nat) (hx:X0l.drop k=xs) (o:X3q) (h:X26 X0l xs k  = some o)
  (C0:o=X3q.x0->X4 Tryz.prog 60 0 Q (.exit (.exit 0)) [] ⟨fr [(0,(Lf (List.map (aI .i64) X0l)))],hp ([]),0⟩ μ)
  (C1:o=X3q.x1->X4 Tryz.prog 60 0 Q (.exit .ret) [] ⟨fr [(4,(aI .i64 8))],hp ([]),0⟩ μ),
  X4 Tryz.prog 60 0 Q (.loop (X7j 0 (X3 Tryz.f40))) [] ⟨fr [(0,(Lf (List.map (aI .i64) X0l))),(5,(aI .i64 (k:Int)))],hp ([]),0⟩ μ:=by
 intro xs
 induction xs with
 |nil =>
  intro k hx  o h C0 C1;have hk:=drop_nil hx;have hc:decide ((k:Int)<(X0l.length:Int))=false:=Yf om;rw[X26] at h;refine X4.round ?_;revert h;exact λe=>Xd [.el (aI .i64 (X0l.length:Int)),Bf] (k:=wkT [] (C0  (oj e).symm))
 |cons x xs ih =>
  intro k hx  o h C0 C1;obtain⟨hk,hg,hx1⟩:=drop_cons hx;have hc:decide ((k:Int)<(X0l.length:Int))=true:=Yt om;rw[X26] at h;refine X4.round ?_;revert h;refine bI λXp5 h25=>rnI [.el (aI .i64 (X0l.length:Int)),Bt,.stop 8] ?_;intro h;refine X4.join (s':=⟨fr [(0,(Lf (List.map (aI .i64) X0l))),(5,(aI .i64 (k:Int))),(39,(aB Xp5))],hp ([]),0⟩) ?_ (λJ=>X4.cut ?_)
  ·
   revert h;refine brI (λh26=>λe=>Xd [Bt] (k:=wkT [] (C1  (oj e).symm))) λh26=>rnI [Bf] ?_;intro h;exact wkT [] (ih (k+1) hx1  o h C0 C1)
  clear h;revert h25;refine brI (λh24=>?_) λh24=>?_
  ·
   intro h;obtain rfl:=oj h;exact Xd [.el (aI .i64 x),Gf,Gf,Gf,Gf,Gf] (k:=wkT [] (X4.glue J))
  intro h;obtain rfl:=oj h;exact Xd [.el (aI .i64 x),Gt,Gt,Gt,.el (aI .i64 x),Gt,Gt] (k:=wkT [] (X4.glue J))
theorem Xaz {Q:Xi->St->Mu->Prop} {μ:Mu} (Xvt:(List Int)) (Xvs:Int):∀ (n:Nat) (Xum:Int) (o:X3o) (h:X25 Xvt Xvs n Xum=some o)
  (C0:o=X3o.x0->X4 Tryz.prog 60 0 Q (.exit .ret) [] ⟨fr [(4,(aI .i64 43))],hp ([]),0⟩ μ)
  (C1:o=X3o.x1->X4 Tryz.prog 60 0 Q (.exit (.exit 4)) [] ⟨fr [(0,(Lf (List.map (aI .i64) Xvt))),(6,(aI .i64 Xvs))],hp ([]),0⟩ μ),
  X4 Tryz.prog 60 0 Q (.loop (X7j 2 (X3 Tryz.f40))) [] ⟨fr [(0,(Lf (List.map (aI .i64) Xvt))),(6,(aI .i64 Xvs)),(7,(aI .i64 Xum))],hp ([]),0⟩ μ:=by
 intro n
 induction n with
 |zero=>intro Xum o h C0 C1;cases h
 |succ n ih =>
  intro Xum o h C0 C1;rw[X25] at h;refine X4.round ?_;revert h;refine brI (λh85=>?_) λh85=>λe=>Xd [Bf] (k:=wkT [] (C1  (oj e).symm));refine bI λe86 h87=>?_;try have qh87:=Xm h87
  refine bI λe88 h89=>?_;try have qh89:=Xm h89
  refine brI (λh90=>λe=>Xd [Bt,.el (aI .i64 e86),.el (aI .i64 e88),Bt] (k:=wkT [] (C0  (oj e).symm))) λh90=>rnI [Bt,.el (aI .i64 e86),.el (aI .i64 e88),Bf,.wrap] ?_;intro h;exact wkT [] (ih  _ o h C0 C1)
theorem Xb0 {Q:Xi->St->Mu->Prop} {μ:Mu} (Xna:(List Int)) (hl:Xna.length<=140737488355328):∀ (xs:List Int) (k:Nat) (hx:Xna.drop k=xs) (o:X3p) (h:X1t Xna xs k  = some o)
  (C0:o=X3p.x0->X4 Tryz.prog 60 0 Q (.exit (.exit 2)) [] ⟨fr [],hp ([]),0⟩ μ)
  (C1:o=X3p.x1->X4 Tryz.prog 60 0 Q (.exit .ret) [] ⟨fr [(4,(aI .i64 43))],hp ([]),0⟩ μ),
  X4 Tryz.prog 60 0 Q (.loop (X7j 1 (X3 Tryz.f40))) [] ⟨fr [(0,(Lf (List.map (aI .i64) Xna))),(6,(aI .i64 (k:Int)))],hp ([]),0⟩ μ:=by
 intro xs
 induction xs with
 |nil =>
  intro k hx  o h C0 C1;have hk:=drop_nil hx;have hc:decide ((k:Int)<(Xna.length:Int))=false:=Yf om;rw[X1t] at h;refine X4.round ?_;revert h;exact λe=>Xd [.el (aI .i64 (Xna.length:Int)),Bf] (k:=wkT [] (C0  (oj e).symm))
 |cons x xs ih =>
  intro k hx  o h C0 C1;obtain⟨hk,hg,hx1⟩:=drop_cons hx;have hc:decide ((k:Int)<(Xna.length:Int))=true:=Yt om;rw[X1t] at h;refine X4.round ?_;revert h;refine bI λo91 h92=>rnI [.el (aI .i64 (Xna.length:Int)),Bt] ?_;intro h;refine wkT [] (X4.cut (Xaz Xna (k:Int) _ _ _ h92 ?_ ?_))
  ·
   intro eo91;subst eo91;refine X4.glue ?_;try dsimp only at h
   revert h;exact λe=>Xd [] (k:=wkT [] (C1  (oj e).symm))
  intro eo91;subst eo91;refine X4.glue ?_;try dsimp only at h
  exact Xd [] (k:=wkT [] (ih (k+1) hx1  o h C0 C1))
instance Xnc:PCs Tryz.prog 40 (∀ (a0:(List Int)) (a1:Bool) (r:Int),X57 a0 a1=some r->X06 Tryz.prog 40 [(Lf (List.map (aI .i64) a0)),(aB a1)] (aI .i64 r)):=⟨λa0 a1 r h=>by
 refine X06.sym X7 fn40 (nt:=60) rfl rfl ?_ okM;unfold X57 at h;revert h;refine brI (λh1=>λe=>oj e▸Xd [.el (aI .i64 (a0.length:Int)),Bt] (k:=fi)) λh1=>bI λXxl h7=>rnI [.el (aI .i64 (a0.length:Int)),Bf,.stop 3] ?_;intro h;refine X4.join (s':=⟨fr [(0,(Lf (List.map (aI .i64) a0))),(21,(aB Xxl))],hp ([]),0⟩) ?_ (λJ=>X4.cut ?_)
 ·
  revert h;refine brI (λh8=>λe=>oj e▸Xd [Bt] (k:=fi)) λh8=>bI λu9 h10=>?_;have qh10:=X1x h10;refine bI λo27 h28=>rnI [Bf] ?_;intro h;refine wkT [] (X4.cut (Xb1 a0 qh10 a0 0 (by simp) _ h28 ?_ ?_))
  ·
   intro eo27;subst eo27;refine X4.glue ?_;try dsimp only at h
   revert h;refine bI λo93 h94=>rnI [] ?_;intro h;refine wkT [] (X4.cut (Xb0 a0 qh10 a0 0 (by simp) _ h94 ?_ ?_))
   ·
    intro eo93;subst eo93;refine X4.glue ?_;try dsimp only at h
    revert h;exact λe=>oj e▸Xd [] (k:=fi)
   intro eo93;subst eo93;refine X4.glue ?_;try dsimp only at h
   revert h;exact λe=>oj e▸Xd [] (k:=fi)
  intro eo27;subst eo27;refine X4.glue ?_;try dsimp only at h
  revert h;exact λe=>oj e▸Xd [] (k:=fi)
 clear h;revert h7;refine brI (λh5=>?_) λh5=>?_
 ·
  intro h;obtain rfl:=oj h;exact Xd [.el (aI .i64 (a0.length:Int)),Gf,Gf,Gf,Gf,Gf,Gf] (k:=wkT [] (X4.glue J))
 refine brI (λh6=>?_) λh6=>?_
 ·
  intro h;obtain rfl:=oj h;exact Xd [.el (aI .i64 (a0.length:Int)),Gt,Gt,Gt,Gt,.el (aI .i64 (a0.length:Int)),Gt,Gt] (k:=wkT [] (X4.glue J))
 intro h;obtain rfl:=oj h;exact Xd [.el (aI .i64 (a0.length:Int)),Gt,Gt,Gf,Gf,Gf,Gt] (k:=wkT [] (X4.glue J))⟩
instance Xs3:PCs Tryz.prog 41 (∀ (a0:Xk) (r:Bool),X5s a0=some r->X06 Tryz.prog 41 [(X45 a0)] (aB r)):=⟨λa0 r h=>by
 refine X06.sym X7 fn41 (nt:=45) rfl rfl ?_ okM;unfold X5s at h;revert h;exact brI (λh1=>λe=>oj e▸Xd [Bt] (k:=fi)) λh1=>brI (λh2=>λe=>oj e▸Xd [Bf,Bt,.wrap] (k:=fi)) λh2=>λe=>oj e▸Xd [Bf,Bf] (k:=fi)⟩
instance Xr7:PCs Tryz.prog 21 (∀ (a0:Xa) (r:Int),X75 a0=some r->X06 Tryz.prog 21 [(X8 false a0)] (aI .i64 r)):=⟨λa0 r h=>by
 refine X06.sym X7 fn21 (nt:=80) rfl rfl ?_ okM;unfold X75 at h;revert h;refine brI (λh1=>λe=>oj e▸Xd [Bt] (k:=fi)) λh1=>bI λXxs h5=>rnI [Bf,.stop 3] ?_;intro h;refine X4.join (s':=⟨fr [(1,(AV.ptr 0 0 0)),(29,(aB Xxs))],hp ([(0,Ob [(X8 false a0)] 10)]),1⟩) ?_ (λJ=>X4.cut ?_)
 ·
  revert h;refine brI (λh6=>λe=>oj e▸Xd [Bt] (k:=fi)) λh6=>bI λXpd h14=>rnI [Bf,.stop 5] ?_;intro h;refine X4.join (s':=⟨fr [(1,(AV.ptr 0 0 0)),(38,(aB Xpd))],hp ([(0,Ob [(X8 false a0)] 10)]),1⟩) ?_ (λJ=>X4.cut ?_)
  ·
   revert h;refine brI (λh15=>bI λv16 h17=>λe=>oj e▸Xd [Bt,.pure _ (aI .i64 v16)] (k:=fi)) λh15=>bI λXiw h25=>rnI [Bf,.stop 7] ?_;intro h;refine X4.join (s':=⟨fr [(1,(AV.ptr 0 0 0)),(51,(aB Xiw))],hp ([(0,Ob [(X8 false a0)] 10)]),1⟩) ?_ (λJ=>X4.cut ?_)
   ·
    revert h;exact brI (λh26=>bI λv27 h28=>λe=>oj e▸Xd [Bt,.pure _ (aI .i64 v27)] (k:=fi)) λh26=>bI λv29 h30=>brI (λh31=>λe=>oj e▸Xd [Bf,.pure _ (aI .i64 v29),Bt,.pure _ (aI .i64 v29)] (k:=fi)) λh31=>bI λv32 h33=>brI (λh34=>λe=>oj e▸Xd [Bf,.pure _ (aI .i64 v29),Bf,.pure _ (aB v32),Bt] (k:=fi)) λh34=>λe=>oj e▸Xd [Bf,.pure _ (aI .i64 v29),Bf,.pure _ (aB v32),Bf] (k:=fi)
   clear h;revert h25;refine brI (λh22=>?_) λh22=>?_
   ·
    refine bI λv23 h24=>?_;intro h;obtain rfl:=oj h;exact Xd [.el (aI .i64 (a0.Where.length:Int)),Gt,Gt,Gt,.pure _ (aI .i64 v23),Gt] (k:=wkT [] (X4.glue J))
   intro h;obtain rfl:=oj h;exact Xd [.el (aI .i64 (a0.Where.length:Int)),Gf,Gf,Gf,Gf] (k:=wkT [] (X4.glue J))
  clear h;revert h14;refine brI (λh11=>?_) λh11=>?_
  ·
   refine bI λv12 h13=>?_;intro h;obtain rfl:=oj h;exact Xd [Gt,Gt,Gt,.pure _ (aI .i64 v12),Gt] (k:=wkT [] (X4.glue J))
  intro h;obtain rfl:=oj h;exact Xd [Gf,Gf,Gf,Gf] (k:=wkT [] (X4.glue J))
 clear h;revert h5;refine brI (λh4=>?_) λh4=>?_
 ·
  intro h;obtain rfl:=oj h;exact Xd [Gt,Gt,Gt,.el (aI .i64 (a0.Arg.length:Int)),Gt] (k:=wkT [] (X4.glue J))
 intro h;obtain rfl:=oj h;exact Xd [Gf,Gf,Gf,Gf] (k:=wkT [] (X4.glue J))⟩
instance Xr9:PCs Tryz.prog 101 (∀ (a0:Int) (r:Bool),X3z a0=some r->X06 Tryz.prog 101 [(aI .u8 a0)] (aB r)):=⟨λa0 r h=>by
 refine X06.sym X7 X05e (nt:=9) rfl rfl ?_ okM;unfold X3z at h;revert h;exact λe=>oj e▸Xd [] (k:=fi)⟩
instance Xs4:PCs Tryz.prog 128 (∀ (a0:(List X1)) (a1:Int) (r:Bool),X8a a0 a1=some r->X06 Tryz.prog 128 [(Lf (a0.map X0)),(aI .i64 a1)] (aB r)):=⟨λa0 a1 r h=>by
 refine X06.sym X7 X053 (nt:=67) rfl rfl ?_ okM;unfold X8a at h;revert h;refine bI λe1 h2=>?_;try have qh2:=Xm h2
 refine bI λe3 h4=>?_;try have qh4:=Xm h4
 refine bI λv5 h6=>bI λe7 h8=>?_;try have qh8:=Xm h8
 exact bI λv9 h10=>brI (λh11=>λe=>oj e▸Xd [.el (X0 e1),.el (X0 e3),.pure _ (aB v5),.el (X0 e7),.pure _ (aB v9),Bt] (k:=fi)) λh11=>brI (λh12=>λe=>oj e▸Xd [.el (X0 e1),.el (X0 e3),.pure _ (aB v5),.el (X0 e7),.pure _ (aB v9),Bf,Bt] (k:=fi)) λh12=>brI (λh13=>λe=>oj e▸Xd [.el (X0 e1),.el (X0 e3),.pure _ (aB v5),.el (X0 e7),.pure _ (aB v9),Bf,Bf,Bt] (k:=fi)) λh13=>brI (λh14=>λe=>oj e▸Xd [.el (X0 e1),.el (X0 e3),.pure _ (aB v5),.el (X0 e7),.pure _ (aB v9),Bf,Bf,Bf,Bt] (k:=fi)) λh14=>brI (λh15=>λe=>oj e▸Xd [.el (X0 e1),.el (X0 e3),.pure _ (aB v5),.el (X0 e7),.pure _ (aB v9),Bf,Bf,Bf,Bf,Bt] (k:=fi)) λh15=>λe=>oj e▸Xd [.el (X0 e1),.el (X0 e3),.pure _ (aB v5),.el (X0 e7),.pure _ (aB v9),Bf,Bf,Bf,Bf,Bf] (k:=fi)⟩
theorem Xcj {Q:Xi->St->Mu->Prop} {μ:Mu} (X0l:(List X1)) (hl:X0l.length<=140737488355328):∀ (xs:List X1) (k:Nat) (hx:X0l.drop k=xs) (o:X4m) (h:X2y X0l xs k  = some o)
  (C0:o=X4m.x0->X4 Tryz.prog 17 0 Q (.exit (.exit 0)) [] ⟨fr [(0,(Lf (X0l.map X0)))],hp ([]),0⟩ μ)
  (C1:∀ (Xgg:Int),o=X4m.x1 Xgg->X4 Tryz.prog 17 0 Q (.exit .ret) [] ⟨fr [(2,(aI .i64 Xgg))],hp ([]),0⟩ μ),
  X4 Tryz.prog 17 0 Q (.loop (X7j 0 (X3 Tryz.f100))) [] ⟨fr [(0,(Lf (X0l.map X0))),(3,(aI .i64 (k:Int)))],hp ([]),0⟩ μ:=by
 intro xs
 induction xs with
 |nil =>
  intro k hx  o h C0 C1;have hk:=drop_nil hx;have hc:decide ((k:Int)<(X0l.length:Int))=false:=Yf om;rw[X2y] at h;refine X4.round ?_;revert h;exact λe=>Xd [.el (aI .i64 (X0l.length:Int)),Bf] (k:=wkT [] (C0  (oj e).symm))
 |cons x xs ih =>
  intro k hx  o h C0 C1;obtain⟨hk,hg,hx1⟩:=drop_cons hx;have hc:decide ((k:Int)<(X0l.length:Int))=true:=Yt om;rw[X2y] at h;refine X4.round ?_;revert h;refine bI λv10 h11=>brI (λh12=>λe=>Xd [.el (aI .i64 (X0l.length:Int)),Bt,.pure _ (aB v10),Bt] (k:=wkT [] (C1 _  (oj e).symm))) λh12=>rnI [.el (aI .i64 (X0l.length:Int)),Bt,.pure _ (aB v10),Bf] ?_;intro h;exact wkT [] (ih (k+1) hx1  o h C0 C1)
instance Xr8:PCs Tryz.prog 100 (∀ (a0:(List X1)) (r:Int),X8t a0=some r->X06 Tryz.prog 100 [(Lf (a0.map X0))] (aI .i64 r)):=⟨λa0 r h=>by
 refine X06.sym X7 X05f (nt:=17) rfl rfl ?_ okM;unfold X8t at h;revert h;refine bI λu1 h2=>?_;have qh2:=X1x h2;refine bI λo13 h14=>rnI [] ?_;intro h;refine wkT [] (X4.cut (Xcj a0 qh2 a0 0 (by simp) _ h14 ?_ ?_))
 ·
  intro eo13;subst eo13;refine X4.glue ?_;try dsimp only at h
  revert h;exact λe=>oj e▸Xd [.el (aI .i64 (a0.length:Int))] (k:=fi)
 intro Xgg eo13;subst eo13;refine X4.glue ?_;try dsimp only at h
 revert h;exact λe=>oj e▸Xd [] (k:=fi)⟩
instance Xwv:PCs Tryz.prog 69 (∀ (a0:(List X1)) (r:Bool×Int×Int),X8u a0=some r->X06 Tryz.prog 69 [(Lf (a0.map X0))] (AV.tup [(aB r.1),(aI .i64 r.2.1),(aI .i64 r.2.2)])):=⟨λa0 r h=>by
 refine X06.sym X7 fn69 (nt:=29) rfl rfl ?_ okM;unfold X8u at h;revert h;refine bI λv1 h2=>brI (λh3=>λe=>oj e▸Xd [.pure _ (aI .i64 v1),Bt,.pure _ (aI .i64 v1)] (k:=fi)) λh3=>bI λv4 h5=>brI (λh6=>λe=>oj e▸Xd [.pure _ (aI .i64 v1),Bf,.pure _ (aI .i64 v4),.el (aI .i64 (a0.length:Int)),Bt] (k:=fi)) λh6=>bI λe7 h8=>?_;try have qh8:=Xm h8
 exact bI λv9 h10=>λe=>oj e▸Xd [.pure _ (aI .i64 v1),Bf,.pure _ (aI .i64 v4),.el (aI .i64 (a0.length:Int)),Bf,.el (aI .i64 (a0.length:Int)),.wrap,.el (X0 e7),.pure _ (aB v9),.el (aI .i64 (a0.length:Int)),.wrap] (k:=fi)⟩
instance Xs5:PCs Tryz.prog 42 (∀ (a0:(List X1)) (a1:Bool) (r:Int×Int),X5t a0 a1=some r->X06 Tryz.prog 42 [(Lf (a0.map X0)),(aB a1)] (AV.tup [(aI .i64 r.1),(aI .i64 r.2)])):=⟨λa0 a1 r h=>by
 refine X06.sym X7 fn42 (nt:=25) rfl rfl ?_ okM;unfold X5t at h;revert h;exact bI λv1 h2=>brI (λh3=>λe=>oj e▸Xd [.pure _ (AV.tup [(aB v1.1),(aI .i64 v1.2.1),(aI .i64 v1.2.2)]),Bt] (k:=fi)) λh3=>λe=>oj e▸Xd [.pure _ (AV.tup [(aB v1.1),(aI .i64 v1.2.1),(aI .i64 v1.2.2)]),Bf] (k:=fi)⟩
end Go.Av.Tryz