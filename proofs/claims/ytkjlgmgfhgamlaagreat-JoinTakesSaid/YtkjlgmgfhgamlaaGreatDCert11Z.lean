/- Printed by decomp.py: that the program computes the functions. -/
import Derived.Test.YtkjlgmgfhgamlaaGreatDCert10Z
set_option linter.all false

namespace Go.Av.Tryz
open Go.Proofs Go.D
set_option maxRecDepth 10000
set_option maxHeartbeats 40000000
instance X031:PCs Tryz.prog 129 (∀ (a0:X1z) (r:Bool),X7i a0=some r->X0b Tryz.prog 129 [(X1y a0)] (aB r)):=⟨λa0 r h=>by
 refine X0b.sym X3 X0d5 (nt:=45) rfl rfl ?_ okM;unfold X7i at h;revert h;exact brI (λh1=>λe=>oj e▸X6 [Bt] (k:=fi)) λh1=>brI (λh2=>λe=>oj e▸X6 [Bf,Bt,.wrap] (k:=fi)) λh2=>λe=>oj e▸X6 [Bf,Bf] (k:=fi)⟩
instance X01g:PCs Tryz.prog 86 (∀ (a0:X0g) (r:Int),Xbe a0=some r->X0b Tryz.prog 86 [(X07 false a0)] (aI .i64 r)):=⟨λa0 r h=>by
 refine X0b.sym X3 fn86 (nt:=80) rfl rfl ?_ okM;unfold Xbe at h;revert h;refine brI (λh1=>λe=>oj e▸X6 [Bt] (k:=fi)) λh1=>bI λX077 h5=>rnI [Bf,.stop 3] ?_;intro h;refine X2.join (s':=⟨fr [(1,(AV.ptr 0 0 0)),(29,(aB X077))],hp ([(0,Ob [(X07 false a0)] 10)]),1⟩) ?_ (λJ=>X2.cut ?_)
 ·
  revert h;refine brI (λh6=>λe=>oj e▸X6 [Bt] (k:=fi)) λh6=>bI λXzi h14=>rnI [Bf,.stop 5] ?_;intro h;refine X2.join (s':=⟨fr [(1,(AV.ptr 0 0 0)),(38,(aB Xzi))],hp ([(0,Ob [(X07 false a0)] 10)]),1⟩) ?_ (λJ=>X2.cut ?_)
  ·
   revert h;refine brI (λh15=>bI λv16 h17=>λe=>oj e▸X6 [Bt,.pure _ (aI .i64 v16)] (k:=fi)) λh15=>bI λXq9 h25=>rnI [Bf,.stop 7] ?_;intro h;refine X2.join (s':=⟨fr [(1,(AV.ptr 0 0 0)),(51,(aB Xq9))],hp ([(0,Ob [(X07 false a0)] 10)]),1⟩) ?_ (λJ=>X2.cut ?_)
   ·
    revert h;exact brI (λh26=>bI λv27 h28=>λe=>oj e▸X6 [Bt,.pure _ (aI .i64 v27)] (k:=fi)) λh26=>bI λv29 h30=>brI (λh31=>λe=>oj e▸X6 [Bf,.pure _ (aI .i64 v29),Bt,.pure _ (aI .i64 v29)] (k:=fi)) λh31=>bI λv32 h33=>brI (λh34=>λe=>oj e▸X6 [Bf,.pure _ (aI .i64 v29),Bf,.pure _ (aB v32),Bt] (k:=fi)) λh34=>λe=>oj e▸X6 [Bf,.pure _ (aI .i64 v29),Bf,.pure _ (aB v32),Bf] (k:=fi)
   clear h;revert h25;refine brI (λh22=>?_) λh22=>?_
   ·
    refine bI λv23 h24=>?_;intro h;obtain rfl:=oj h;exact X6 [.el (aI .i64 (a0.Where.length:Int)),Gt,Gt,Gt,.pure _ (aI .i64 v23),Gt] (k:=wkT [] (X2.glue J))
   intro h;obtain rfl:=oj h;exact X6 [.el (aI .i64 (a0.Where.length:Int)),Gf,Gf,Gf,Gf] (k:=wkT [] (X2.glue J))
  clear h;revert h14;refine brI (λh11=>?_) λh11=>?_
  ·
   refine bI λv12 h13=>?_;intro h;obtain rfl:=oj h;exact X6 [Gt,Gt,Gt,.pure _ (aI .i64 v12),Gt] (k:=wkT [] (X2.glue J))
  intro h;obtain rfl:=oj h;exact X6 [Gf,Gf,Gf,Gf] (k:=wkT [] (X2.glue J))
 clear h;revert h5;refine brI (λh4=>?_) λh4=>?_
 ·
  intro h;obtain rfl:=oj h;exact X6 [Gt,Gt,Gt,.el (aI .i64 (a0.Arg.length:Int)),Gt] (k:=wkT [] (X2.glue J))
 intro h;obtain rfl:=oj h;exact X6 [Gf,Gf,Gf,Gf] (k:=wkT [] (X2.glue J))⟩
instance X01i:PCs Tryz.prog 176 (∀ (a0:Int) (r:Bool),X71 a0=some r->X0b Tryz.prog 176 [(aI .u8 a0)] (aB r)):=⟨λa0 r h=>by
 refine X0b.sym X3 X0c7 (nt:=9) rfl rfl ?_ okM;unfold X71 at h;revert h;exact λe=>oj e▸X6 [] (k:=fi)⟩
instance X032:PCs Tryz.prog 196 (∀ (a0:(List X0f)) (a1:Int) (r:Bool),Xd1 a0 a1=some r->X0b Tryz.prog 196 [(Lf (a0.map X4)),(aI .i64 a1)] (aB r)):=⟨λa0 a1 r h=>by
 refine X0b.sym X3 X0bx (nt:=67) rfl rfl ?_ okM;unfold Xd1 at h;revert h;refine bI λe1 h2=>?_;try have qh2:=Xl h2
 refine bI λe3 h4=>?_;try have qh4:=Xl h4
 refine bI λv5 h6=>bI λe7 h8=>?_;try have qh8:=Xl h8
 exact bI λv9 h10=>brI (λh11=>λe=>oj e▸X6 [.el (X4 e1),.el (X4 e3),.pure _ (aB v5),.el (X4 e7),.pure _ (aB v9),Bt] (k:=fi)) λh11=>brI (λh12=>λe=>oj e▸X6 [.el (X4 e1),.el (X4 e3),.pure _ (aB v5),.el (X4 e7),.pure _ (aB v9),Bf,Bt] (k:=fi)) λh12=>brI (λh13=>λe=>oj e▸X6 [.el (X4 e1),.el (X4 e3),.pure _ (aB v5),.el (X4 e7),.pure _ (aB v9),Bf,Bf,Bt] (k:=fi)) λh13=>brI (λh14=>λe=>oj e▸X6 [.el (X4 e1),.el (X4 e3),.pure _ (aB v5),.el (X4 e7),.pure _ (aB v9),Bf,Bf,Bf,Bt] (k:=fi)) λh14=>brI (λh15=>λe=>oj e▸X6 [.el (X4 e1),.el (X4 e3),.pure _ (aB v5),.el (X4 e7),.pure _ (aB v9),Bf,Bf,Bf,Bf,Bt] (k:=fi)) λh15=>λe=>oj e▸X6 [.el (X4 e1),.el (X4 e3),.pure _ (aB v5),.el (X4 e7),.pure _ (aB v9),Bf,Bf,Bf,Bf,Bf] (k:=fi)⟩
theorem Xig {Q:X03->St->Mu->Prop} {μ:Mu} (X0c:(List X0f)) (hl:X0c.length<=140737488355328):∀ (xs:List X0f) (k:Nat) (hx:X0c.drop k=xs) (o:X6s) (h:X49 X0c xs k  = some o)
  (C0:o=X6s.x0->X2 Tryz.prog 17 0 Q (.exit (.exit 0)) [] ⟨fr [(0,(Lf (X0c.map X4)))],hp ([]),0⟩ μ)
  (C1:∀ (Xco:Int),o=X6s.x1 Xco->X2 Tryz.prog 17 0 Q (.exit .ret) [] ⟨fr [(2,(aI .i64 Xco))],hp ([]),0⟩ μ),
  X2 Tryz.prog 17 0 Q (.loop (X2o 0 (Xd Tryz.f175))) [] ⟨fr [(0,(Lf (X0c.map X4))),(3,(aI .i64 (k:Int)))],hp ([]),0⟩ μ:=by
 intro xs
 induction xs with
 |nil =>
  intro k hx  o h C0 C1;have hk:=X1g hx;have hc:decide ((k:Int)<(X0c.length:Int))=false:=Yf om;rw[X49] at h;refine X2.round ?_;revert h;exact λe=>X6 [.el (aI .i64 (X0c.length:Int)),Bf] (k:=wkT [] (C0  (oj e).symm))
 |cons x xs ih =>
  intro k hx  o h C0 C1;obtain⟨hk,hg,hx1⟩:=X0u hx;have hc:decide ((k:Int)<(X0c.length:Int))=true:=Yt om;rw[X49] at h;refine X2.round ?_;revert h;refine bI λv10 h11=>brI (λh12=>λe=>X6 [.el (aI .i64 (X0c.length:Int)),Bt,.pure _ (aB v10),Bt] (k:=wkT [] (C1 _  (oj e).symm))) λh12=>rnI [.el (aI .i64 (X0c.length:Int)),Bt,.pure _ (aB v10),Bf] ?_;intro h;exact wkT [] (ih (k+1) hx1  o h C0 C1)
instance X01h:PCs Tryz.prog 175 (∀ (a0:(List X0f)) (r:Int),Xdg a0=some r->X0b Tryz.prog 175 [(Lf (a0.map X4))] (aI .i64 r)):=⟨λa0 r h=>by
 refine X0b.sym X3 X0c8 (nt:=17) rfl rfl ?_ okM;unfold Xdg at h;revert h;refine bI λu1 h2=>?_;have qh2:=X0v h2;refine bI λo13 h14=>rnI [] ?_;intro h;refine wkT [] (X2.cut (Xig a0 qh2 a0 0 (by simp) _ h14 ?_ ?_))
 ·
  intro eo13;subst eo13;refine X2.glue ?_;try dsimp only at h
  revert h;exact λe=>oj e▸X6 [.el (aI .i64 (a0.length:Int))] (k:=fi)
 intro Xco eo13;subst eo13;refine X2.glue ?_;try dsimp only at h
 revert h;exact λe=>oj e▸X6 [] (k:=fi)⟩
instance X06b:PCs Tryz.prog 156 (∀ (a0:(List X0f)) (r:Bool×Int×Int),Xh8 a0=some r->X0b Tryz.prog 156 [(Lf (a0.map X4))] (AV.tup [(aB r.1),(aI .i64 r.2.1),(aI .i64 r.2.2)])):=⟨λa0 r h=>by
 refine X0b.sym X3 X0cm (nt:=29) rfl rfl ?_ okM;unfold Xh8 at h;revert h;refine bI λv1 h2=>brI (λh3=>λe=>oj e▸X6 [.pure _ (aI .i64 v1),Bt,.pure _ (aI .i64 v1)] (k:=fi)) λh3=>bI λv4 h5=>brI (λh6=>λe=>oj e▸X6 [.pure _ (aI .i64 v1),Bf,.pure _ (aI .i64 v4),.el (aI .i64 (a0.length:Int)),Bt] (k:=fi)) λh6=>bI λe7 h8=>?_;try have qh8:=Xl h8
 exact bI λv9 h10=>λe=>oj e▸X6 [.pure _ (aI .i64 v1),Bf,.pure _ (aI .i64 v4),.el (aI .i64 (a0.length:Int)),Bf,.el (aI .i64 (a0.length:Int)),.wrap,.el (X4 e7),.pure _ (aB v9),.el (aI .i64 (a0.length:Int)),.wrap] (k:=fi)⟩
instance X033:PCs Tryz.prog 130 (∀ (a0:(List X0f)) (a1:Bool) (r:Int×Int),X91 a0 a1=some r->X0b Tryz.prog 130 [(Lf (a0.map X4)),(aB a1)] (AV.tup [(aI .i64 r.1),(aI .i64 r.2)])):=⟨λa0 a1 r h=>by
 refine X0b.sym X3 X0d4 (nt:=25) rfl rfl ?_ okM;unfold X91 at h;revert h;exact bI λv1 h2=>brI (λh3=>λe=>oj e▸X6 [.pure _ (AV.tup [(aB v1.1),(aI .i64 v1.2.1),(aI .i64 v1.2.2)]),Bt] (k:=fi)) λh3=>λe=>oj e▸X6 [.pure _ (AV.tup [(aB v1.1),(aI .i64 v1.2.1),(aI .i64 v1.2.2)]),Bf] (k:=fi)⟩
instance X01e:PCs Tryz.prog 87 (∀ (a0:X0g) (r:Int×Int),Xbc a0=some r->X0b Tryz.prog 87 [(X07 false a0)] (AV.tup [(aI .i64 r.1),(aI .i64 r.2)])):=⟨λa0 r h=>by
 refine X0b.sym X3 fn87 (nt:=46) rfl rfl ?_ okM;unfold Xbc at h;revert h;refine brI (λh1=>?_) λh1=>?_
 ·
  refine bI λv2 h3=>brI (λh4=>?_) λh4=>?_
  ·
   refine bI λe5 h6=>?_;try have qh6:=Xl h6
   exact λe=>oj e▸X6 [.el (aI .i64 (a0.Arg.length:Int)),Bt,.pure _ (AV.tup [(aI .i64 v2.1),(aI .i64 v2.2)]),Bt,.el (X4 e5)] (k:=fi)
  refine rnI [.el (aI .i64 (a0.Arg.length:Int)),Bt,.pure _ (AV.tup [(aI .i64 v2.1),(aI .i64 v2.2)]),Bf,.el (aI .i64 (a0.Where.length:Int))] ?_;refine brI (λh7=>?_) λh7=>λe=>oj e▸X6 [Bf] (k:=fi);refine bI λv8 h9=>brI (λh10=>?_) λh10=>λe=>oj e▸X6 [Bt,.pure _ (AV.tup [(aI .i64 v8.1),(aI .i64 v8.2)]),Bf] (k:=fi);refine bI λe11 h12=>?_;try have qh12:=Xl h12
  exact λe=>oj e▸X6 [Bt,.pure _ (AV.tup [(aI .i64 v8.1),(aI .i64 v8.2)]),Bt,.el (X4 e11)] (k:=fi)
 refine brI (λh13=>?_) λh13=>λe=>oj e▸X6 [.el (aI .i64 (a0.Arg.length:Int)),Bf,.el (aI .i64 (a0.Where.length:Int)),Bf] (k:=fi);refine bI λv14 h15=>rnI [.el (aI .i64 (a0.Arg.length:Int)),Bf,.el (aI .i64 (a0.Where.length:Int)),Bt,.pure _ (AV.tup [(aI .i64 v14.1),(aI .i64 v14.2)])] ?_;refine brI (λh16=>?_) λh16=>λe=>oj e▸X6 [Bf] (k:=fi);refine bI λe17 h18=>?_;try have qh18:=Xl h18
 exact λe=>oj e▸X6 [Bt,.el (X4 e17)] (k:=fi)⟩
instance X01f:PCs Tryz.prog 49 (∀ (a0:X0g) (r:Int×Int),Xbd a0=some r->X0b Tryz.prog 49 [(X07 false a0)] (AV.tup [(aI .i64 r.1),(aI .i64 r.2)])):=⟨λa0 r h=>by
 refine X0b.sym X3 fn49 (nt:=13) rfl rfl ?_ okM;unfold Xbd at h;revert h;exact bI λv1 h2=>brI (λh3=>λe=>oj e▸X6 [.pure _ (aI .i64 v1),Bt,.pure _ (aI .i64 v1)] (k:=fi)) λh3=>bI λv4 h5=>λe=>oj e▸X6 [.pure _ (aI .i64 v1),Bf,.pure _ (AV.tup [(aI .i64 v4.1),(aI .i64 v4.2)])] (k:=fi)⟩
instance Xv2:PCs Tryz.prog 13 (∀ (a0:X0g) (r:Bool),X57 a0=some r->X0b Tryz.prog 13 [(X07 false a0)] (aB r)):=⟨λa0 r h=>by
 refine X0b.sym X3 fn13 (nt:=12) rfl rfl ?_ okM;unfold X57 at h;revert h;exact bI λv1 h2=>λe=>oj e▸X6 [.pure _ (AV.tup [(aI .i64 v1.1),(aI .i64 v1.2)])] (k:=fi)⟩
instance X02r:PCs Tryz.prog 54 (∀ (a0:Xo) (r:Bool),Xcx a0=some r->X0b Tryz.prog 54 [(Xa false a0)] (aB r)):=⟨λa0 r h=>by
 refine X0b.sym X3 fn54 (nt:=69) rfl rfl ?_ okM;unfold Xcx at h;revert h;refine brI (λh1=>?_) λh1=>?_
 ·
  refine bI λj6_2 h11=>rnI [Bt,.stop 19] ?_;intro h;refine X2.join (s':=⟨fr [(2,(aB j6_2))],hp ([]),0⟩) ?_ (λJ=>X2.cut ?_)
  ·
   revert h;exact λe=>oj e▸X6 [] (k:=fi)
  clear h;revert h11;refine brI (λh7=>?_) λh7=>?_
  ·
   refine brI (λh8=>?_) λh8=>?_
   ·
    refine rnI [.el (aI .i64 (a0.Marks.length:Int)),Gt,Gt,Gt,.el (aI .i64 (a0.Store.length:Int)),Gt,Gt,Gt,Gt,Gt,.el (aI .i64 (a0.Events.length:Int)),Gt,Gt,.stop 999999] (o:=by repeat' first|apply Ya|exact pcM|exact fq (X7 h7 h8)|exact Xu) ?_;refine brI (λh9=>?_) λh9=>?_
    ·
     refine brI (λh10=>?_) λh10=>?_
     ·
      intro h;obtain rfl:=oj h;exact X6 [Gt,Gt,Gt,.el (aI .i64 (a0.Rows.length:Int)),Gt,Gt,Gt,Gt,Gt,.el (aI .i64 (a0.Late.length:Int)),Gt,Gt] (o:=by repeat' first|apply Ya|exact pcM|exact fq (X7 (X7 h7 h8) h9)|exact fq (X7 (X7 (X7 h7 h8) h9) h10)|exact Xu) (k:=wkT [] (X2.glue J))
     intro h;obtain rfl:=oj h;exact X6 [Gt,Gt,Gt,.el (aI .i64 (a0.Rows.length:Int)),Gt,Gt,Gf,Gf,Gf,Gf,Gf] (o:=by repeat' first|apply Ya|exact pcM|exact fq (X7 (X7 h7 h8) h9)|exact fq (X7 (X7 (X7 h7 h8) h9) h10)|exact Xu) (k:=wkT [] (X2.glue J))
    intro h;obtain rfl:=oj h;exact X6 [Gf,Gf,Gf,Gf,Gf,Gf,Gf,Gf,Gf,Gf] (o:=by repeat' first|apply Ya|exact pcM|exact fq (X7 (X7 h7 h8) h9)|exact fq (Xb (X7 (X7 h7 h8) h9) rfl)|exact Xu) (k:=wkT [] (X2.glue J))
   intro h;obtain rfl:=oj h;exact X6 [.el (aI .i64 (a0.Marks.length:Int)),Gt,Gt,Gt,.el (aI .i64 (a0.Store.length:Int)),Gt,Gt,Gf,Gf,Gf,Gf,Gf,Gf,Gf,Gf,Gf,Gf,Gf,Gf,Gf,Gf,Gf] (o:=by repeat' first|apply Ya|exact pcM|exact fq (X7 h7 h8)|exact fq (Xb (X7 h7 h8) rfl)|exact fq (Xb (Xb (X7 h7 h8) rfl) rfl)|exact Xu) (k:=wkT [] (X2.glue J))
  intro h;obtain rfl:=oj h;exact X6 [.el (aI .i64 (a0.Marks.length:Int)),Gf,Gf,Gf,Gf,Gf,Gf,Gf,Gf,Gf,Gf,Gf,Gf,Gf,Gf,Gf,Gf,Gf,Gf,Gf,Gf] (o:=by repeat' first|apply Ya|exact pcM|exact fq (Xb h7 rfl)|exact fq (Xb (Xb h7 rfl) rfl)|exact fq (Xb (Xb (Xb h7 rfl) rfl) rfl)|exact Xu) (k:=wkT [] (X2.glue J))
 refine brI (λh12=>?_) λh12=>?_
 ·
  refine bI λX07j h22=>rnI [Bf,Bt,.stop 19] ?_;intro h;refine X2.join (s':=⟨fr [(2,(aB X07j))],hp ([]),0⟩) ?_ (λJ=>X2.cut ?_)
  ·
   revert h;exact λe=>oj e▸X6 [] (k:=fi)
  clear h;revert h22;refine brI (λh18=>?_) λh18=>?_
  ·
   refine brI (λh19=>?_) λh19=>?_
   ·
    refine rnI [.el (aI .i64 (a0.Marks.length:Int)),Gt,Gt,Gt,.el (aI .i64 (a0.Store.length:Int)),Gt,Gt,Gt,Gt,Gt,.el (aI .i64 (a0.Events.length:Int)),Gt,Gt,.stop 999999] (o:=by repeat' first|apply Ya|exact pcM|exact fq (X7 h18 h19)|exact Xu) ?_;refine brI (λh20=>?_) λh20=>?_
    ·
     refine brI (λh21=>?_) λh21=>?_
     ·
      intro h;obtain rfl:=oj h;exact X6 [Gt,Gt,Gt,.el (aI .i64 (a0.Rows.length:Int)),Gt,Gt,Gt,Gt,Gt,.el (aI .i64 (a0.Late.length:Int)),Gt,Gt] (o:=by repeat' first|apply Ya|exact pcM|exact fq (X7 (X7 h18 h19) h20)|exact fq (X7 (X7 (X7 h18 h19) h20) h21)|exact Xu) (k:=wkT [] (X2.glue J))
     intro h;obtain rfl:=oj h;exact X6 [Gt,Gt,Gt,.el (aI .i64 (a0.Rows.length:Int)),Gt,Gt,Gf,Gf,Gf,Gf,Gf] (o:=by repeat' first|apply Ya|exact pcM|exact fq (X7 (X7 h18 h19) h20)|exact fq (X7 (X7 (X7 h18 h19) h20) h21)|exact Xu) (k:=wkT [] (X2.glue J))
    intro h;obtain rfl:=oj h;exact X6 [Gf,Gf,Gf,Gf,Gf,Gf,Gf,Gf,Gf,Gf] (o:=by repeat' first|apply Ya|exact pcM|exact fq (X7 (X7 h18 h19) h20)|exact fq (Xb (X7 (X7 h18 h19) h20) rfl)|exact Xu) (k:=wkT [] (X2.glue J))
   intro h;obtain rfl:=oj h;exact X6 [.el (aI .i64 (a0.Marks.length:Int)),Gt,Gt,Gt,.el (aI .i64 (a0.Store.length:Int)),Gt,Gt,Gf,Gf,Gf,Gf,Gf,Gf,Gf,Gf,Gf,Gf,Gf,Gf,Gf,Gf,Gf] (o:=by repeat' first|apply Ya|exact pcM|exact fq (X7 h18 h19)|exact fq (Xb (X7 h18 h19) rfl)|exact fq (Xb (Xb (X7 h18 h19) rfl) rfl)|exact Xu) (k:=wkT [] (X2.glue J))
  intro h;obtain rfl:=oj h;exact X6 [.el (aI .i64 (a0.Marks.length:Int)),Gf,Gf,Gf,Gf,Gf,Gf,Gf,Gf,Gf,Gf,Gf,Gf,Gf,Gf,Gf,Gf,Gf,Gf,Gf,Gf] (o:=by repeat' first|apply Ya|exact pcM|exact fq (Xb h18 rfl)|exact fq (Xb (Xb h18 rfl) rfl)|exact fq (Xb (Xb (Xb h18 rfl) rfl) rfl)|exact Xu) (k:=wkT [] (X2.glue J))
 refine brI (λh23=>?_) λh23=>?_
 ·
  refine bI λX07e h33=>rnI [Bf,Bf,Bt,.stop 19] ?_;intro h;refine X2.join (s':=⟨fr [(2,(aB X07e))],hp ([]),0⟩) ?_ (λJ=>X2.cut ?_)
  ·
   revert h;exact λe=>oj e▸X6 [] (k:=fi)
  clear h;revert h33;refine brI (λh29=>?_) λh29=>?_
  ·
   refine brI (λh30=>?_) λh30=>?_
   ·
    refine rnI [.el (aI .i64 (a0.Marks.length:Int)),Gt,Gt,Gt,.el (aI .i64 (a0.Store.length:Int)),Gt,Gt,Gt,Gt,Gt,.el (aI .i64 (a0.Events.length:Int)),Gt,Gt,.stop 999999] (o:=by repeat' first|apply Ya|exact pcM|exact fq (X7 h29 h30)|exact Xu) ?_;refine brI (λh31=>?_) λh31=>?_
    ·
     refine brI (λh32=>?_) λh32=>?_
     ·
      intro h;obtain rfl:=oj h;exact X6 [Gt,Gt,Gt,.el (aI .i64 (a0.Rows.length:Int)),Gt,Gt,Gt,Gt,Gt,.el (aI .i64 (a0.Late.length:Int)),Gt,Gt] (o:=by repeat' first|apply Ya|exact pcM|exact fq (X7 (X7 h29 h30) h31)|exact fq (X7 (X7 (X7 h29 h30) h31) h32)|exact Xu) (k:=wkT [] (X2.glue J))
     intro h;obtain rfl:=oj h;exact X6 [Gt,Gt,Gt,.el (aI .i64 (a0.Rows.length:Int)),Gt,Gt,Gf,Gf,Gf,Gf,Gf] (o:=by repeat' first|apply Ya|exact pcM|exact fq (X7 (X7 h29 h30) h31)|exact fq (X7 (X7 (X7 h29 h30) h31) h32)|exact Xu) (k:=wkT [] (X2.glue J))
    intro h;obtain rfl:=oj h;exact X6 [Gf,Gf,Gf,Gf,Gf,Gf,Gf,Gf,Gf,Gf] (o:=by repeat' first|apply Ya|exact pcM|exact fq (X7 (X7 h29 h30) h31)|exact fq (Xb (X7 (X7 h29 h30) h31) rfl)|exact Xu) (k:=wkT [] (X2.glue J))
   intro h;obtain rfl:=oj h;exact X6 [.el (aI .i64 (a0.Marks.length:Int)),Gt,Gt,Gt,.el (aI .i64 (a0.Store.length:Int)),Gt,Gt,Gf,Gf,Gf,Gf,Gf,Gf,Gf,Gf,Gf,Gf,Gf,Gf,Gf,Gf,Gf] (o:=by repeat' first|apply Ya|exact pcM|exact fq (X7 h29 h30)|exact fq (Xb (X7 h29 h30) rfl)|exact fq (Xb (Xb (X7 h29 h30) rfl) rfl)|exact Xu) (k:=wkT [] (X2.glue J))
  intro h;obtain rfl:=oj h;exact X6 [.el (aI .i64 (a0.Marks.length:Int)),Gf,Gf,Gf,Gf,Gf,Gf,Gf,Gf,Gf,Gf,Gf,Gf,Gf,Gf,Gf,Gf,Gf,Gf,Gf,Gf] (o:=by repeat' first|apply Ya|exact pcM|exact fq (Xb h29 rfl)|exact fq (Xb (Xb h29 rfl) rfl)|exact fq (Xb (Xb (Xb h29 rfl) rfl) rfl)|exact Xu) (k:=wkT [] (X2.glue J))
 refine brI (λh34=>?_) λh34=>?_
 ·
  refine bI λX078 h44=>rnI [Bf,Bf,Bf,Bt,.el (aI .i64 (a0.Marks.length:Int)),.el (aI .i64 (a0.Store.length:Int)),.stop 19] ?_;intro h;refine X2.join (s':=⟨fr [(2,(aB X078))],hp ([]),0⟩) ?_ (λJ=>X2.cut ?_)
  ·
   revert h;exact λe=>oj e▸X6 [] (k:=fi)
  clear h;revert h44;refine brI (λh40=>?_) λh40=>?_
  ·
   refine brI (λh41=>?_) λh41=>?_
   ·
    refine rnI [.el (aI .i64 (a0.Marks.length:Int)),Gt,Gt,Gt,.el (aI .i64 (a0.Store.length:Int)),Gt,Gt,Gt,Gt,Gt,.el (aI .i64 (a0.Events.length:Int)),Gt,Gt,.stop 999999] (o:=by repeat' first|apply Ya|exact pcM|exact fq (X7 h40 h41)|exact Xu) ?_;refine brI (λh42=>?_) λh42=>?_
    ·
     refine brI (λh43=>?_) λh43=>?_
     ·
      intro h;obtain rfl:=oj h;exact X6 [Gt,Gt,Gt,.el (aI .i64 (a0.Rows.length:Int)),Gt,Gt,Gt,Gt,Gt,.el (aI .i64 (a0.Late.length:Int)),Gt,Gt] (o:=by repeat' first|apply Ya|exact pcM|exact fq (X7 (X7 h40 h41) h42)|exact fq (X7 (X7 (X7 h40 h41) h42) h43)|exact Xu) (k:=wkT [] (X2.glue J))
     intro h;obtain rfl:=oj h;exact X6 [Gt,Gt,Gt,.el (aI .i64 (a0.Rows.length:Int)),Gt,Gt,Gf,Gf,Gf,Gf,Gf] (o:=by repeat' first|apply Ya|exact pcM|exact fq (X7 (X7 h40 h41) h42)|exact fq (X7 (X7 (X7 h40 h41) h42) h43)|exact Xu) (k:=wkT [] (X2.glue J))
    intro h;obtain rfl:=oj h;exact X6 [Gf,Gf,Gf,Gf,Gf,Gf,Gf,Gf,Gf,Gf] (o:=by repeat' first|apply Ya|exact pcM|exact fq (X7 (X7 h40 h41) h42)|exact fq (Xb (X7 (X7 h40 h41) h42) rfl)|exact Xu) (k:=wkT [] (X2.glue J))
   intro h;obtain rfl:=oj h;exact X6 [.el (aI .i64 (a0.Marks.length:Int)),Gt,Gt,Gt,.el (aI .i64 (a0.Store.length:Int)),Gt,Gt,Gf,Gf,Gf,Gf,Gf,Gf,Gf,Gf,Gf,Gf,Gf,Gf,Gf,Gf,Gf] (o:=by repeat' first|apply Ya|exact pcM|exact fq (X7 h40 h41)|exact fq (Xb (X7 h40 h41) rfl)|exact fq (Xb (Xb (X7 h40 h41) rfl) rfl)|exact Xu) (k:=wkT [] (X2.glue J))
  intro h;obtain rfl:=oj h;exact X6 [.el (aI .i64 (a0.Marks.length:Int)),Gf,Gf,Gf,Gf,Gf,Gf,Gf,Gf,Gf,Gf,Gf,Gf,Gf,Gf,Gf,Gf,Gf,Gf,Gf,Gf] (o:=by repeat' first|apply Ya|exact pcM|exact fq (Xb h40 rfl)|exact fq (Xb (Xb h40 rfl) rfl)|exact fq (Xb (Xb (Xb h40 rfl) rfl) rfl)|exact Xu) (k:=wkT [] (X2.glue J))
 refine brI (λh45=>?_) λh45=>?_
 ·
  refine bI λX06x h55=>rnI [Bf,Bf,Bf,Bf,Bt,.el (aI .i64 (a0.Store.length:Int)),.stop 19] ?_;intro h;refine X2.join (s':=⟨fr [(2,(aB X06x))],hp ([]),0⟩) ?_ (λJ=>X2.cut ?_)
  ·
   revert h;exact λe=>oj e▸X6 [] (k:=fi)
  clear h;revert h55;refine brI (λh51=>?_) λh51=>?_
  ·
   refine brI (λh52=>?_) λh52=>?_
   ·
    refine rnI [.el (aI .i64 (a0.Marks.length:Int)),Gt,Gt,Gt,.el (aI .i64 (a0.Store.length:Int)),Gt,Gt,Gt,Gt,Gt,.el (aI .i64 (a0.Events.length:Int)),Gt,Gt,.stop 999999] (o:=by repeat' first|apply Ya|exact pcM|exact fq (X7 h51 h52)|exact Xu) ?_;refine brI (λh53=>?_) λh53=>?_
    ·
     refine brI (λh54=>?_) λh54=>?_
     ·
      intro h;obtain rfl:=oj h;exact X6 [Gt,Gt,Gt,.el (aI .i64 (a0.Rows.length:Int)),Gt,Gt,Gt,Gt,Gt,.el (aI .i64 (a0.Late.length:Int)),Gt,Gt] (o:=by repeat' first|apply Ya|exact pcM|exact fq (X7 (X7 h51 h52) h53)|exact fq (X7 (X7 (X7 h51 h52) h53) h54)|exact Xu) (k:=wkT [] (X2.glue J))
     intro h;obtain rfl:=oj h;exact X6 [Gt,Gt,Gt,.el (aI .i64 (a0.Rows.length:Int)),Gt,Gt,Gf,Gf,Gf,Gf,Gf] (o:=by repeat' first|apply Ya|exact pcM|exact fq (X7 (X7 h51 h52) h53)|exact fq (X7 (X7 (X7 h51 h52) h53) h54)|exact Xu) (k:=wkT [] (X2.glue J))
    intro h;obtain rfl:=oj h;exact X6 [Gf,Gf,Gf,Gf,Gf,Gf,Gf,Gf,Gf,Gf] (o:=by repeat' first|apply Ya|exact pcM|exact fq (X7 (X7 h51 h52) h53)|exact fq (Xb (X7 (X7 h51 h52) h53) rfl)|exact Xu) (k:=wkT [] (X2.glue J))
   intro h;obtain rfl:=oj h;exact X6 [.el (aI .i64 (a0.Marks.length:Int)),Gt,Gt,Gt,.el (aI .i64 (a0.Store.length:Int)),Gt,Gt,Gf,Gf,Gf,Gf,Gf,Gf,Gf,Gf,Gf,Gf,Gf,Gf,Gf,Gf,Gf] (o:=by repeat' first|apply Ya|exact pcM|exact fq (X7 h51 h52)|exact fq (Xb (X7 h51 h52) rfl)|exact fq (Xb (Xb (X7 h51 h52) rfl) rfl)|exact Xu) (k:=wkT [] (X2.glue J))
  intro h;obtain rfl:=oj h;exact X6 [.el (aI .i64 (a0.Marks.length:Int)),Gf,Gf,Gf,Gf,Gf,Gf,Gf,Gf,Gf,Gf,Gf,Gf,Gf,Gf,Gf,Gf,Gf,Gf,Gf,Gf] (o:=by repeat' first|apply Ya|exact pcM|exact fq (Xb h51 rfl)|exact fq (Xb (Xb h51 rfl) rfl)|exact fq (Xb (Xb (Xb h51 rfl) rfl) rfl)|exact Xu) (k:=wkT [] (X2.glue J))
 refine brI (λh56=>?_) λh56=>?_
 ·
  refine bI λX06u h66=>rnI [Bf,Bf,Bf,Bf,Bf,Bt,.stop 19] ?_;intro h;refine X2.join (s':=⟨fr [(2,(aB X06u))],hp ([]),0⟩) ?_ (λJ=>X2.cut ?_)
  ·
   revert h;exact λe=>oj e▸X6 [] (k:=fi)
  clear h;revert h66;refine brI (λh62=>?_) λh62=>?_
  ·
   refine brI (λh63=>?_) λh63=>?_
   ·
    refine rnI [.el (aI .i64 (a0.Marks.length:Int)),Gt,Gt,Gt,.el (aI .i64 (a0.Store.length:Int)),Gt,Gt,Gt,Gt,Gt,.el (aI .i64 (a0.Events.length:Int)),Gt,Gt,.stop 999999] (o:=by repeat' first|apply Ya|exact pcM|exact fq (X7 h62 h63)|exact Xu) ?_;refine brI (λh64=>?_) λh64=>?_
    ·
     refine brI (λh65=>?_) λh65=>?_
     ·
      intro h;obtain rfl:=oj h;exact X6 [Gt,Gt,Gt,.el (aI .i64 (a0.Rows.length:Int)),Gt,Gt,Gt,Gt,Gt,.el (aI .i64 (a0.Late.length:Int)),Gt,Gt] (o:=by repeat' first|apply Ya|exact pcM|exact fq (X7 (X7 h62 h63) h64)|exact fq (X7 (X7 (X7 h62 h63) h64) h65)|exact Xu) (k:=wkT [] (X2.glue J))
     intro h;obtain rfl:=oj h;exact X6 [Gt,Gt,Gt,.el (aI .i64 (a0.Rows.length:Int)),Gt,Gt,Gf,Gf,Gf,Gf,Gf] (o:=by repeat' first|apply Ya|exact pcM|exact fq (X7 (X7 h62 h63) h64)|exact fq (X7 (X7 (X7 h62 h63) h64) h65)|exact Xu) (k:=wkT [] (X2.glue J))
    intro h;obtain rfl:=oj h;exact X6 [Gf,Gf,Gf,Gf,Gf,Gf,Gf,Gf,Gf,Gf] (o:=by repeat' first|apply Ya|exact pcM|exact fq (X7 (X7 h62 h63) h64)|exact fq (Xb (X7 (X7 h62 h63) h64) rfl)|exact Xu) (k:=wkT [] (X2.glue J))
   intro h;obtain rfl:=oj h;exact X6 [.el (aI .i64 (a0.Marks.length:Int)),Gt,Gt,Gt,.el (aI .i64 (a0.Store.length:Int)),Gt,Gt,Gf,Gf,Gf,Gf,Gf,Gf,Gf,Gf,Gf,Gf,Gf,Gf,Gf,Gf,Gf] (o:=by repeat' first|apply Ya|exact pcM|exact fq (X7 h62 h63)|exact fq (Xb (X7 h62 h63) rfl)|exact fq (Xb (Xb (X7 h62 h63) rfl) rfl)|exact Xu) (k:=wkT [] (X2.glue J))
  intro h;obtain rfl:=oj h;exact X6 [.el (aI .i64 (a0.Marks.length:Int)),Gf,Gf,Gf,Gf,Gf,Gf,Gf,Gf,Gf,Gf,Gf,Gf,Gf,Gf,Gf,Gf,Gf,Gf,Gf,Gf] (o:=by repeat' first|apply Ya|exact pcM|exact fq (Xb h62 rfl)|exact fq (Xb (Xb h62 rfl) rfl)|exact fq (Xb (Xb (Xb h62 rfl) rfl) rfl)|exact Xu) (k:=wkT [] (X2.glue J))
 refine brI (λh67=>?_) λh67=>λe=>oj e▸X6 [Bf,Bf,Bf,Bf,Bf,Bf,Bf] (k:=fi);refine bI λX06p h77=>rnI [Bf,Bf,Bf,Bf,Bf,Bf,Bt,.stop 19] ?_;intro h;refine X2.join (s':=⟨fr [(2,(aB X06p))],hp ([]),0⟩) ?_ (λJ=>X2.cut ?_)
 ·
  revert h;exact λe=>oj e▸X6 [] (k:=fi)
 clear h;revert h77;refine brI (λh73=>?_) λh73=>?_
 ·
  refine brI (λh74=>?_) λh74=>?_
  ·
   refine rnI [.el (aI .i64 (a0.Marks.length:Int)),Gt,Gt,Gt,.el (aI .i64 (a0.Store.length:Int)),Gt,Gt,Gt,Gt,Gt,.el (aI .i64 (a0.Events.length:Int)),Gt,Gt,.stop 999999] (o:=by repeat' first|apply Ya|exact pcM|exact fq (X7 h73 h74)|exact Xu) ?_;refine brI (λh75=>?_) λh75=>?_
   ·
    refine brI (λh76=>?_) λh76=>?_
    ·
     intro h;obtain rfl:=oj h;exact X6 [Gt,Gt,Gt,.el (aI .i64 (a0.Rows.length:Int)),Gt,Gt,Gt,Gt,Gt,.el (aI .i64 (a0.Late.length:Int)),Gt,Gt] (o:=by repeat' first|apply Ya|exact pcM|exact fq (X7 (X7 h73 h74) h75)|exact fq (X7 (X7 (X7 h73 h74) h75) h76)|exact Xu) (k:=wkT [] (X2.glue J))
    intro h;obtain rfl:=oj h;exact X6 [Gt,Gt,Gt,.el (aI .i64 (a0.Rows.length:Int)),Gt,Gt,Gf,Gf,Gf,Gf,Gf] (o:=by repeat' first|apply Ya|exact pcM|exact fq (X7 (X7 h73 h74) h75)|exact fq (X7 (X7 (X7 h73 h74) h75) h76)|exact Xu) (k:=wkT [] (X2.glue J))
   intro h;obtain rfl:=oj h;exact X6 [Gf,Gf,Gf,Gf,Gf,Gf,Gf,Gf,Gf,Gf] (o:=by repeat' first|apply Ya|exact pcM|exact fq (X7 (X7 h73 h74) h75)|exact fq (Xb (X7 (X7 h73 h74) h75) rfl)|exact Xu) (k:=wkT [] (X2.glue J))
  intro h;obtain rfl:=oj h;exact X6 [.el (aI .i64 (a0.Marks.length:Int)),Gt,Gt,Gt,.el (aI .i64 (a0.Store.length:Int)),Gt,Gt,Gf,Gf,Gf,Gf,Gf,Gf,Gf,Gf,Gf,Gf,Gf,Gf,Gf,Gf,Gf] (o:=by repeat' first|apply Ya|exact pcM|exact fq (X7 h73 h74)|exact fq (Xb (X7 h73 h74) rfl)|exact fq (Xb (Xb (X7 h73 h74) rfl) rfl)|exact Xu) (k:=wkT [] (X2.glue J))
 intro h;obtain rfl:=oj h;exact X6 [.el (aI .i64 (a0.Marks.length:Int)),Gf,Gf,Gf,Gf,Gf,Gf,Gf,Gf,Gf,Gf,Gf,Gf,Gf,Gf,Gf,Gf,Gf,Gf,Gf,Gf] (o:=by repeat' first|apply Ya|exact pcM|exact fq (Xb h73 rfl)|exact fq (Xb (Xb h73 rfl) rfl)|exact fq (Xb (Xb (Xb h73 rfl) rfl) rfl)|exact Xu) (k:=wkT [] (X2.glue J))⟩
instance X017:PCs Tryz.prog 15 (∀ (a0:Xg) (r:Bool),X4v a0=some r->X0b Tryz.prog 15 [(X5 a0)] (aB r)):=⟨λa0 r h=>by
 refine X0b.sym X3 fn15 (nt:=11) rfl rfl ?_ okM;unfold X4v at h;revert h;exact λe=>oj e▸X6 [] (k:=fi)⟩
instance X02u:PCs Tryz.prog 14 (∀ (a0:Int) (r:Bool),X8u a0=some r->X0b Tryz.prog 14 [(aI .i64 a0)] (aB r)):=⟨λa0 r h=>by
 refine X0b.sym X3 fn14 (nt:=13) rfl rfl ?_ okM;unfold X8u at h;revert h;exact λe=>oj e▸X6 [] (k:=fi)⟩
instance X052:PCs Tryz.prog 91 (∀ (a0:X1b) (r:Bool),Xcy a0=some r->X0b Tryz.prog 91 [(Xf a0)] (aB r)):=⟨λa0 r h=>by
 refine X0b.sym X3 fn91 (nt:=22) rfl rfl ?_ okM;unfold Xcy at h;revert h;exact λe=>oj e▸X6 [] (k:=fi)⟩
end Go.Av.Tryz