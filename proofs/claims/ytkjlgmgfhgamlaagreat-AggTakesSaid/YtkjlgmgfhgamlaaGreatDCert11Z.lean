/- Printed by decomp.py: that the program computes the functions. -/
import Derived.Test.YtkjlgmgfhgamlaaGreatDCert10Z
set_option linter.all false

namespace Go.Av.Tryz
open Go.Proofs Go.D
set_option maxRecDepth 10000
set_option maxHeartbeats 40000000
instance Xwf:PCs Tryz.prog 128 (∀ (a0:(List Int)) (a1:Bool) (r:Int),X7y a0 a1=some r->X0a Tryz.prog 128 [(Lf (List.map (aI .i64) a0)),(aB a1)] (aI .i64 r)):=⟨λa0 a1 r h=>by
 refine X0a.sym X3 X0cx (nt:=60) rfl rfl ?_ okM;unfold X7y at h;revert h;refine brI (λh1=>λe=>oj e▸X6 [.el (aI .i64 (a0.length:Int)),Bt] (k:=fi)) λh1=>bI λX06m h7=>rnI [.el (aI .i64 (a0.length:Int)),Bf,.stop 3] ?_;intro h;refine X2.join (s':=⟨fr [(0,(Lf (List.map (aI .i64) a0))),(21,(aB X06m))],hp ([]),0⟩) ?_ (λJ=>X2.cut ?_)
 ·
  revert h;refine brI (λh8=>λe=>oj e▸X6 [Bt] (k:=fi)) λh8=>bI λu9 h10=>?_;have qh10:=X0v h10;refine bI λo27 h28=>rnI [Bf] ?_;intro h;refine wkT [] (X2.cut (Xgd a0 qh10 a0 0 (by simp) _ h28 ?_ ?_))
  ·
   intro eo27;subst eo27;refine X2.glue ?_;try dsimp only at h
   revert h;refine bI λo93 h94=>rnI [] ?_;intro h;refine wkT [] (X2.cut (Xgc a0 qh10 a0 0 (by simp) _ h94 ?_ ?_))
   ·
    intro eo93;subst eo93;refine X2.glue ?_;try dsimp only at h
    revert h;exact λe=>oj e▸X6 [] (k:=fi)
   intro eo93;subst eo93;refine X2.glue ?_;try dsimp only at h
   revert h;exact λe=>oj e▸X6 [] (k:=fi)
  intro eo27;subst eo27;refine X2.glue ?_;try dsimp only at h
  revert h;exact λe=>oj e▸X6 [] (k:=fi)
 clear h;revert h7;refine brI (λh5=>?_) λh5=>?_
 ·
  intro h;obtain rfl:=oj h;exact X6 [.el (aI .i64 (a0.length:Int)),Gf,Gf,Gf,Gf,Gf,Gf] (k:=wkT [] (X2.glue J))
 refine brI (λh6=>?_) λh6=>?_
 ·
  intro h;obtain rfl:=oj h;exact X6 [.el (aI .i64 (a0.length:Int)),Gt,Gt,Gt,Gt,.el (aI .i64 (a0.length:Int)),Gt,Gt] (k:=wkT [] (X2.glue J))
 intro h;obtain rfl:=oj h;exact X6 [.el (aI .i64 (a0.length:Int)),Gt,Gt,Gf,Gf,Gf,Gt] (k:=wkT [] (X2.glue J))⟩
instance X02t:PCs Tryz.prog 129 (∀ (a0:X1v) (r:Bool),X7d a0=some r->X0a Tryz.prog 129 [(X1y a0)] (aB r)):=⟨λa0 r h=>by
 refine X0a.sym X3 X0cw (nt:=45) rfl rfl ?_ okM;unfold X7d at h;revert h;exact brI (λh1=>λe=>oj e▸X6 [Bt] (k:=fi)) λh1=>brI (λh2=>λe=>oj e▸X6 [Bf,Bt,.wrap] (k:=fi)) λh2=>λe=>oj e▸X6 [Bf,Bf] (k:=fi)⟩
instance X017:PCs Tryz.prog 86 (∀ (a0:X0l) (r:Int),Xbb a0=some r->X0a Tryz.prog 86 [(X0b false a0)] (aI .i64 r)):=⟨λa0 r h=>by
 refine X0a.sym X3 fn86 (nt:=80) rfl rfl ?_ okM;unfold Xbb at h;revert h;refine brI (λh1=>λe=>oj e▸X6 [Bt] (k:=fi)) λh1=>bI λX06v h5=>rnI [Bf,.stop 3] ?_;intro h;refine X2.join (s':=⟨fr [(1,(AV.ptr 0 0 0)),(29,(aB X06v))],hp ([(0,Ob [(X0b false a0)] 10)]),1⟩) ?_ (λJ=>X2.cut ?_)
 ·
  revert h;refine brI (λh6=>λe=>oj e▸X6 [Bt] (k:=fi)) λh6=>bI λXza h14=>rnI [Bf,.stop 5] ?_;intro h;refine X2.join (s':=⟨fr [(1,(AV.ptr 0 0 0)),(38,(aB Xza))],hp ([(0,Ob [(X0b false a0)] 10)]),1⟩) ?_ (λJ=>X2.cut ?_)
  ·
   revert h;refine brI (λh15=>bI λv16 h17=>λe=>oj e▸X6 [Bt,.pure _ (aI .i64 v16)] (k:=fi)) λh15=>bI λXq7 h25=>rnI [Bf,.stop 7] ?_;intro h;refine X2.join (s':=⟨fr [(1,(AV.ptr 0 0 0)),(51,(aB Xq7))],hp ([(0,Ob [(X0b false a0)] 10)]),1⟩) ?_ (λJ=>X2.cut ?_)
   ·
    revert h;exact brI (λh26=>bI λv27 h28=>λe=>oj e▸X6 [Bt,.pure _ (aI .i64 v27)] (k:=fi)) λh26=>bI λv29 h30=>brI (λh31=>λe=>oj e▸X6 [Bf,.pure _ (aI .i64 v29),Bt,.pure _ (aI .i64 v29)] (k:=fi)) λh31=>bI λv32 h33=>brI (λh34=>λe=>oj e▸X6 [Bf,.pure _ (aI .i64 v29),Bf,.pure _ (aB v32),Bt] (k:=fi)) λh34=>λe=>oj e▸X6 [Bf,.pure _ (aI .i64 v29),Bf,.pure _ (aB v32),Bf] (k:=fi)
   clear h;revert h25;refine brI (λh22=>?_) λh22=>?_
   ·
    refine bI λv23 h24=>?_;intro h;obtain rfl:=oj h;exact X6 [.el (aI .i64 (a0.Where.length:Int)),Gt,Gt,Gt,.pure _ (aI .i64 v23),Gt] (k:=wkT [] (X2.glue J))
   intro h;obtain rfl:=oj h;exact X6 [.el (aI .i64 (a0.Where.length:Int)),Gf,Gf,Gf,Gf] (k:=wkT [] (X2.glue J))
  clear h;revert h14;refine brI (λh11=>?_) λh11=>?_
  ·
   refine bI λv12 h13=>?_;intro h;obtain rfl:=oj h;exact X6 [Gt,Gt,Gt,.pure _ (aI .i64 v12),Gt] (k:=wkT [] (X2.glue J))
  intro h;obtain rfl:=oj h;exact X6 [Gf,Gf,Gf,Gf] (k:=wkT [] (X2.glue J))
 clear h;revert h5;refine brI (λh4=>?_) λh4=>?_
 ·
  intro h;obtain rfl:=oj h;exact X6 [Gt,Gt,Gt,.el (aI .i64 (a0.Arg.length:Int)),Gt] (k:=wkT [] (X2.glue J))
 intro h;obtain rfl:=oj h;exact X6 [Gf,Gf,Gf,Gf] (k:=wkT [] (X2.glue J))⟩
instance X019:PCs Tryz.prog 176 (∀ (a0:Int) (r:Bool),X6w a0=some r->X0a Tryz.prog 176 [(aI .u8 a0)] (aB r)):=⟨λa0 r h=>by
 refine X0a.sym X3 X0by (nt:=9) rfl rfl ?_ okM;unfold X6w at h;revert h;exact λe=>oj e▸X6 [] (k:=fi)⟩
instance X02u:PCs Tryz.prog 196 (∀ (a0:(List X0f)) (a1:Int) (r:Bool),Xd2 a0 a1=some r->X0a Tryz.prog 196 [(Lf (a0.map X4)),(aI .i64 a1)] (aB r)):=⟨λa0 a1 r h=>by
 refine X0a.sym X3 X0bo (nt:=67) rfl rfl ?_ okM;unfold Xd2 at h;revert h;refine bI λe1 h2=>?_;try have qh2:=Xm h2
 refine bI λe3 h4=>?_;try have qh4:=Xm h4
 refine bI λv5 h6=>bI λe7 h8=>?_;try have qh8:=Xm h8
 exact bI λv9 h10=>brI (λh11=>λe=>oj e▸X6 [.el (X4 e1),.el (X4 e3),.pure _ (aB v5),.el (X4 e7),.pure _ (aB v9),Bt] (k:=fi)) λh11=>brI (λh12=>λe=>oj e▸X6 [.el (X4 e1),.el (X4 e3),.pure _ (aB v5),.el (X4 e7),.pure _ (aB v9),Bf,Bt] (k:=fi)) λh12=>brI (λh13=>λe=>oj e▸X6 [.el (X4 e1),.el (X4 e3),.pure _ (aB v5),.el (X4 e7),.pure _ (aB v9),Bf,Bf,Bt] (k:=fi)) λh13=>brI (λh14=>λe=>oj e▸X6 [.el (X4 e1),.el (X4 e3),.pure _ (aB v5),.el (X4 e7),.pure _ (aB v9),Bf,Bf,Bf,Bt] (k:=fi)) λh14=>brI (λh15=>λe=>oj e▸X6 [.el (X4 e1),.el (X4 e3),.pure _ (aB v5),.el (X4 e7),.pure _ (aB v9),Bf,Bf,Bf,Bf,Bt] (k:=fi)) λh15=>λe=>oj e▸X6 [.el (X4 e1),.el (X4 e3),.pure _ (aB v5),.el (X4 e7),.pure _ (aB v9),Bf,Bf,Bf,Bf,Bf] (k:=fi)⟩
theorem Xi5 {Q:X04->St->Mu->Prop} {μ:Mu} (X0c:(List X0f)) (hl:X0c.length<=140737488355328):∀ (xs:List X0f) (k:Nat) (hx:X0c.drop k=xs) (o:X6o) (h:X49 X0c xs k  = some o)
  (C0:o=X6o.x0->X2 Tryz.prog 17 0 Q (.exit (.exit 0)) [] ⟨fr [(0,(Lf (X0c.map X4)))],hp ([]),0⟩ μ)
  (C1:∀ (Xcn:Int),o=X6o.x1 Xcn->X2 Tryz.prog 17 0 Q (.exit .ret) [] ⟨fr [(2,(aI .i64 Xcn))],hp ([]),0⟩ μ),
  X2 Tryz.prog 17 0 Q (.loop (X2p 0 (Xd Tryz.f175))) [] ⟨fr [(0,(Lf (X0c.map X4))),(3,(aI .i64 (k:Int)))],hp ([]),0⟩ μ:=by
 intro xs
 induction xs with
 |nil =>
  intro k hx  o h C0 C1;have hk:=X1f hx;have hc:decide ((k:Int)<(X0c.length:Int))=false:=Yf om;rw[X49] at h;refine X2.round ?_;revert h;exact λe=>X6 [.el (aI .i64 (X0c.length:Int)),Bf] (k:=wkT [] (C0  (oj e).symm))
 |cons x xs ih =>
  intro k hx  o h C0 C1;obtain⟨hk,hg,hx1⟩:=X0u hx;have hc:decide ((k:Int)<(X0c.length:Int))=true:=Yt om;rw[X49] at h;refine X2.round ?_;revert h;refine bI λv10 h11=>brI (λh12=>λe=>X6 [.el (aI .i64 (X0c.length:Int)),Bt,.pure _ (aB v10),Bt] (k:=wkT [] (C1 _  (oj e).symm))) λh12=>rnI [.el (aI .i64 (X0c.length:Int)),Bt,.pure _ (aB v10),Bf] ?_;intro h;exact wkT [] (ih (k+1) hx1  o h C0 C1)
instance X018:PCs Tryz.prog 175 (∀ (a0:(List X0f)) (r:Int),Xdh a0=some r->X0a Tryz.prog 175 [(Lf (a0.map X4))] (aI .i64 r)):=⟨λa0 r h=>by
 refine X0a.sym X3 X0bz (nt:=17) rfl rfl ?_ okM;unfold Xdh at h;revert h;refine bI λu1 h2=>?_;have qh2:=X0v h2;refine bI λo13 h14=>rnI [] ?_;intro h;refine wkT [] (X2.cut (Xi5 a0 qh2 a0 0 (by simp) _ h14 ?_ ?_))
 ·
  intro eo13;subst eo13;refine X2.glue ?_;try dsimp only at h
  revert h;exact λe=>oj e▸X6 [.el (aI .i64 (a0.length:Int))] (k:=fi)
 intro Xcn eo13;subst eo13;refine X2.glue ?_;try dsimp only at h
 revert h;exact λe=>oj e▸X6 [] (k:=fi)⟩
instance X061:PCs Tryz.prog 156 (∀ (a0:(List X0f)) (r:Bool×Int×Int),Xh1 a0=some r->X0a Tryz.prog 156 [(Lf (a0.map X4))] (AV.tup [(aB r.1),(aI .i64 r.2.1),(aI .i64 r.2.2)])):=⟨λa0 r h=>by
 refine X0a.sym X3 X0cd (nt:=29) rfl rfl ?_ okM;unfold Xh1 at h;revert h;refine bI λv1 h2=>brI (λh3=>λe=>oj e▸X6 [.pure _ (aI .i64 v1),Bt,.pure _ (aI .i64 v1)] (k:=fi)) λh3=>bI λv4 h5=>brI (λh6=>λe=>oj e▸X6 [.pure _ (aI .i64 v1),Bf,.pure _ (aI .i64 v4),.el (aI .i64 (a0.length:Int)),Bt] (k:=fi)) λh6=>bI λe7 h8=>?_;try have qh8:=Xm h8
 exact bI λv9 h10=>λe=>oj e▸X6 [.pure _ (aI .i64 v1),Bf,.pure _ (aI .i64 v4),.el (aI .i64 (a0.length:Int)),Bf,.el (aI .i64 (a0.length:Int)),.wrap,.el (X4 e7),.pure _ (aB v9),.el (aI .i64 (a0.length:Int)),.wrap] (k:=fi)⟩
instance X02v:PCs Tryz.prog 130 (∀ (a0:(List X0f)) (a1:Bool) (r:Int×Int),X8z a0 a1=some r->X0a Tryz.prog 130 [(Lf (a0.map X4)),(aB a1)] (AV.tup [(aI .i64 r.1),(aI .i64 r.2)])):=⟨λa0 a1 r h=>by
 refine X0a.sym X3 X0cv (nt:=25) rfl rfl ?_ okM;unfold X8z at h;revert h;exact bI λv1 h2=>brI (λh3=>λe=>oj e▸X6 [.pure _ (AV.tup [(aB v1.1),(aI .i64 v1.2.1),(aI .i64 v1.2.2)]),Bt] (k:=fi)) λh3=>λe=>oj e▸X6 [.pure _ (AV.tup [(aB v1.1),(aI .i64 v1.2.1),(aI .i64 v1.2.2)]),Bf] (k:=fi)⟩
instance X015:PCs Tryz.prog 87 (∀ (a0:X0l) (r:Int×Int),Xb9 a0=some r->X0a Tryz.prog 87 [(X0b false a0)] (AV.tup [(aI .i64 r.1),(aI .i64 r.2)])):=⟨λa0 r h=>by
 refine X0a.sym X3 fn87 (nt:=46) rfl rfl ?_ okM;unfold Xb9 at h;revert h;refine brI (λh1=>?_) λh1=>?_
 ·
  refine bI λv2 h3=>brI (λh4=>?_) λh4=>?_
  ·
   refine bI λe5 h6=>?_;try have qh6:=Xm h6
   exact λe=>oj e▸X6 [.el (aI .i64 (a0.Arg.length:Int)),Bt,.pure _ (AV.tup [(aI .i64 v2.1),(aI .i64 v2.2)]),Bt,.el (X4 e5)] (k:=fi)
  refine rnI [.el (aI .i64 (a0.Arg.length:Int)),Bt,.pure _ (AV.tup [(aI .i64 v2.1),(aI .i64 v2.2)]),Bf,.el (aI .i64 (a0.Where.length:Int))] ?_;refine brI (λh7=>?_) λh7=>λe=>oj e▸X6 [Bf] (k:=fi);refine bI λv8 h9=>brI (λh10=>?_) λh10=>λe=>oj e▸X6 [Bt,.pure _ (AV.tup [(aI .i64 v8.1),(aI .i64 v8.2)]),Bf] (k:=fi);refine bI λe11 h12=>?_;try have qh12:=Xm h12
  exact λe=>oj e▸X6 [Bt,.pure _ (AV.tup [(aI .i64 v8.1),(aI .i64 v8.2)]),Bt,.el (X4 e11)] (k:=fi)
 refine brI (λh13=>?_) λh13=>λe=>oj e▸X6 [.el (aI .i64 (a0.Arg.length:Int)),Bf,.el (aI .i64 (a0.Where.length:Int)),Bf] (k:=fi);refine bI λv14 h15=>rnI [.el (aI .i64 (a0.Arg.length:Int)),Bf,.el (aI .i64 (a0.Where.length:Int)),Bt,.pure _ (AV.tup [(aI .i64 v14.1),(aI .i64 v14.2)])] ?_;refine brI (λh16=>?_) λh16=>λe=>oj e▸X6 [Bf] (k:=fi);refine bI λe17 h18=>?_;try have qh18:=Xm h18
 exact λe=>oj e▸X6 [Bt,.el (X4 e17)] (k:=fi)⟩
instance X016:PCs Tryz.prog 49 (∀ (a0:X0l) (r:Int×Int),Xba a0=some r->X0a Tryz.prog 49 [(X0b false a0)] (AV.tup [(aI .i64 r.1),(aI .i64 r.2)])):=⟨λa0 r h=>by
 refine X0a.sym X3 fn49 (nt:=13) rfl rfl ?_ okM;unfold Xba at h;revert h;exact bI λv1 h2=>brI (λh3=>λe=>oj e▸X6 [.pure _ (aI .i64 v1),Bt,.pure _ (aI .i64 v1)] (k:=fi)) λh3=>bI λv4 h5=>λe=>oj e▸X6 [.pure _ (aI .i64 v1),Bf,.pure _ (AV.tup [(aI .i64 v4.1),(aI .i64 v4.2)])] (k:=fi)⟩
instance Xv0:PCs Tryz.prog 13 (∀ (a0:X0l) (r:Bool),X54 a0=some r->X0a Tryz.prog 13 [(X0b false a0)] (aB r)):=⟨λa0 r h=>by
 refine X0a.sym X3 fn13 (nt:=12) rfl rfl ?_ okM;unfold X54 at h;revert h;exact bI λv1 h2=>λe=>oj e▸X6 [.pure _ (AV.tup [(aI .i64 v1.1),(aI .i64 v1.2)])] (k:=fi)⟩
end Go.Av.Tryz