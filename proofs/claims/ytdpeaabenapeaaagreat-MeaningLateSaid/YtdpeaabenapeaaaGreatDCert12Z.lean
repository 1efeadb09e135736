/- Printed by decomp.py: that the program computes the functions. -/
import Derived.Test.YtdpeaabenapeaaaGreatDCert11Z
set_option linter.all false

namespace Go.Av.Tryz
open Go.Proofs Go.D
set_option maxRecDepth 10000
set_option maxHeartbeats 40000000
theorem Xhm {Q:Xx->St->Mu->Prop} {μ:Mu} (X0a:(List Xa)) (hl:X0a.length<=140737488355328):∀ (xs:List Xa) (k:Nat) (hx:X0a.drop k=xs) (Xcz:Int) (o:Xa3) (h:X5l X0a xs k Xcz=some o)
  (C0:∀ (Xi5:Int),o=Xa3.x0 Xi5->X2 Tryz.prog 31 0 Q (.exit (.exit 0)) [] ⟨fr [(3,(aI .i64 Xi5))],hp ([]),0⟩ μ),
  X2 Tryz.prog 31 0 Q (.loop (X41 0 (Xh Tryz.f7))) [] ⟨fr [(0,(Lf (X0a.map X0))),(3,(aI .i64 Xcz)),(4,(aI .i64 (k:Int)))],hp ([]),0⟩ μ:=by
 intro xs
 induction xs with
 |nil =>
  intro k hx Xcz o h C0;have hk:=X11 hx;have hc:decide ((k:Int)<(X0a.length:Int))=false:=Yf om;rw[X5l] at h;refine X2.round ?_;revert h;exact λe=>X8 [.el (aI .i64 (X0a.length:Int)),Bf] (k:=wkT [] (C0 _  (oj e).symm))
 |cons x xs ih =>
  intro k hx Xcz o h C0;obtain⟨hk,hg,hx1⟩:=X0f hx;have hc:decide ((k:Int)<(X0a.length:Int))=true:=Yt om;rw[X5l] at h;refine X2.round ?_;revert h;refine bI λXtb h23=>rnI [.el (aI .i64 (X0a.length:Int)),Bt,.stop 5] ?_;intro h;refine X2.join (s':=⟨fr [(0,(Lf (X0a.map X0))),(3,(aI .i64 Xcz)),(4,(aI .i64 (k:Int))),(24,(aB Xtb))],hp ([]),0⟩) ?_ (λJ=>X2.cut ?_)
  ·
   revert h;refine bI λXzo h27=>rnI [] ?_;intro h;refine X2.join (s':=⟨fr [(0,(Lf (X0a.map X0))),(3,(aI .i64 Xzo)),(4,(aI .i64 (k:Int)))],hp ([]),0⟩) ?_ (λJ=>X2.cut ?_)
   ·
    exact X8 [] (k:=wkT [] (ih (k+1) hx1 _ o h C0))
   clear h;revert h27;refine brI (λh26=>?_) λh26=>?_
   ·
    intro h;obtain rfl:=oj h;exact X8 [Bt,.el (X0 x)] (k:=wkT [] (X2.glue J))
   intro h;obtain rfl:=oj h;exact X8 [Bf] (k:=wkT [] (X2.glue J))
  clear h;revert h23;refine brI (λh22=>?_) λh22=>?_
  ·
   intro h;obtain rfl:=oj h;exact X8 [.el (X0 x),Gt,Gt,Gt,.el (X0 x),Gt,Gt,Gt,Gt] (k:=wkT [] (X2.glue J))
  intro h;obtain rfl:=oj h;exact X8 [.el (X0 x),Gf,Gf,Gf,Gf,Gf,Gf,Gf] (k:=wkT [] (X2.glue J))
instance Xys:PCs Tryz.prog 7 (∀ (a0:(List Xa)) (r:Int),Xc0 a0=some r->X0j Tryz.prog 7 [(Lf (a0.map X0))] (aI .i64 r)):=⟨λa0 r h=>by
 refine X0j.sym X7 fn7 (nt:=31) rfl rfl ?_ okM;unfold Xc0 at h;revert h;refine bI λu1 h2=>?_;have qh2:=X0b h2;refine bI λo28 h29=>rnI [] ?_;intro h;refine wkT [] (X2.cut (Xhm a0 qh2 a0 0 (by simp) _ _ h29 ?_));intro Xi5 eo28;subst eo28;refine X2.glue ?_;try dsimp only at h
 revert h;exact λe=>oj e▸X8 [] (k:=fi)⟩
theorem Xag {Q:Xx->St->Mu->Prop} {μ:Mu} (Xun:(List (List Xa))) (X95:Xt) (X9j:X9) (Xvn:Bool) (Xvm:(List X52)) (Xvl:(List X9)) (Xb6:Int) (Xcd:(List (List Xa))):∀ (n:Nat) (Xb5:(List Xa)) (Xdt:Int) (Xd9:Nb Xb5) (o:X42) (h:X19 Xun X95 X9j Xvn Xvm Xvl Xb6 Xcd n Xb5 Xdt=some o)
  (C0:∀ (X29:(List Xa)) (Xc2:Nb X29),o=X42.x0 X29->X2 Tryz.prog 187 0 Q (.exit (.exit 2)) [] ⟨fr [(1,(Lf (List.map (X14 false X0) Xun))),(3,(AV.ptr 0 0 0)),(5,(AV.ptr 1 0 0)),(7,(aB Xvn)),(8,(Lt (Xvm.map Xi))),(9,(Lt (Xvl.map X1))),(11,(aI .i64 Xb6)),(12,(AV.ref 2 0 (Xcd.length)))],hp ([(0,Ob [(Xk false X95)] 10),(1,Ob [(X1 X9j)] 3),(2,Ob (List.set (List.map (X14 false X0) Xcd) (Int.toNat Xb6) (slE Xc2.1 3 (X29.map X0))) 1)]++opE Xc2.1 3 5 (X29.map X0)),4⟩ μ),
  X2 Tryz.prog 187 0 Q (.loop (X41 1 (Xh Tryz.f3))) [] ⟨fr [(1,(Lf (List.map (X14 false X0) Xun))),(3,(AV.ptr 0 0 0)),(5,(AV.ptr 1 0 0)),(7,(aB Xvn)),(8,(Lt (Xvm.map Xi))),(9,(Lt (Xvl.map X1))),(11,(aI .i64 Xb6)),(12,(AV.ref 2 0 (Xcd.length))),(13,(aI .i64 Xdt))],hp ([(0,Ob [(Xk false X95)] 10),(1,Ob [(X1 X9j)] 3),(2,Ob (List.set (List.map (X14 false X0) Xcd) (Int.toNat Xb6) (slE Xd9.1 3 (Xb5.map X0))) 1)]++opE Xd9.1 3 5 (Xb5.map X0)),4⟩ μ:=by
 intro n
 induction n with
 |zero=>intro Xb5 Xdt Xd9 o h C0;cases h
 |succ n ih =>
  intro Xb5 Xdt Xd9 o h C0;rw[X19] at h;rcases Xd9 with ⟨_|_,Xwy⟩
  ·
   refine X2.round ?_;revert h;refine bI λe774 h775=>?_;try have qh775:=Xl h775
   refine brI (λh776=>?_) λh776=>λe=>X8 [.el (X14 false X0 e774),.el (aI .i64 (e774.length:Int)),Bf] (k:=wkT [] (C0 _  nbF (oj e).symm));refine bI λe777 h778=>?_;try have qh778:=Xl h778
   refine bI λXmz h790=>rnI [.el (X14 false X0 e774),.el (aI .i64 (e774.length:Int)),Bt,.el (X14 false X0 e774),.el (X0 e777),.stop 17] ?_;intro h;refine X2.join (s':=⟨fr [(1,(Lf (List.map (X14 false X0) Xun))),(3,(AV.ptr 0 0 0)),(5,(AV.ptr 1 0 0)),(7,(aB Xvn)),(8,(Lt (Xvm.map Xi))),(9,(Lt (Xvl.map X1))),(11,(aI .i64 Xb6)),(12,(AV.ref 2 0 (Xcd.length))),(13,(aI .i64 Xdt)),(14,(AV.ptr 4 0 0)),(92,(aB Xmz))],hp ([(0,Ob [(Xk false X95)] 10),(1,Ob [(X1 X9j)] 3),(2,Ob (List.set (List.map (X14 false X0) Xcd) (Int.toNat Xb6) (AV.ref 3 0 (Xb5.length))) 1),(3,Ob (Xb5.map X0) 5),(4,Ob [(X0 e777)] 5)]),5⟩) ?_ (λJ=>X2.cut ?_)
   ·
    revert h;refine bI λXgt h802=>rnI [] ?_;intro h;refine X2.joinF (λ(q:Nb Xgt)=>⟨fr [(1,(Lf (List.map (X14 false X0) Xun))),(3,(AV.ptr 0 0 0)),(5,(AV.ptr 1 0 0)),(7,(aB Xvn)),(8,(Lt (Xvm.map Xi))),(9,(Lt (Xvl.map X1))),(11,(aI .i64 Xb6)),(12,(AV.ref 2 0 (Xcd.length))),(13,(aI .i64 Xdt))],hp ([(0,Ob [(Xk false X95)] 10),(1,Ob [(X1 X9j)] 3),(2,Ob (List.set (List.map (X14 false X0) Xcd) (Int.toNat Xb6) (slE q.1 3 (Xgt.map X0))) 1)]++opE q.1 3 5 (Xgt.map X0)),4⟩) ?_ (λJ=>X2.cut ?_)
    ·
     rintro Xpp;rcases Xpp with ⟨_|_,Xqj⟩
     ·
      exact X8 [.wrap] (k:=wkT [] (ih  _ _ nbF o h C0))
     obtain rfl:=Xqj rfl;exact X8 [.wrap] (k:=wkT [] (ih  _ _ nbS o h C0))
    clear h;revert h802;refine brI (λh797=>?_) λh797=>?_
    ·
     refine bI λe798 h799=>?_;try have qh799:=Xl h799
     refine bI λu800 h801=>?_;intro h;obtain rfl:=oj h;exact X8 [Bt,.el ((AV.ref 3 0 (Xb5.length))),.ld ((AV.ref 3 0 (Xb5.length))),.no,.el ((AV.ref 3 0 (Xb5.length))),.ld ((AV.ref 3 0 (Xb5.length)))] (o:=by repeat' first|apply Ya|exact pcM|exact(Xzx h799)|(refine X03 h801 rfl ?_;first|(simp<;>omega)|(simp[h776,h797]<;>omega))|(refine Xq h801 (by decide) ?_;first|(simp<;>omega)|(simp[h776,h797]<;>omega))|exact X05) (k:=wkT [(3,13)] (X2.glue (J nbF)))
    intro h;obtain rfl:=oj h;exact X8 [Bf] (k:=wkT [] (X2.glue (J nbF)))
   clear h;revert h790;refine brI (λh785=>?_) λh785=>?_
   ·
    intro h;obtain rfl:=oj h;exact X8 [Gf,Gf,Gf,Gf,Gf,Gf,Gf,Gf,Gf,Gf,Gf,Gt] (k:=wkT [] (X2.glue J))
   refine bI λm786 h787=>?_;obtain⟨qah787,qbh787,qch787,qh787⟩:=X20 h787;have qlh787:=X4t h787;refine bI λv788 h789=>?_;intro h;obtain rfl:=oj h;exact X8 [Gt,Gt,Gt,Gt,Gt,Gt,.el (X14 false X0 e774),Gt,Gt,Gt,.via (Lf (m786.map X0)),Gt,.pure _ (aI .i64 v788),Gt] (o:=by repeat' first|apply Ya|exact pcM|(simp at qah787 qbh787 qch787 ⊢;omega)|(rw[qh787];simp[Ym,Yd];done)|exact X05) (k:=wkT [] (X2.glue J))
  obtain rfl:=Xwy rfl;refine X2.round ?_;revert h;refine bI λe803 h804=>?_;try have qh804:=Xl h804
  refine brI (λh805=>?_) λh805=>λe=>X8 [.el (X14 false X0 e803),.el (aI .i64 (e803.length:Int)),Bf] (k:=wkT [] (C0 _  nbS (oj e).symm));refine bI λe806 h807=>?_;try have qh807:=Xl h807
  refine bI λXz7 h819=>rnI [.el (X14 false X0 e803),.el (aI .i64 (e803.length:Int)),Bt,.el (X14 false X0 e803),.el (X0 e806),.stop 17] ?_;intro h;refine X2.join (s':=⟨fr [(1,(Lf (List.map (X14 false X0) Xun))),(3,(AV.ptr 0 0 0)),(5,(AV.ptr 1 0 0)),(7,(aB Xvn)),(8,(Lt (Xvm.map Xi))),(9,(Lt (Xvl.map X1))),(11,(aI .i64 Xb6)),(12,(AV.ref 2 0 (Xcd.length))),(13,(aI .i64 Xdt)),(14,(AV.ptr 4 0 0)),(92,(aB Xz7))],hp ([(0,Ob [(Xk false X95)] 10),(1,Ob [(X1 X9j)] 3),(2,Ob (List.set (List.map (X14 false X0) Xcd) (Int.toNat Xb6) AV.nils) 1),(4,Ob [(X0 e806)] 5)]),5⟩) ?_ (λJ=>X2.cut ?_)
  ·
   revert h;refine bI λXmx h831=>rnI [] ?_;intro h;refine X2.joinF (λ(q:Nb Xmx)=>⟨fr [(1,(Lf (List.map (X14 false X0) Xun))),(3,(AV.ptr 0 0 0)),(5,(AV.ptr 1 0 0)),(7,(aB Xvn)),(8,(Lt (Xvm.map Xi))),(9,(Lt (Xvl.map X1))),(11,(aI .i64 Xb6)),(12,(AV.ref 2 0 (Xcd.length))),(13,(aI .i64 Xdt))],hp ([(0,Ob [(Xk false X95)] 10),(1,Ob [(X1 X9j)] 3),(2,Ob (List.set (List.map (X14 false X0) Xcd) (Int.toNat Xb6) (slE q.1 3 (Xmx.map X0))) 1)]++opE q.1 3 5 (Xmx.map X0)),4⟩) ?_ (λJ=>X2.cut ?_)
   ·
    rintro Xpn;rcases Xpn with ⟨_|_,Xqh⟩
    ·
     exact X8 [.wrap] (k:=wkT [] (ih  _ _ nbF o h C0))
    obtain rfl:=Xqh rfl;exact X8 [.wrap] (k:=wkT [] (ih  _ _ nbS o h C0))
   clear h;revert h831;refine brI (λh826=>?_) λh826=>?_
   ·
    refine bI λe827 h828=>?_;try have qh828:=Xl h828
    refine bI λu829 h830=>?_;intro h;obtain rfl:=oj h;exact X8 [Bt,.el (AV.nils),.ld (AV.nils),.no,.el (AV.nils),.ld (AV.nils)] (o:=by repeat' first|apply Ya|exact pcM|exact(Xzx h828)|(refine X03 h830 rfl ?_;first|(simp<;>omega)|(simp[h805,h826]<;>omega))|(refine Xq h830 (by decide) ?_;first|(simp<;>omega)|(simp[h805,h826]<;>omega))|exact X05) (k:=wkT [(3,13)] (X2.glue (J nbF)))
   intro h;obtain rfl:=oj h;exact X8 [Bf] (k:=wkT [] (X2.glue (J nbS)))
  clear h;revert h819;refine brI (λh814=>?_) λh814=>?_
  ·
   intro h;obtain rfl:=oj h;exact X8 [Gf,Gf,Gf,Gf,Gf,Gf,Gf,Gf,Gf,Gf,Gf,Gt] (k:=wkT [] (X2.glue J))
  refine bI λm815 h816=>?_;obtain⟨qah816,qbh816,qch816,qh816⟩:=X20 h816;have qlh816:=X4t h816;refine bI λv817 h818=>?_;intro h;obtain rfl:=oj h;exact X8 [Gt,Gt,Gt,Gt,Gt,Gt,.el (X14 false X0 e803),Gt,Gt,Gt,.via (Lf (m815.map X0)),Gt,.pure _ (aI .i64 v817),Gt] (o:=by repeat' first|apply Ya|exact pcM|(simp at qah816 qbh816 qch816 ⊢;omega)|(rw[qh816];simp[Ym,Yd];done)|exact X05) (k:=wkT [] (X2.glue J))
end Go.Av.Tryz