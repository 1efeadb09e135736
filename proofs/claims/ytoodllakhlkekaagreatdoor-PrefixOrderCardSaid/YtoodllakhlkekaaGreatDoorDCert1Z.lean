/- Printed by decomp.py: that the program computes the functions. -/
import Derived.Test.YtoodllakhlkekaaGreatDoorDCert0Z
set_option linter.all false

namespace Go.Av.Tryz
open Go.Proofs Go.D
set_option maxRecDepth 10000
set_option maxHeartbeats 40000000
theorem X49 {Q:Xc->St->Mu->Prop} {μ:Mu} (Xd7:Xb) (Xez:Xb) (Xey:X1v) (Xsl:Bool):∀ (n:Nat) (X8r:(List X1v)) (Xah:Int) (X68:Nb X8r) (o:X14) (h:X03 Xd7 Xez Xey Xsl ([]:List Xk) ([]:List X1v) ([]:List Xk) n X8r Xah=some o)
  (C0:∀ (X3v:(List X1v)) (X52:Nb X3v),o=X14.x0 X3v ([]:List Xk) ([]:List X1v) ([]:List Xk)->Xd Tryz.prog 195 0 Q (.exit (.exit 0)) [] ⟨fr [(4,(AV.ptr 0 0 0)),(5,(AV.ptr 1 0 0)),(7,(AV.ptr 2 0 0)),(9,(aB Xsl)),(10,(AV.ptr 3 0 0)),(11,(AV.ptr 6 0 0))],hp ([(0,Ob [(Xe false Xd7)] 2),(1,Ob [(Xe false Xez)] 2),(2,Ob [(Xj Xey)] 5),(3,Ob [AV.agg [(slE X52.1 4 (X3v.map Xj)),(slE true 5 (List.map Xg ([]:List Xk)))]] 2),(6,Ob [AV.agg [(slE true 7 (List.map Xj ([]:List X1v))),(slE true 8 (List.map Xg ([]:List Xk)))]] 2)]++opE X52.1 4 5 (X3v.map Xj)++opE true 5 3 (List.map Xg ([]:List Xk))++opE true 7 5 (List.map Xj ([]:List X1v))++opE true 8 3 (List.map Xg ([]:List Xk))),9⟩ μ),
  Xd Tryz.prog 195 0 Q (.loop (X6w 0 (X3 Tryz.f3))) [] ⟨fr [(4,(AV.ptr 0 0 0)),(5,(AV.ptr 1 0 0)),(7,(AV.ptr 2 0 0)),(9,(aB Xsl)),(10,(AV.ptr 3 0 0)),(11,(AV.ptr 6 0 0)),(12,(aI .i64 Xah))],hp ([(0,Ob [(Xe false Xd7)] 2),(1,Ob [(Xe false Xez)] 2),(2,Ob [(Xj Xey)] 5),(3,Ob [AV.agg [(slE X68.1 4 (X8r.map Xj)),(slE true 5 (List.map Xg ([]:List Xk)))]] 2),(6,Ob [AV.agg [(slE true 7 (List.map Xj ([]:List X1v))),(slE true 8 (List.map Xg ([]:List Xk)))]] 2)]++opE X68.1 4 5 (X8r.map Xj)++opE true 5 3 (List.map Xg ([]:List Xk))++opE true 7 5 (List.map Xj ([]:List X1v))++opE true 8 3 (List.map Xg ([]:List Xk))),9⟩ μ:=by
 intro n
 induction n with
 |zero=>intro X8r Xah X68 o h C0;cases h
 |succ n ih =>
  intro X8r Xah X68 o h C0;rw[X03] at h;rcases X68 with ⟨_|_,Xmh⟩
  ·
   refine Xd.round ?_;revert h;refine brI (λh257=>?_) λh257=>λe=>X0a [Bf] (k:=wkT [] (C0 _ nbF (oj e).symm));refine bI λe258 h259=>?_;try have qh259:=X6z h259
   refine bI λu260 h261=>rnI [Bt,.el (Xj e258),.no,.wrap] (o:=by repeat' first|apply Ya|exact pcM|(refine X01 h261 rfl ?_;first|(simp<;>omega)|(simp[h257]<;>omega))|(refine Xm h261 (by decide) ?_;first|(simp<;>omega)|(simp[h257]<;>omega))|exact X0p) ?_;intro h;exact wkT [(4,17)] (ih  _ _ nbF o h C0)
  obtain rfl:=Xmh rfl;refine Xd.round ?_;revert h;refine brI (λh297=>?_) λh297=>λe=>X0a [Bf] (k:=wkT [] (C0 _ nbS (oj e).symm));refine bI λe298 h299=>?_;try have qh299:=X6z h299
  refine bI λu300 h301=>rnI [Bt,.el (Xj e298),.no,.wrap] (o:=by repeat' first|apply Ya|exact pcM|(refine X01 h301 rfl ?_;first|(simp<;>omega)|(simp[h297]<;>omega))|(refine Xm h301 (by decide) ?_;first|(simp<;>omega)|(simp[h297]<;>omega))|exact X0p) ?_;intro h;exact wkT [(4,17)] (ih  _ _ nbF o h C0)
theorem X1x {Q:Xc->St->Mu->Prop} {μ:Mu} (Xd6:Xb) (Xex:Xb) (Xew:X1v) (Xsh:Bool) (X8q:(List X1v)) (X67:Nb X8q):∀ (n:Nat) (X8p:(List Xk)) (Xag:Int) (X53:Nb X8p) (o:X13) (h:X02 Xd6 Xex Xew Xsh X8q ([]:List X1v) ([]:List Xk) n X8p Xag=some o)
  (C0:∀ (X3i:(List Xk)) (X2t:Nb X3i),o=X13.x0 X8q X3i ([]:List X1v) ([]:List Xk)->Xd Tryz.prog 195 0 Q (.exit (.exit 2)) [] ⟨fr [(4,(AV.ptr 0 0 0)),(5,(AV.ptr 1 0 0)),(7,(AV.ptr 2 0 0)),(9,(aB Xsh)),(10,(AV.ptr 3 0 0)),(11,(AV.ptr 6 0 0))],hp ([(0,Ob [(Xe false Xd6)] 2),(1,Ob [(Xe false Xex)] 2),(2,Ob [(Xj Xew)] 5),(3,Ob [AV.agg [(slE X67.1 4 (X8q.map Xj)),(slE X2t.1 5 (X3i.map Xg))]] 2),(6,Ob [AV.agg [(slE true 7 (List.map Xj ([]:List X1v))),(slE true 8 (List.map Xg ([]:List Xk)))]] 2)]++opE X67.1 4 5 (X8q.map Xj)++opE X2t.1 5 3 (X3i.map Xg)++opE true 7 5 (List.map Xj ([]:List X1v))++opE true 8 3 (List.map Xg ([]:List Xk))),9⟩ μ),
  Xd Tryz.prog 195 0 Q (.loop (X6w 1 (X3 Tryz.f3))) [] ⟨fr [(4,(AV.ptr 0 0 0)),(5,(AV.ptr 1 0 0)),(7,(AV.ptr 2 0 0)),(9,(aB Xsh)),(10,(AV.ptr 3 0 0)),(11,(AV.ptr 6 0 0)),(13,(aI .i64 Xag))],hp ([(0,Ob [(Xe false Xd6)] 2),(1,Ob [(Xe false Xex)] 2),(2,Ob [(Xj Xew)] 5),(3,Ob [AV.agg [(slE X67.1 4 (X8q.map Xj)),(slE X53.1 5 (X8p.map Xg))]] 2),(6,Ob [AV.agg [(slE true 7 (List.map Xj ([]:List X1v))),(slE true 8 (List.map Xg ([]:List Xk)))]] 2)]++opE X67.1 4 5 (X8q.map Xj)++opE X53.1 5 3 (X8p.map Xg)++opE true 7 5 (List.map Xj ([]:List X1v))++opE true 8 3 (List.map Xg ([]:List Xk))),9⟩ μ:=by
 intro n
 induction n with
 |zero=>intro X8p Xag X53 o h C0;cases h
 |succ n ih =>
  intro X8p Xag X53 o h C0;rw[X02] at h;rcases X67 with ⟨_|_,Xmg⟩
  ·
   rcases X53 with ⟨_|_,Xa2⟩
   ·
    refine Xd.round ?_;revert h;refine brI (λh480=>?_) λh480=>λe=>X0a [Bf] (k:=wkT [] (C0 _ nbF (oj e).symm));refine bI λe481 h482=>?_;try have qh482:=X6z h482
    refine bI λu483 h484=>rnI [Bt,.el (Xg e481),.no,.wrap] (o:=by repeat' first|apply Ya|exact pcM|(refine X01 h484 rfl ?_;first|(simp<;>omega)|(simp[h480]<;>omega))|(refine Xm h484 (by decide) ?_;first|(simp<;>omega)|(simp[h480]<;>omega))|exact X0p) ?_;intro h;exact wkT [(5,17)] (ih  _ _ nbF o h C0)
   obtain rfl:=Xa2 rfl;refine Xd.round ?_;revert h;refine brI (λh500=>?_) λh500=>λe=>X0a [Bf] (k:=wkT [] (C0 _ nbS (oj e).symm));refine bI λe501 h502=>?_;try have qh502:=X6z h502
   refine bI λu503 h504=>rnI [Bt,.el (Xg e501),.no,.wrap] (o:=by repeat' first|apply Ya|exact pcM|(refine X01 h504 rfl ?_;first|(simp<;>omega)|(simp[h500]<;>omega))|(refine Xm h504 (by decide) ?_;first|(simp<;>omega)|(simp[h500]<;>omega))|exact X0p) ?_;intro h;exact wkT [(5,17)] (ih  _ _ nbF o h C0)
  obtain rfl:=Xmg rfl;rcases X53 with ⟨_|_,Xa2⟩
  ·
   refine Xd.round ?_;revert h;refine brI (λh520=>?_) λh520=>λe=>X0a [Bf] (k:=wkT [] (C0 _ nbF (oj e).symm));refine bI λe521 h522=>?_;try have qh522:=X6z h522
   refine bI λu523 h524=>rnI [Bt,.el (Xg e521),.no,.wrap] (o:=by repeat' first|apply Ya|exact pcM|(refine X01 h524 rfl ?_;first|(simp<;>omega)|(simp[h520]<;>omega))|(refine Xm h524 (by decide) ?_;first|(simp<;>omega)|(simp[h520]<;>omega))|exact X0p) ?_;intro h;exact wkT [(5,17)] (ih  _ _ nbF o h C0)
  obtain rfl:=Xa2 rfl;refine Xd.round ?_;revert h;refine brI (λh540=>?_) λh540=>λe=>X0a [Bf] (k:=wkT [] (C0 _ nbS (oj e).symm));refine bI λe541 h542=>?_;try have qh542:=X6z h542
  refine bI λu543 h544=>rnI [Bt,.el (Xg e541),.no,.wrap] (o:=by repeat' first|apply Ya|exact pcM|(refine X01 h544 rfl ?_;first|(simp<;>omega)|(simp[h540]<;>omega))|(refine Xm h544 (by decide) ?_;first|(simp<;>omega)|(simp[h540]<;>omega))|exact X0p) ?_;intro h;exact wkT [(5,17)] (ih  _ _ nbF o h C0)
end Go.Av.Tryz