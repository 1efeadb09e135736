/- Printed by decomp.py: that the program computes the functions. -/
import Derived.Test.YtednehploaffcaaGreatDoorDCert4Z
set_option linter.all false

namespace Go.Av.Tryz
open Go.Proofs Go.D Go.Proofs.Tryz
set_option maxRecDepth 10000
set_option maxHeartbeats 40000000
instance Xwg:PZ 64 (∀ (a0:X6) (r:X6),X8b a0=some r->Pz 64 [(Xa false a0)] (Xa true r)):=⟨λa0 r=>by
 unfold X8b;exact psI fn64 16<|bI λv1 h2=>bI λv3 h4=>bI λv5 h6=>λe=>oj e▸X8 [.pure _ (Lt (v1.map X0)),.pure _ (Lt (List.map (aI .i64) v3)),.pure _ (Lt (v5.map X0))] (k:=fi)⟩
instance X041:PZ 108 (∀ (a0:(List X1)) (r:(List Bool)×Int),Xde a0=some r->Pz 108 [(Lf (a0.map X0))] (AV.tup [(Lt (r.1.map aB)),(aI .i64 r.2)])):=⟨λa0 r=>by
 unfold Xde;exact psI X0fs 24<|bI λv1 h2=>brI (λh3=>λe=>oj e▸X8 [.pure _ (AV.tup [(aB v1.1),(aI .i64 v1.2.1),(aI .i64 v1.2.2)]),Bt] (k:=fi)) λh3=>bI λv4 h5=>λe=>oj e▸X8 [.pure _ (AV.tup [(aB v1.1),(aI .i64 v1.2.1),(aI .i64 v1.2.2)]),Bf,.pure _ (AV.tup [(Lt (v4.1.map aB)),(aI .i64 v4.2)])] (k:=fi)⟩
instance X01l:PZ 137 (∀ (a0:(List X1)) (a1:Int) (r:Int×Int),Xbg a0 a1=some r->Pz 137 [(Lf (a0.map X0)),(aI .i64 a1)] (AV.tup [(aI .i64 r.1),(aI .i64 r.2)])):=⟨λa0 a1 r=>by
 unfold Xbg;refine psI X0fb 29<|bI λv1 h2=>brI (λh3=>λe=>oj e▸X8 [.pure _ (AV.tup [(Lt (v1.1.map X3)),(aI .i64 v1.2)]),Bt] (k:=fi)) λh3=>brI (λh4=>λe=>oj e▸X8 [.pure _ (AV.tup [(Lt (v1.1.map X3)),(aI .i64 v1.2)]),Bf,.el (aI .i64 (v1.1.length:Int)),Bt] (k:=fi)) λh4=>bI λe5 h6=>?_;try have qh6:=Xo h6
 exact λe=>oj e▸X8 [.pure _ (AV.tup [(Lt (v1.1.map X3)),(aI .i64 v1.2)]),Bf,.el (aI .i64 (v1.1.length:Int)),Bf,.el (X3 e5)] (k:=fi)⟩
theorem Xbf {Q:Qt} {μ:Mu} (X3n:Int) (X35:Int):∀ (n:Nat) (Xs:(List X1)) (X9q:Int) (X31:Nb Xs) (o:X8q) (h:X34 X3n X35 n Xs X9q=some o)
  (C0:∀ (X0n:(List X1)) (X2d:Nb X0n),o=X8q.x0 X0n->Sx 49 Q [(5,(slE X2d.1 0 (X0n.map X0)))] ([]++opE X2d.1 0 5 (X0n.map X0)) 1 μ),
  Sl 49 Q f138 [(1,(aI .i64 X3n)),(5,(slE X31.1 0 (Xs.map X0))),(12,(aI .i64 X35)),(13,(aI .i64 X9q))] ([]++opE X31.1 0 5 (Xs.map X0)) 1 μ:=by
 intro n
 induction n with
 |zero=>intro Xs X9q X31 o h C0;cases h
 |succ n ih =>
  intro Xs X9q X31 o h C0;rw[X34] at h;rcases X31 with ⟨_|_,X95⟩
  ·
   refine X9.round ?_;revert h;refine brI (λh85=>?_) λh85=>λe=>X8 [Bf] (k:=wkT [] (C0 _  nbF (oj e).symm));refine bI λe86 h87=>?_;try have qh87:=Xo h87
   refine bI λv88 h89=>bI λXkz h93=>rnI [Bt,.el (X0 e86),.ld (X0 e86),.pure _ (AV.tup [(aI .i64 v88.1),(aI .i64 v88.2)])] ?_;intro h;refine X9.joinF (λ(q:Nb Xkz)=>⟨fr [(1,(aI .i64 X3n)),(5,(slE q.1 0 (Xkz.map X0))),(6,(aI .i64 X9q)),(7,(aI .i64 v88.1)),(12,(aI .i64 X35)),(13,(aI .i64 X9q))],hp ([]++opE q.1 0 5 (Xkz.map X0)),1⟩) ?_ (λJ=>X9.cut ?_)
   ·
    rintro Xx9;rcases Xx9 with ⟨_|_,Xxz⟩
    ·
     revert h;refine bI λXq7 h101=>rnI [] ?_;intro h;refine X9.joinF (λ(q:Nb Xq7)=>⟨fr [(1,(aI .i64 X3n)),(5,(slE q.1 0 (Xq7.map X0))),(12,(aI .i64 X35)),(13,(aI .i64 X9q))],hp ([]++opE q.1 0 5 (Xq7.map X0)),1⟩) ?_ (λJ=>X9.cut ?_)
     ·
      rintro Xx8;rcases Xx8 with ⟨_|_,Xxy⟩
      ·
       exact X8 [.wrap] (k:=wkT [] (ih  _ _ nbF o h C0))
      obtain rfl:=Xxy rfl;exact X8 [.wrap] (k:=wkT [] (ih  _ _ nbS o h C0))
     clear h;revert h101;refine brI (λh98=>?_) λh98=>?_
     ·
      refine bI λe99 h100=>?_;try have qh100:=Xo h100
      intro h;obtain rfl:=oj h;exact X8 [Bt,.el (X0 e99),.ld (X0 e99),.wrap,.el (X0 e99),.ld (X0 e99)] (o:=by repeat' first|apply Ya|exact pcM|exact(List.getElem?_set_self (by have hq:=X80 h100;simp;omega)).trans rfl|exact X0y) (k:=wkT [] (X9.glue (J nbF)))
     intro h;obtain rfl:=oj h;exact X8 [Bf] (k:=wkT [] (X9.glue (J nbF)))
    obtain rfl:=Xxz rfl;revert h;refine bI λXs0 h109=>rnI [] ?_;intro h;refine X9.joinF (λ(q:Nb Xs0)=>⟨fr [(1,(aI .i64 X3n)),(5,(slE q.1 0 (Xs0.map X0))),(12,(aI .i64 X35)),(13,(aI .i64 X9q))],hp ([]++opE q.1 0 5 (Xs0.map X0)),1⟩) ?_ (λJ=>X9.cut ?_)
    ·
     rintro Xug;rcases Xug with ⟨_|_,Xuq⟩
     ·
      exact X8 [.wrap] (k:=wkT [] (ih  _ _ nbF o h C0))
     obtain rfl:=Xuq rfl;exact X8 [.wrap] (k:=wkT [] (ih  _ _ nbS o h C0))
    clear h;revert h109;refine brI (λh106=>?_) λh106=>?_
    ·
     refine bI λe107 h108=>?_;try have qh108:=Xo h108
     intro h
     first|exact absurd (h108) (by simp[getI];done)|(simp[getI,h85,h106] at h;done)|(simp[h85,h106] at hg;done)|exact absurd (h108) (by simp[getI,h85,h106];done)
    intro h;obtain rfl:=oj h;exact X8 [Bf] (k:=wkT [] (X9.glue (J nbS)))
   clear h;revert h93;refine brI (λh92=>?_) λh92=>?_
   ·
    intro h;obtain rfl:=oj h;exact X8 [Bt,.el (X0 e86),.ld (X0 e86),.wrap,.el (X0 e86),.ld (X0 e86)] (o:=by repeat' first|apply Ya|exact pcM|exact(List.getElem?_set_self (by have hq:=X80 h87;simp;omega)).trans rfl|exact X0y) (k:=wkT [] (X9.glue (J nbF)))
   intro h;obtain rfl:=oj h;exact X8 [Bf] (k:=wkT [] (X9.glue (J nbF)))
  obtain rfl:=X95 rfl;refine X9.round ?_;revert h;refine brI (λh110=>?_) λh110=>λe=>X8 [Bf] (k:=wkT [] (C0 _  nbS (oj e).symm));refine bI λe111 h112=>?_;try have qh112:=Xo h112
  intro h
  first|exact absurd (h112) (by simp[getI];done)|(simp[getI,h110] at h;done)|(simp[h110] at hg;done)|exact absurd (h112) (by simp[getI,h110];done)
instance X007:PZ 138 (∀ (a0:(List X1)) (a1:Int) (r:(List X1)),X68 a0 a1=some r->Pz 138 [(Lf (a0.map X0)),(aI .i64 a1)] (Lt (r.map X0))):=⟨λa0 a1 r=>by
 unfold X68;refine psI X0fa 49<|bI λXq8 h12=>rnI [] ?_;intro h;refine X9.joinOpF (λ(q:Nb Xq8)=>⟨fr [(1,(aI .i64 a1)),(10,(slE q.1 0 (Xq8.map X0)))],hp ([]++opE q.1 0 5 (Xq8.map X0)),1⟩) ?_ (λJ=>?_)
 ·
  rintro X01u;rcases X01u with ⟨_|_,X02i⟩
  ·
   revert h;refine bI λo113 h114=>rnI [.el (aI .i64 (Xq8.length:Int))] ?_;intro h;refine wkT [] (X9.cut (Xbf a1 (Xq8.length:Int) _ _ _ nbF _ h114 ?_));intro X0n X2d eo113;subst eo113;refine X9.glue ?_;try dsimp only at h
   rcases X2d with ⟨_|_,X7t⟩<;>(try obtain rfl:=X7t rfl);all_goals
    revert h;exact λe=>oj e▸X8 [] (k:=fi)
  obtain rfl:=X02i rfl;revert h;refine bI λo187 h188=>rnI [.el (aI .i64 (List.length ([]:List X1):Int))] ?_;intro h;refine wkT [] (X9.cut (Xbf a1 (List.length ([]:List X1):Int) _ _ _ nbS _ h188 ?_));intro X0n X2d eo187;subst eo187;refine X9.glue ?_;try dsimp only at h
  rcases X2d with ⟨_|_,X7t⟩<;>(try obtain rfl:=X7t rfl);all_goals
   revert h;exact λe=>oj e▸X8 [] (k:=fi)
 clear h;revert h12;intro h;refine X9.inline Xh fn19 rfl rfl rfl rfl rfl trivial trivial rfl rfl ?_;revert h;refine brI (λq=>?_) λq=>?_
 ·
  intro h;have h7:a0=[]:=List.isEmpty_iff.1 q;refine X1j [] ?_;refine X9.eqNil Xh (may:=true) rfl rfl rfl rfl rfl rfl trivial (by simp[X6y, *]) λb8 qb8=>?_;cases b8
  ·
   obtain rfl:=oj h;refine X1j [Bf,.ne false] ?_;refine X9.back (by intro id h;cases h) rfl ?_;exact wkT [] ((J nbS))
  obtain rfl:=oj h;refine X1j [Bt] ?_;refine X9.back (by intro id h;cases h) rfl ?_;exact wkT [] ((J nbS))
 intro h;have h7:¬ (a0=[]):=(λe=>by rw[e] at q;cases q);refine X1j [] ?_;refine X9.eqNil Xh (may:=false) rfl rfl rfl rfl rfl rfl trivial (by simp[X6y, *]) λb9 qb9=>?_;obtain rfl:=qb9 rfl;revert h;refine bI λu10 h11=>?_;intro h;obtain rfl:=oj h;refine X1j [Bf,.via (Lt (a0.map X0))] (o:=by repeat' first|apply Ya|exact pcM|(refine X14 h11 rfl ?_;first|(simp<;>omega)|(simp[h7]<;>omega))|(refine X03 h11 (by decide) ?_;first|(simp<;>omega)|(simp[h7]<;>omega))|exact X0y) ?_;refine X9.back (by intro id h;cases h) rfl ?_;exact wkT [(0,1)] ((J nbF))⟩
instance X01m:PZ 111 (∀ (a0:(List X1)) (a1:Int) (r:(List X1)×Int),Xbh a0 a1=some r->Pz 111 [(Lf (a0.map X0)),(aI .i64 a1)] (AV.tup [(Lt (r.1.map X0)),(aI .i64 r.2)])):=⟨λa0 a1 r=>by
 unfold Xbh;refine psI X0fq 30<|bI λv1 h2=>brI (λh3=>λe=>oj e▸X8 [.pure _ (AV.tup [(aI .i64 v1.1),(aI .i64 v1.2)]),Bt] (k:=fi)) λh3=>bI λm4 h5=>?_;obtain⟨qah5,qbh5,qch5,qh5⟩:=X42 h5;have qlh5:=X7l h5;exact bI λv6 h7=>λe=>oj e▸X8 [.pure _ (AV.tup [(aI .i64 v1.1),(aI .i64 v1.2)]),Bf,.wrap,.wrap,.wrap,.via (Lf (m4.map X0)),.wrap,.pure _ (Lt (v6.map X0))] (o:=by repeat' first|apply Ya|exact pcM|(simp at qah5 qbh5 qch5 ⊢;omega)|(rw[qh5];simp[Ym,Yd];done)|exact X0y) (k:=fi)⟩
instance Xr0:PZ 115 (∀ (a0:X1) (r:Bool),X2j a0=some r->Pz 115 [(X0 a0)] (aB r)):=⟨λa0 r=>by
 unfold X2j;refine psI X0fm 17<|bI λj3_2 h6=>rnI [.stop 2] ?_;exact jnI ⟨fr [(2,(aB j3_2))],hp ([]),0⟩ h6 (λe=>oj e▸X8 [] (k:=fi)) λJ=>brI (λh4=>λe=>X8 [Gf,Gf,Gf,Gf,Gf,Gf] (o:=by repeat' first|apply Ya|exact pcM|exact fq (X5 h4 rfl)|exact X0y) (k:=wJ [] J)) λh4=>brI (λh5=>λe=>X8 [Gt,Gt,Gt,Gf,Gf,Gf] (o:=by repeat' first|apply Ya|exact pcM|exact fq (Xb h4 h5)|exact X0y) (k:=wJ [] J)) λh5=>λe=>X8 [Gt,Gt,Gt,Gt,Gt,Gt] (o:=by repeat' first|apply Ya|exact pcM|exact fq (Xb h4 h5)|exact X0y) (k:=wJ [] J)⟩
theorem X7f {Q:Qt} {μ:Mu} (X0f:(List X1)) (hl:X0f.length<=140737488355328):Dr X0f λxs k=>∀ o,Lq Tryz.prog 19 0 Q μ o (fun|.x0=>(.exit 0,⟨fr [],hp ([]),0⟩)|.x1 X83=>(.ret,⟨fr [(4,(aI .i64 X83))],hp ([]),0⟩))
  (X3l 0 (X1g Tryz.f142)) ⟨fr [(0,(Lf (X0f.map X0))),(1,(AV.fn 115 [])),(7,(aI .i64 (X0f.length:Int))),(8,(aI .i64 (k:Int)))],hp ([]),0⟩ (X06 X0f xs k ):=by
 refine drI ?_ ?_
 ·
  intro k hk hc  o C;rw[X06];exact rdI<|λe=>X8 [Bf] (k:=wC e C)
 ·
  intro x xs k hk hg hc ih  o C;rw[X06];exact rdI<|bI λv10 h11=>brI (λh12=>λe=>X8 [Bt,.el (X0 x),.pure _ (aB v10),Bt] (k:=wC e C)) λh12=>rnK [Bt,.el (X0 x),.pure _ (aB v10),Bf] (k:=wkI [] (ih   o C))
theorem X3o (a0:(List X1)) (r:Int) (h:X0k a0=some r):Pz 142 [(Lf (a0.map X0)),(AV.fn 115 [])] (aI .i64 r):=by
 refine X8t.sym Xh X0f8 (nt:=19) rfl rfl ?_ okM;unfold X0k at h;revert h;refine bI λu1 h2=>?_;have qh2:=X1b h2;refine bI λo13 h14=>rnI [.el (aI .i64 (a0.length:Int))] ?_;intro h;refine wkT [] (X9.cut (drA (X7f a0 qh2) _ ?_ h14));revert h;rcases o13 with _|⟨X83⟩
 ·
  exact lGI rfl λe=>oj e▸X8 [] (k:=fi)
 exact lGI rfl λe=>oj e▸X8 [] (k:=fi)
theorem X3f (a0:(List X1)) (r:Bool) (h:X0c a0=some r):Pz 116 [(Lf (a0.map X0)),(AV.fn 115 [])] (aB r):=by
 refine X8t.sym Xh X0fl (nt:=9) rfl rfl ?_ okM;unfold X0c at h;revert h;exact bI λv1 h2=>λe=>oj e▸X8 [.pure [(Lf (a0.map X0)),(AV.fn 115 [])] (aI .i64 v1)] (o:=by repeat' first|apply Ya|exact pcM|exact(pn (X3o _ _ h2) (cc (X0z (Xr X1e a0)) (cc .fn0 cn)))|exact X0y) (k:=fi)
instance Xts:PZ 87 (∀ (a0:(List X1)) (r:Bool×Int),X5a a0=some r->Pz 87 [(Lf (a0.map X0))] (AV.tup [(aB r.1),(aI .i64 r.2)])):=⟨λa0 r=>by
 unfold X5a;exact psI fn87 15<|bI λv1 h2=>brI (λh3=>λe=>oj e▸X8 [.pure _ (aI .i64 v1),Bt] (k:=fi)) λh3=>bI λv4 h5=>λe=>oj e▸X8 [.pure _ (aI .i64 v1),Bf,.pure [(Lf (a0.map X0)),(AV.fn 115 [])] (aB v4)] (o:=by repeat' first|apply Ya|exact pcM|exact(pn (X3f _ _ h5) (cc (X0z (Xr X1e a0)) (cc .fn0 cn)))|exact X0y) (k:=fi)⟩
instance X00g:PZ 143 (∀ (a0:(List X1)) (r:Int),Xac a0=some r->Pz 143 [(Lf (a0.map X0))] (aI .i64 r)):=⟨λa0 r=>by
 unfold Xac;exact psI X0f7 13<|bI λv1 h2=>λe=>oj e▸X8 [.pure _ (AV.tup [(aB v1.1),(aI .i64 v1.2.1),(aI .i64 v1.2.2)])] (k:=fi)⟩
instance X02a:PZ 155 (∀ (a0:Bool) (r:Int),X3g a0=some r->Pz 155 [(aB a0)] (aI .i64 r)):=⟨λa0 r=>by
 unfold X3g;exact psI X0f4 4<|brI (λh1=>λe=>oj e▸X8 [Bt] (k:=fi)) λh1=>λe=>oj e▸X8 [Bf] (k:=fi)⟩
instance Xn3:PZ 144 (∀ (a0:Int) (a1:Int) (a2:Int) (r:Int×Int),Xcg a0 a1 a2=some r->Pz 144 [(aI .u8 a0),(aI .i64 a1),(aI .i64 a2)] (AV.tup [(aI .i64 r.1),(aI .i64 r.2)])):=⟨λa0 a1 a2 r=>by
 unfold Xcg;refine psI X0f6 97<|brI (λh1=>λe=>oj e▸X8 [Bt,.wrap] (k:=fi)) λh1=>brI (λh2=>bI λv3 h4=>λe=>oj e▸X8 [Bf,Bt,.pure _ (aI .i64 v3)] (k:=fi)) λh2=>brI (λh5=>λe=>oj e▸X8 [Bf,Bf,Bt,.wrap] (k:=fi)) λh5=>brI (λh6=>λe=>oj e▸X8 [Bf,Bf,Bf,Bt,.wrap] (k:=fi)) λh6=>brI (λh7=>λe=>oj e▸X8 [Bf,Bf,Bf,Bf,Bt,.wrap] (k:=fi)) λh7=>brI (λh8=>bI λu9 h10=>λe=>oj e▸X8 [Bf,Bf,Bf,Bf,Bf,Bt,.wrap] (k:=fi)) λh8=>brI (λh11=>bI λu12 h13=>λe=>oj e▸X8 [Bf,Bf,Bf,Bf,Bf,Bf,Bt] (k:=fi)) λh11=>brI (λh14=>bI λv15 h16=>λe=>oj e▸X8 [Bf,Bf,Bf,Bf,Bf,Bf,Bf,Bt,.pure _ (aI .i64 v15)] (k:=fi)) λh14=>brI (λh17=>bI λv18 h19=>λe=>oj e▸X8 [Bf,Bf,Bf,Bf,Bf,Bf,Bf,Bf,Bt,.pure _ (aI .i64 v18)] (k:=fi)) λh17=>brI (λh20=>bI λv21 h22=>λe=>oj e▸X8 [Bf,Bf,Bf,Bf,Bf,Bf,Bf,Bf,Bf,Bt,.pure _ (aI .i64 v21)] (k:=fi)) λh20=>brI (λh23=>bI λv24 h25=>λe=>oj e▸X8 [Bf,Bf,Bf,Bf,Bf,Bf,Bf,Bf,Bf,Bf,Bt,.pure _ (aI .i64 v24)] (k:=fi)) λh23=>brI (λh26=>bI λv27 h28=>λe=>oj e▸X8 [Bf,Bf,Bf,Bf,Bf,Bf,Bf,Bf,Bf,Bf,Bf,Bt,.pure _ (aI .i64 v27)] (k:=fi)) λh26=>brI (λh29=>bI λv30 h31=>λe=>oj e▸X8 [Bf,Bf,Bf,Bf,Bf,Bf,Bf,Bf,Bf,Bf,Bf,Bf,Bt,.pure _ (aI .i64 v30)] (k:=fi)) λh29=>brI (λh32=>bI λv33 h34=>λe=>oj e▸X8 [Bf,Bf,Bf,Bf,Bf,Bf,Bf,Bf,Bf,Bf,Bf,Bf,Bf,Bt,.pure _ (aI .i64 v33)] (k:=fi)) λh32=>rnI [Bf,Bf,Bf,Bf,Bf,Bf,Bf,Bf,Bf,Bf,Bf,Bf,Bf,Bf] ?_;exact brI (λh35=>bI λv36 h37=>λe=>oj e▸X8 [Bt,.pure _ (aI .i64 v36)] (k:=fi)) λh35=>λe=>oj e▸X8 [Bf] (k:=fi)⟩
theorem Xlc {Q:Qt} {μ:Mu} (Xs:(V5 Int)) (Xk1:(List X1)) (hl:Xk1.length<=140737488355328):∀ (xs:List X1) (k:Nat) (hx:Xk1.drop k=xs) (Xc:(List Int)) (o:X81) (h:X24 Xs Xk1 xs k Xc=some o)
  (C0:∀ (X0n:(List Int)),o=X81.x0 X0n->Sx 80 Q [(8,(AV.ref 0 0 (X0n.length)))] ([(0,Ob (List.map (aI .i64) X0n) 1)]) 1 μ)
  (C1:∀ (X0e:(List Int)) (Xmk:Int) (X0g:Nb X0e),o=X81.x1 X0e Xmk->Sr 80 Q [(4,(slE X0g.1 0 (List.map (aI .i64) X0e))),(5,(aI .i64 Xmk))] ([]++opE X0g.1 0 1 (List.map (aI .i64) X0e)) 1 μ),
  Sl 80 Q f117 [(7,(AV.ptr 0 0 0)),(8,(AV.ref 1 0 (Xc.length))),(28,(Lf (Xk1.map X0))),(29,(aI .i64 (Xk1.length:Int))),(30,(aI .i64 (k:Int)))] ([(0,Ob [(Xee Xs)] 5),(1,Ob (List.map (aI .i64) Xc) 1)]) 2 μ:=by
 intro xs
 induction xs with
 |nil =>
  intro k hx Xc o h C0 C1;have hk:=drop_nil hx;have hc:=lpN hx;rw[X24] at h;refine X9.round ?_;revert h;exact λe=>X8 [Bf] (k:=wkT [(0,1)] (C0 _  (oj e).symm))
 |cons x xs ih =>
  intro k hx Xc o h C0 C1;obtain⟨hk,hg,hx1⟩:=drop_cons hx;have hc:=lpC hx;rw[X24] at h;refine X9.round ?_;revert h;refine brI (λh87=>?_) λh87=>?_
  ·
   refine bI λe88 h89=>?_;try have qh89:=Xo h89
   refine rnI [Bt,.el (X0 x),Bt,.el (aI .i64 e88),.ld (aI .i64 e88)] (o:=by repeat' first|apply Ya|exact pcM|exact(List.getElem?_set_self (by have hq:=X80 h89;simp;omega)).trans rfl|exact X0y) ?_;intro h;exact wkT [] (ih (k+1) hx1 _ o h C0 C1)
  refine brI (λh90=>?_) λh90=>?_
  ·
   refine bI λXoh h116=>rnI [Bt,.el (X0 x),Bf,Bt,.stop 16] ?_;refine jnI ⟨fr [(7,(AV.ptr 0 0 0)),(8,(AV.ref 1 0 (Xoh.length))),(28,(Lf (Xk1.map X0))),(29,(aI .i64 (Xk1.length:Int))),(30,(aI .i64 (k:Int)))],hp ([(0,Ob [(Xee Xs)] 5),(1,Ob (List.map (aI .i64) Xoh) 1)]),2⟩ h116 ?_ λJ=>?_
   ·
    refine rnI [] ?_;intro h;exact wkT [] (ih (k+1) hx1 _ o h C0 C1)
   refine brI (λh104=>?_) λh104=>?_
   ·
    refine bI λe105 h106=>?_;try have qh106:=Xo h106
    exact λe=>X8 [.ix 0,.el (aI .i64 e105),.ld (aI .i64 e105)] (o:=by repeat' first|apply Ya|exact pcM|exact((eq_of_beq h104))|exact(List.getElem?_set_self (by have hq:=X80 h106;simp;omega)).trans rfl|exact X0y) (k:=wJ [] J)
   refine brI (λh107=>?_) λh107=>?_
   ·
    refine bI λe108 h109=>?_;try have qh109:=Xo h109
    exact λe=>X8 [.ix 2,.el (aI .i64 e108),.ld (aI .i64 e108)] (o:=by repeat' first|apply Ya|exact pcM|exact((eq_of_beq h107))|exact(List.getElem?_set_self (by have hq:=X80 h109;simp;omega)).trans rfl|exact X0y) (k:=wJ [] J)
   refine brI (λh110=>?_) λh110=>?_
   ·
    refine bI λe111 h112=>?_;try have qh112:=Xo h112
    exact λe=>X8 [.ix 3,.el (aI .i64 e111),.ld (aI .i64 e111)] (o:=by repeat' first|apply Ya|exact pcM|exact((eq_of_beq h110))|exact(List.getElem?_set_self (by have hq:=X80 h112;simp;omega)).trans rfl|exact X0y) (k:=wJ [] J)
   refine brI (λh113=>?_) λh113=>?_
   ·
    refine bI λe114 h115=>?_;try have qh115:=Xo h115
    exact λe=>X8 [.ix 4,.el (aI .i64 e114),.ld (aI .i64 e114)] (o:=by repeat' first|apply Ya|exact pcM|exact((eq_of_beq h113))|exact(List.getElem?_set_self (by have hq:=X80 h115;simp;omega)).trans rfl|exact X0y) (k:=wJ [] J)
   intro h;cases h
  refine bI λe117 h118=>?_;try have qh118:=Xo h118
  refine bI λe119 h120=>?_;try have qh120:=Xo h120
  refine bI λv121 h122=>rnI [Bt,.el (X0 x),Bf,Bf,.el (aI .i64 e117),.ld (aI .i64 e117),.el (aI .i64 e119),.ld (aI .i64 e119),.pure _ (AV.tup [(aI .i64 v121.1),(aI .i64 v121.2)])] ?_;refine brI (λh123=>λe=>X8 [Bt] (k:=wkT [] (C1 _ _  nbS (oj e).symm))) λh123=>bI λe124 h125=>?_;try have qh125:=Xo h125
  refine rnI [Bf,.el (aI .i64 e124),.ld (aI .i64 e124)] (o:=by repeat' first|apply Ya|exact pcM|exact(List.getElem?_set_self (by have hq:=X80 h125;simp;omega)).trans rfl|exact X0y) ?_;intro h;exact wkT [] (ih (k+1) hx1 _ o h C0 C1)
instance X04b:PZ 117 (∀ (a0:(List X1)) (a1:X04) (r:(List Int)×Int),Xdq a0 a1=some r->Pz 117 [(Lf (a0.map X0)),(X1x a1)] (AV.tup [(Lt (List.map (aI .i64) r.1)),(aI .i64 r.2)])):=⟨λa0 a1 r=>by
 unfold Xdq;refine psI X0fk 80<|bI λv1 h2=>brI (λh3=>λe=>oj e▸X8 [.pure _ (aI .i64 v1),Bt] (k:=fi)) λh3=>bI λu4 h5=>?_;have qh5:=Xxd h5;refine bI λu6 h7=>?_;have qh7:=X1b h7;refine bI λo126 h127=>rnI [.pure _ (aI .i64 v1),Bf,.el (aI .i64 (a0.length:Int)),.el (aI .i64 (a0.length:Int))] (o:=by repeat' first|apply Ya|exact pcM|exact(Int.le_trans qh5.2.2 (by decide))|exact om|exact X0y) ?_;intro h;refine wkT [(0,1),(1,2)] (X9.cut (Xlc (V5.mk 0 0 a1.Key a1.Time a1.Value) a0 qh7 a0 0 (by simp) _ _ h127 ?_ ?_))
 ·
  intro X0n eo126;subst eo126;refine X9.glue ?_;try dsimp only at h
  revert h;exact λe=>oj e▸X8 [] (k:=fi)
 intro X0e Xmk X0g eo126;subst eo126;refine X9.glue ?_;try dsimp only at h
 rcases X0g with ⟨_|_,X45⟩<;>(try obtain rfl:=X45 rfl);all_goals
  revert h;exact λe=>oj e▸X8 [] (k:=fi)⟩
instance Xs6:PZ 88 (∀ (a0:(List X1)) (a1:X04) (r:Int×Int),X9a a0 a1=some r->Pz 88 [(Lf (a0.map X0)),(X1x a1)] (AV.tup [(aI .i64 r.1),(aI .i64 r.2)])):=⟨λa0 a1 r=>by
 unfold X9a;refine psI fn88 23<|bI λv1 h2=>brI (λh3=>λe=>oj e▸X8 [.pure _ (AV.tup [(Lt (List.map (aI .i64) v1.1)),(aI .i64 v1.2)]),Bt] (k:=fi)) λh3=>bI λe4 h5=>?_;try have qh5:=Xo h5
 exact λe=>oj e▸X8 [.pure _ (AV.tup [(Lt (List.map (aI .i64) v1.1)),(aI .i64 v1.2)]),Bf,.el (aI .i64 (v1.1.length:Int)),.wrap,.el (aI .i64 e4)] (k:=fi)⟩
instance X00d:PZ 66 (∀ (a0:(List X1)) (r:Int×Bool×Int),X7u a0=some r->Pz 66 [(Lf (a0.map X0))] (AV.tup [(aI .i64 r.1),(aB r.2.1),(aI .i64 r.2.2)])):=⟨λa0 r=>by
 unfold X7u;exact psI fn66 41<|bI λv1 h2=>brI (λh3=>λe=>oj e▸X8 [.pure _ (AV.tup [(aB v1.1),(aI .i64 v1.2.1),(aI .i64 v1.2.2)]),Bt] (k:=fi)) λh3=>bI λv4 h5=>brI (λh6=>λe=>oj e▸X8 [.pure _ (AV.tup [(aB v1.1),(aI .i64 v1.2.1),(aI .i64 v1.2.2)]),Bf,.pure _ (AV.tup [(aB v4.1),(aI .i64 v4.2)]),Bt] (k:=fi)) λh6=>bI λv7 h8=>λe=>oj e▸X8 [.pure _ (AV.tup [(aB v1.1),(aI .i64 v1.2.1),(aI .i64 v1.2.2)]),Bf,.pure _ (AV.tup [(aB v4.1),(aI .i64 v4.2)]),Bf,.pure _ (AV.tup [(aI .i64 v7.1),(aI .i64 v7.2)])] (k:=fi)⟩
theorem Xdm (a0:Int) (a1:Int) (r:(List X1)) (h:X58 a0 a1=some r):Pz 139 [(aI .i64 a0),(AV.elem false ((aI .i64) a1) 0)] (Lt (r.map X0)):=by
 refine X8t.sym Xh X0br (nt:=8) rfl rfl ?_ okM;unfold X58 at h;revert h;exact λe=>oj e▸X8 [] (k:=fi)
theorem Xx3 {P:Prop} (h:P:=by repeat' first|apply Ya|exact pcM|(refine X14 h82 rfl ?_;first|(simp<;>omega)|(simp[hc,h73,h76]<;>omega))|(refine X03 h82 (by decide) ?_;first|(simp<;>omega)|(simp[hc,h73,h76]<;>omega))|exact X0y):P:=h
theorem Xx2 {P:Prop} (h:P:=by repeat' first|apply Ya|exact pcM|(refine X14 h82 rfl ?_;first|(simp<;>omega)|(simp[hc,h73,h76,h85]<;>omega))|(refine X03 h82 (by decide) ?_;first|(simp<;>omega)|(simp[hc,h73,h76,h85]<;>omega))|exact X0y):P:=h
theorem Xx1 {P:Prop} (h:P:=by repeat' first|apply Ya|exact pcM|(refine X14 h98 rfl ?_;first|(simp<;>omega)|(simp[hc,h89,h92]<;>omega))|(refine X03 h98 (by decide) ?_;first|(simp<;>omega)|(simp[hc,h89,h92]<;>omega))|exact X0y):P:=h
theorem Xx0 {P:Prop} (h:P:=by repeat' first|apply Ya|exact pcM|(refine X14 h98 rfl ?_;first|(simp<;>omega)|(simp[hc,h89,h92,h101]<;>omega))|(refine X03 h98 (by decide) ?_;first|(simp<;>omega)|(simp[hc,h89,h92,h101]<;>omega))|exact X0y):P:=h
theorem Xix {Q:Qt} {μ:Mu} (Xef:(List (List X1))) (hl:Xef.length<=140737488355328):∀ (xs:List (List X1)) (k:Nat) (hx:Xef.drop k=xs) (Xs:X1) (Xc:(List X1)) (X00:Nb Xc) (o:X6x) (h:X27 Xef xs k Xs Xc=some o)
  (C0:∀ (X0n:X1) (X0j:(List X1)) (X10:Nb X0j),o=X6x.x0 X0n X0j->Sx 94 Q [(12,(AV.ptr 0 0 0)),(13,(slE X10.1 1 (X0j.map X0)))] ([(0,Ob [(X0 X0n)] 5)]++opE X10.1 1 5 (X0j.map X0)) 2 μ)
  (C1:∀ (X0e:(List X1)) (Xcs:Int) (X0g:Nb X0e),o=X6x.x1 X0e Xcs->Sr 94 Q [(8,(slE X0g.1 0 (X0e.map X0))),(9,(aI .i64 Xcs))] ([]++opE X0g.1 0 5 (X0e.map X0)) 1 μ),
  Sl 94 Q f140 [(12,(AV.ptr 0 0 0)),(13,(slE X00.1 1 (Xc.map X0))),(55,(Lf (List.map (X82 false X0) Xef))),(56,(aI .i64 (Xef.length:Int))),(57,(aI .i64 (k:Int)))] ([(0,Ob [(X0 Xs)] 5)]++opE X00.1 1 5 (Xc.map X0)) 2 μ:=by
 intro xs
 induction xs with
 |nil =>
  intro k hx Xs Xc X00 o h C0 C1;have hk:=drop_nil hx;have hc:=lpN hx;rw[X27] at h;rcases X00 with ⟨_|_,X12⟩
  ·
   refine X9.round ?_;revert h;exact λe=>X8 [Bf] (k:=wkT [] (C0 _ _  nbF (oj e).symm))
  ·
   obtain rfl:=X12 rfl;refine X9.round ?_;revert h;exact λe=>X8 [Bf] (k:=wkT [] (C0 _ _  nbS (oj e).symm))
 |cons x xs ih =>
  intro k hx Xs Xc X00 o h C0 C1;obtain⟨hk,hg,hx1⟩:=drop_cons hx;have hc:=lpC hx;rw[X27] at h;rcases X00 with ⟨_|_,X12⟩
  ·
   refine X9.round ?_;revert h;refine bI λv71 h72=>brI (λh73=>λe=>X8 [Bt,.el (X82 false X0 x),.pure _ (aI .i64 v71),Bt] (k:=wkT [] (C1 _ _  nbS (oj e).symm))) λh73=>?_;refine bI λv74 h75=>brI (λq=>?_) λq=>?_
   ·
    intro h;have h76:v74=[]:=List.isEmpty_iff.1 q;revert h;refine bI λXxl h80=>rnI [Bt,.el (X82 false X0 x),.pure _ (aI .i64 v71),Bf,.el (aI .i64 (Xc.length:Int)),.pure _ (Lt (v74.map X0)),.ne false] ?_;refine jnI ⟨fr [(12,(AV.ptr 0 0 0)),(13,(AV.ref 1 0 (Xc.length))),(55,(Lf (List.map (X82 false X0) Xef))),(56,(aI .i64 (Xef.length:Int))),(57,(aI .i64 (k:Int)))],hp ([(0,Ob [(X0 Xxl)] 5),(1,Ob (List.map X0 (Xc++v74)) 5)]),2⟩ h80 ?_ λJ=>brI (λh79=>λe=>X8 [Bt,.el (aI .i64 (List.length (Xc++v74):Int)),.wrap] (k:=wJ [] J)) λh79=>λe=>X8 [Bf,.el (aI .i64 (List.length (Xc++v74):Int)),.wrap] (k:=wJ [] J);refine rnI [] ?_;intro h;exact wkT [] (ih (k+1) hx1 _ _ nbF o h C0 C1)
   intro h;have h76:¬ (v74=[]):=(λe=>by rw[e] at q;cases q);revert h;refine bI λu81 h82=>bI λXxk h86=>rnI [Bt,.el (X82 false X0 x),.pure _ (aI .i64 v71),Bf,.el (aI .i64 (Xc.length:Int)),.pure _ (Lt (v74.map X0)),.via (Lt (v74.map X0))] (o:=Xx3) ?_;refine jnI ⟨fr [(12,(AV.ptr 0 0 0)),(13,(AV.ref 1 0 (List.length (Xc++v74)))),(55,(Lf (List.map (X82 false X0) Xef))),(56,(aI .i64 (Xef.length:Int))),(57,(aI .i64 (k:Int)))],hp ([(0,Ob [(X0 Xxk)] 5),(1,Ob (List.map X0 (Xc++v74)) 5)]),2⟩ h86 ?_ λJ=>brI (λh85=>λe=>X8 [Bt,.el (aI .i64 (List.length (Xc++v74):Int)),.wrap] (o:=Xx2) (k:=wJ [(1,2)] J)) λh85=>λe=>X8 [Bf,.el (aI .i64 (List.length (Xc++v74):Int)),.wrap] (o:=Xx2) (k:=wJ [(1,2)] J);refine rnI [] (o:=Xx3) ?_;intro h;exact wkT [] (ih (k+1) hx1 _ _ nbF o h C0 C1)
  obtain rfl:=X12 rfl;refine X9.round ?_;revert h;refine bI λv87 h88=>brI (λh89=>λe=>X8 [Bt,.el (X82 false X0 x),.pure _ (aI .i64 v87),Bt] (k:=wkT [] (C1 _ _  nbS (oj e).symm))) λh89=>?_;refine bI λv90 h91=>brI (λq=>?_) λq=>?_
  ·
   intro h;have h92:v90=[]:=List.isEmpty_iff.1 q;revert h;refine bI λX0b6 h96=>rnI [Bt,.el (X82 false X0 x),.pure _ (aI .i64 v87),Bf,.el (aI .i64 (List.length ([]:List X1):Int)),.pure _ (Lt (v90.map X0)),.ne false] ?_;refine jnI ⟨fr [(12,(AV.ptr 0 0 0)),(13,AV.nils),(55,(Lf (List.map (X82 false X0) Xef))),(56,(aI .i64 (Xef.length:Int))),(57,(aI .i64 (k:Int)))],hp ([(0,Ob [(X0 X0b6)] 5)]),2⟩ h96 ?_ λJ=>brI (λh95=>λe=>X8 [Bt,.el (aI .i64 (List.length (([]:List X1)++v90):Int)),.wrap] (k:=wJ [] J)) λh95=>λe=>X8 [Bf,.el (aI .i64 (List.length (([]:List X1)++v90):Int)),.wrap] (k:=wJ [] J);refine rnI [] ?_;intro h;exact wkT [] (ih (k+1) hx1 _ _ nbS o h C0 C1)
  intro h;have h92:¬ (v90=[]):=(λe=>by rw[e] at q;cases q);revert h;refine bI λu97 h98=>bI λX07c h102=>rnI [Bt,.el (X82 false X0 x),.pure _ (aI .i64 v87),Bf,.el (aI .i64 (List.length ([]:List X1):Int)),.pure _ (Lt (v90.map X0)),.via (Lt (v90.map X0))] (o:=Xx1) ?_;refine jnI ⟨fr [(12,(AV.ptr 0 0 0)),(13,(AV.ref 1 0 (List.length (([]:List X1)++v90)))),(55,(Lf (List.map (X82 false X0) Xef))),(56,(aI .i64 (Xef.length:Int))),(57,(aI .i64 (k:Int)))],hp ([(0,Ob [(X0 X07c)] 5),(1,Ob (List.map X0 (([]:List X1)++v90)) 5)]),2⟩ h102 ?_ λJ=>brI (λh101=>λe=>X8 [Bt,.el (aI .i64 (List.length (([]:List X1)++v90):Int)),.wrap] (o:=Xx0) (k:=wJ [(1,2)] J)) λh101=>λe=>X8 [Bf,.el (aI .i64 (List.length (([]:List X1)++v90):Int)),.wrap] (o:=Xx0) (k:=wJ [(1,2)] J);refine rnI [] (o:=Xx1) ?_;intro h;exact wkT [] (ih (k+1) hx1 _ _ nbF o h C0 C1)
end Go.Av.Tryz