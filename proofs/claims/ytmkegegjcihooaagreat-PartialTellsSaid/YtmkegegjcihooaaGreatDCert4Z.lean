/- Printed by decomp.py: that the program computes the functions. -/
import Derived.Test.YtmkegegjcihooaaGreatDCert3Z
set_option linter.all false

namespace Go.Av.Tryz
open Go.Proofs Go.D
set_option maxRecDepth 100000
set_option maxHeartbeats 40000000
instance X03g:PCs Tryz.prog 254 (∀ (a0:(List X02)) (r:(List Xh)×Bool),Xg3 a0=some r->X05 Tryz.prog 254 [(Lf (a0.map X2))] (AV.tup [(Lt (r.1.map X7)),(aB r.2)])):=⟨λa0 r h=>by
 refine X05.sym X9 X0ca (nt:=105) rfl rfl ?_ okM;unfold Xg3 at h;revert h;refine bI λu1 h2=>?_;have qh2:=X0l h2;refine bI λo475 h476=>rnI [.el (aI .i64 (a0.length:Int))] ?_;intro h;refine wkT [] (X0.cut (Xkn a0 qh2 a0 0 (by simp) _ _ nbS nbS _ h476 ?_ ?_))
 ·
  intro Xz X0y X0f X2k eo475;subst eo475;refine X0.glue ?_;try dsimp only at h
  rcases X0f with ⟨_|_,X4s⟩<;>(try obtain rfl:=X4s rfl);all_goals
   rcases X2k with ⟨_|_,Xa0⟩
   ·
    revert h;exact λe=>oj e▸X3 [.el (aI .i64 (X0y.length:Int))] (k:=fi)
   obtain rfl:=Xa0 rfl;revert h;exact λe=>oj e▸X3 [.el (aI .i64 (List.length ([]:List Xh):Int))] (k:=fi)
 intro X2o X2u eo475;subst eo475;refine X0.glue ?_;try dsimp only at h
 rcases X2u with ⟨_|_,Xdw⟩<;>(try obtain rfl:=Xdw rfl);all_goals
  revert h;exact λe=>oj e▸X3 [] (k:=fi)⟩
instance X01u:PCs Tryz.prog 212 (∀ (a0:(List X02)) (r:(List Xh)×Int),Xca a0=some r->X05 Tryz.prog 212 [(Lf (a0.map X2))] (AV.tup [(Lt (r.1.map X7)),(aI .i64 r.2)])):=⟨λa0 r h=>by
 refine X05.sym X9 X0cp (nt:=25) rfl rfl ?_ okM;unfold Xca at h;revert h;refine brI (λh1=>λe=>oj e▸X3 [.el (aI .i64 (a0.length:Int)),Bt] (k:=fi)) λh1=>bI λv2 h3=>brI (λh4=>λe=>oj e▸X3 [.el (aI .i64 (a0.length:Int)),Bf,.pure _ (AV.tup [(Lt (v2.1.map X7)),(aB v2.2)]),Bt] (k:=fi)) λh4=>bI λe5 h6=>?_;try have qh6:=Xi h6
 refine rnI [.el (aI .i64 (a0.length:Int)),Bf,.pure _ (AV.tup [(Lt (v2.1.map X7)),(aB v2.2)]),Bf,.el (aI .i64 (v2.1.length:Int)),.wrap,.el (X7 e5)] ?_;exact brI (λh7=>λe=>oj e▸X3 [Bt] (k:=fi)) λh7=>λe=>oj e▸X3 [Bf] (k:=fi)⟩
instance X01w:PCs Tryz.prog 148 (∀ (a0:(List X02)) (r:Int),X6a a0=some r->X05 Tryz.prog 148 [(Lf (a0.map X2))] (aI .i64 r)):=⟨λa0 r h=>by
 refine X05.sym X9 X0dg (nt:=11) rfl rfl ?_ okM;unfold X6a at h;revert h;exact bI λv1 h2=>λe=>oj e▸X3 [.pure _ (AV.tup [(Lt (v1.1.map X7)),(aI .i64 v1.2)])] (k:=fi)⟩
instance Xrp:PCs Tryz.prog 213 (∀ (a0:Int) (r:Bool),X6o a0=some r->X05 Tryz.prog 213 [(aI .i64 a0)] (aB r)):=⟨λa0 r h=>by
 refine X05.sym X9 X0co (nt:=9) rfl rfl ?_ okM;unfold X6o at h;revert h;exact λe=>oj e▸X3 [] (k:=fi)⟩
theorem Xac {Q:Xp->St->Mu->Prop} {μ:Mu} (X08:(List Int)) (hl:X08.length<=140737488355328):∀ (xs:List Int) (k:Nat) (hx:X08.drop k=xs) (o:X1x) (h:X0m X08 xs k  = some o)
  (C0:o=X1x.x0->X0 Tryz.prog 19 0 Q (.exit (.exit 0)) [] ⟨fr [],hp ([]),0⟩ μ)
  (C1:∀ (Xnt:Int),o=X1x.x1 Xnt->X0 Tryz.prog 19 0 Q (.exit .ret) [] ⟨fr [(4,(aI .i64 Xnt))],hp ([]),0⟩ μ),
  X0 Tryz.prog 19 0 Q (.loop (X0w 0 (Xd Tryz.f255))) [] ⟨fr [(0,(Lf (List.map (aI .i64) X08))),(1,(AV.fn 213 [])),(7,(aI .i64 (X08.length:Int))),(8,(aI .i64 (k:Int)))],hp ([]),0⟩ μ:=by
 intro xs
 induction xs with
 |nil =>
  intro k hx  o h C0 C1;have hk:=X06 hx;have hc:decide ((k:Int)<(X08.length:Int))=false:=Yf om;rw[X0m] at h;refine X0.round ?_;revert h;exact λe=>X3 [Bf] (k:=wkT [] (C0  (oj e).symm))
 |cons x xs ih =>
  intro k hx  o h C0 C1;obtain⟨hk,hg,hx1⟩:=Xy hx;have hc:decide ((k:Int)<(X08.length:Int))=true:=Yt om;rw[X0m] at h;refine X0.round ?_;revert h;refine bI λv10 h11=>brI (λh12=>λe=>X3 [Bt,.el (aI .i64 x),.pure _ (aB v10),Bt] (k:=wkT [] (C1 _  (oj e).symm))) λh12=>rnI [Bt,.el (aI .i64 x),.pure _ (aB v10),Bf] ?_;intro h;exact wkT [] (ih (k+1) hx1  o h C0 C1)
theorem X4o (a0:(List Int)) (r:Int) (h:X0k a0=some r):X05 Tryz.prog 255 [(Lf (List.map (aI .i64) a0)),(AV.fn 213 [])] (aI .i64 r):=by
 refine X05.sym X9 X0c9 (nt:=19) rfl rfl ?_ okM;unfold X0k at h;revert h;refine bI λu1 h2=>?_;have qh2:=X0l h2;refine bI λo13 h14=>rnI [.el (aI .i64 (a0.length:Int))] ?_;intro h;refine wkT [] (X0.cut (Xac a0 qh2 a0 0 (by simp) _ h14 ?_ ?_))
 ·
  intro eo13;subst eo13;refine X0.glue ?_;try dsimp only at h
  revert h;exact λe=>oj e▸X3 [] (k:=fi)
 intro Xnt eo13;subst eo13;refine X0.glue ?_;try dsimp only at h
 revert h;exact λe=>oj e▸X3 [] (k:=fi)
theorem X1o (a0:(List Int)) (r:Bool) (h:Xx a0=some r):X05 Tryz.prog 214 [(Lf (List.map (aI .i64) a0)),(AV.fn 213 [])] (aB r):=by
 refine X05.sym X9 X0cn (nt:=9) rfl rfl ?_ okM;unfold Xx at h;revert h;exact bI λv1 h2=>λe=>oj e▸X3 [.pure [(Lf (List.map (aI .i64) a0)),(AV.fn 213 [])] (aI .i64 v1)] (o:=by repeat' first|apply Ya|exact pcM|exact(pn (X4o _ _ h2) (cc (X1c (X0p (λ_=>Xgo) a0)) (cc .fn0 cn)))|exact X04) (k:=fi)
theorem Xyy (z:Int):∀ (ks:List Int),Xkv (.int .i64 z) (.bool true) (ks.map Xng)=(Xmo ks z).map Xng:=by
 intro ks;unfold Xmo
 induction ks with
 |nil=>simp[Xkv,Xng]
 |cons a r ih =>
  simp only[List.map_cons,Xng,Xkv];by_cases h:a=z
  ·subst h;simp[Xng]
  have h1:¬ (Value.int .i64 a=Value.int .i64 z):=by simpa using h
  rw[if_neg h1];have ih':Xkv (.int .i64 z) (.bool true) (r.map Xng)=(if z∈r then r else r++[z]).map Xng:=ih;rw[ih'];have h2:¬ z=a:=λe=>h e.symm;by_cases hz:z∈r<;>simp[hz,h2,Xng]
theorem Xem {Q:Xp->St->Mu->Prop} {μ:Mu} (b:Nat) (l:List Int) (hl:l.length<=140737488355328):∀ (xs:List Int) (k:Nat) (hx:l.drop k=xs) (ks:List Int)
  (C:X0 Tryz.prog 18 0 Q (.exit (.exit 0)) [] ⟨fr [(3,.sc (.map (some b)))],hp [],0⟩ ((b,(Xag ks xs).map Xng)::μ)),
  X0 Tryz.prog 18 0 Q (.loop (X0w 0 (Xd Tryz.f215))) [] ⟨fr [(3,.sc (.map (some b))),(7,AV.list false (List.map (aI .i64) l)),(8,aI .i64 (l.length:Int)),(9,aI .i64 (k:Int))],hp [],0⟩ ((b,ks.map Xng)::μ):=by
 intro xs
 induction xs with
 |nil =>
  intro k hx ks C;have hk:=X06 hx;have hc:decide ((k:Int)<(l.length:Int))=false:=Yf om;refine X0.round ?_;refine rn tmD [Bf] rfl (by repeat' first|apply Ya|exact hc|exact oblA) ?_;exact X0.weakTo [] C rfl (by repeat' first|apply Ya|exact wkA) trivial
 |cons x xs ih =>
  intro k hx ks C;obtain⟨hk,hg,hx1⟩:=Xy hx;have hc:decide ((k:Int)<(l.length:Int))=true:=Yt om;refine X0.round ?_;refine rn tmD [Bt,.el (aI .i64 x)] rfl (by repeat' first|apply Ya|exact hc|exact ixm hg|exact oblA) ?_;refine X0.mapUpd (d:=.int .i64) X9 rfl rfl rfl rfl rfl Tryz.underlying3 rfl rfl rfl trivial trivial trivial rfl (by
   intro p hp;obtain⟨z,_,rfl⟩:=List.mem_map.1 hp;rfl) ?_
  rw[Xyy];refine X1f [] ?_;exact X0.weakTo [] (ih (k+1) hx1 (Xmo ks x) C) rfl (by repeat' first|apply Ya|exact wkA) trivial
theorem X97 (a0:(List Int)) (r:Int) (h:X30 a0=some r):X05 Tryz.prog 215 [(Lf (List.map (aI .i64) a0))] (aI .i64 r):=by
 refine X05.sym X9 X0cm (nt:=18) rfl rfl ?_ (Xs .list X3k);unfold X30 at h;refine X0av h ?_;clear h;intro u h1 h;have q1:=X0l h1;obtain rfl:=oj h;refine X1f [] ?_;refine X0.mapNew rfl rfl rfl λb=>?_;refine X1f [] ?_;refine X0.weakTo [] (X0.cut (Xem b a0 q1 a0 0 (by simp) [] ?_)) rfl (by repeat' first|apply Ya|exact wkA) trivial;refine X0.glue ?_;refine X1f [] ?_;refine X0.mapLen X9 rfl rfl rfl rfl rfl rfl trivial ?_;rw[List.length_map];refine X1f [] ?_;exact X001 rfl .sc
instance Xul:PCs Tryz.prog 149 (∀ (a0:(List Int)) (a1:Bool) (r:Int),X28 a0 a1=some r->X05 Tryz.prog 149 [(Lf (List.map (aI .i64) a0)),(aB a1)] (aI .i64 r)):=⟨λa0 a1 r h=>by
 refine X05.sym X9 X0df (nt:=30) rfl rfl ?_ okM;unfold X28 at h;revert h;refine brI (λh1=>λe=>oj e▸X3 [.el (aI .i64 (a0.length:Int)),Bt] (k:=fi)) λh1=>bI λX06z h17=>rnI [.el (aI .i64 (a0.length:Int)),Bf,.stop 4] ?_;intro h;refine X0.join (s':=⟨fr [(0,(Lf (List.map (aI .i64) a0))),(24,(aB X06z))],hp ([]),0⟩) ?_ (λJ=>X0.cut ?_)
 ·
  revert h;refine brI (λh18=>λe=>oj e▸X3 [Bt] (k:=fi)) λh18=>?_;refine bI λv19 h20=>brI (λh21=>?_) λh21=>?_
  ·
   exact λe=>oj e▸X3 [Bf,.pure [(Lf (List.map (aI .i64) a0))] (aI .i64 v19),.el (aI .i64 (a0.length:Int)),Bt] (o:=by repeat' first|apply Ya|exact pcM|exact(pn (X97 _ _ h20) (cc (X1c (X0p (λ_=>Xgo) a0)) cn))|exact X04) (k:=fi)
  exact λe=>oj e▸X3 [Bf,.pure [(Lf (List.map (aI .i64) a0))] (aI .i64 v19),.el (aI .i64 (a0.length:Int)),Bf] (o:=by repeat' first|apply Ya|exact pcM|exact(pn (X97 _ _ h20) (cc (X1c (X0p (λ_=>Xgo) a0)) cn))|exact X04) (k:=fi)
 clear h;revert h17;refine brI (λh10=>?_) λh10=>?_
 ·
  intro h;obtain rfl:=oj h;exact X3 [.el (aI .i64 (a0.length:Int)),Gf,Gf,Gf,Gf,Gf,Gf,Gf,Gf,Gf] (o:=by repeat' first|apply Ya|exact pcM|exact fq (X6 h10 rfl)|exact X04) (k:=wkT [] (X0.glue J))
 refine brI (λh11=>?_) λh11=>?_
 ·
  refine brI (λh12=>?_) λh12=>?_
  ·
   intro h;obtain rfl:=oj h;exact X3 [.el (aI .i64 (a0.length:Int)),Gt,Gt,Gt,Gt,.el (aI .i64 (a0.length:Int)),Gt,Gt,Gf,Gf,Gf] (o:=by repeat' first|apply Ya|exact pcM|exact fq (X5 h10 (X6 h11 h12))|exact X04) (k:=wkT [] (X0.glue J))
  refine bI λv13 h14=>?_;intro h;obtain rfl:=oj h;exact X3 [.el (aI .i64 (a0.length:Int)),Gt,Gt,Gt,Gt,.el (aI .i64 (a0.length:Int)),Gt,Gt,Gt,Gt,Gt,.pure [(Lf (List.map (aI .i64) a0)),(AV.fn 213 [])] (aB v13)] (o:=by repeat' first|apply Ya|exact pcM|exact fq (X5 h10 (X6 h11 h12))|exact(pn (X1o _ _ h14) (cc (X1c (X0p (λ_=>Xgo) a0)) (cc .fn0 cn)))|exact X04) (k:=wkT [] (X0.glue J))
 refine bI λv15 h16=>?_;intro h;obtain rfl:=oj h;exact X3 [.el (aI .i64 (a0.length:Int)),Gt,Gt,Gf,Gf,Gf,Gt,Gt,Gt,Gt,.pure [(Lf (List.map (aI .i64) a0)),(AV.fn 213 [])] (aB v15)] (o:=by repeat' first|apply Ya|exact pcM|exact fq (X5 h10 (X5 h11 rfl))|exact(pn (X1o _ _ h16) (cc (X1c (X0p (λ_=>Xgo) a0)) (cc .fn0 cn)))|exact X04) (k:=wkT [] (X0.glue J))⟩
instance Xe1:PCs Tryz.prog 150 (∀ (a0:X5v) (r:Int),X1e a0=some r->X05 Tryz.prog 150 [(Xa2 a0)] (aI .i64 r)):=⟨λa0 r h=>by
 refine X05.sym X9 X0de (nt:=40) rfl rfl ?_ okM;unfold X1e at h;revert h;exact brI (λh1=>λe=>oj e▸X3 [Bt] (k:=fi)) λh1=>brI (λh2=>brI (λh3=>λe=>oj e▸X3 [Bf,Bt,.wrap,Bt] (k:=fi)) λh3=>λe=>oj e▸X3 [Bf,Bt,.wrap,Bf] (k:=fi)) λh2=>brI (λh4=>brI (λh5=>λe=>oj e▸X3 [Bf,Bf,Bt,Bt] (k:=fi)) λh5=>λe=>oj e▸X3 [Bf,Bf,Bt,Bf] (k:=fi)) λh4=>brI (λh6=>brI (λh7=>λe=>oj e▸X3 [Bf,Bf,Bf,Bt,Bt] (k:=fi)) λh7=>λe=>oj e▸X3 [Bf,Bf,Bf,Bt,Bf] (k:=fi)) λh6=>λe=>oj e▸X3 [Bf,Bf,Bf,Bf] (k:=fi)⟩
instance Xwp:PCs Tryz.prog 98 (∀ (a0:X1t) (r:Int),X98 a0=some r->X05 Tryz.prog 98 [(X22 false a0)] (aI .i64 r)):=⟨λa0 r h=>by
 refine X05.sym X9 fn98 (nt:=66) rfl rfl ?_ okM;unfold X98 at h;revert h;refine brI (λh1=>λe=>oj e▸X3 [Bt] (k:=fi)) λh1=>?_;refine brI (λh2=>?_) λh2=>?_
 ·
  refine bI λv3 h4=>brI (λh5=>λe=>oj e▸X3 [Bf,Bt,.pure _ (aI .i64 v3),Bt] (k:=fi)) λh5=>?_;refine brI (λh6=>?_) λh6=>bI λv16 h17=>brI (λh18=>λe=>oj e▸X3 [Bf,Bt,.pure _ (aI .i64 v3),Bf,.el (aI .i64 (a0.Where.length:Int)),Bf,.pure _ (aI .i64 v16),Bt] (k:=fi)) λh18=>brI (λh19=>λe=>oj e▸X3 [Bf,Bt,.pure _ (aI .i64 v3),Bf,.el (aI .i64 (a0.Where.length:Int)),Bf,.pure _ (aI .i64 v16),Bf,Bt] (k:=fi)) λh19=>bI λv20 h21=>λe=>oj e▸X3 [Bf,Bt,.pure _ (aI .i64 v3),Bf,.el (aI .i64 (a0.Where.length:Int)),Bf,.pure _ (aI .i64 v16),Bf,Bf,.pure _ (aI .i64 v20)] (k:=fi);refine bI λv7 h8=>brI (λh9=>λe=>oj e▸X3 [Bf,Bt,.pure _ (aI .i64 v3),Bf,.el (aI .i64 (a0.Where.length:Int)),Bt,.pure _ (aI .i64 v7),Bt] (k:=fi)) λh9=>bI λv10 h11=>rnI [Bf,Bt,.pure _ (aI .i64 v3),Bf,.el (aI .i64 (a0.Where.length:Int)),Bt,.pure _ (aI .i64 v7),Bf,.pure _ (aI .i64 v10)] ?_;exact brI (λh12=>λe=>oj e▸X3 [Bt] (k:=fi)) λh12=>brI (λh13=>λe=>oj e▸X3 [Bf,Bt] (k:=fi)) λh13=>bI λv14 h15=>λe=>oj e▸X3 [Bf,Bf,.pure _ (aI .i64 v14)] (k:=fi)
 refine brI (λh22=>λe=>oj e▸X3 [Bf,Bf,.el (aI .i64 (a0.Arg.length:Int)),Bt] (k:=fi)) λh22=>?_;refine brI (λh23=>?_) λh23=>?_
 ·
  refine bI λv24 h25=>rnI [Bf,Bf,.el (aI .i64 (a0.Arg.length:Int)),Bf,.el (aI .i64 (a0.Where.length:Int)),Bt,.pure _ (aI .i64 v24)] ?_;exact brI (λh26=>λe=>oj e▸X3 [Bt] (k:=fi)) λh26=>bI λv27 h28=>brI (λh29=>λe=>oj e▸X3 [Bf,.pure _ (aI .i64 v27),Bt] (k:=fi)) λh29=>brI (λh30=>λe=>oj e▸X3 [Bf,.pure _ (aI .i64 v27),Bf,Bt] (k:=fi)) λh30=>bI λv31 h32=>λe=>oj e▸X3 [Bf,.pure _ (aI .i64 v27),Bf,Bf,.pure _ (aI .i64 v31)] (k:=fi)
 refine bI λv33 h34=>rnI [Bf,Bf,.el (aI .i64 (a0.Arg.length:Int)),Bf,.el (aI .i64 (a0.Where.length:Int)),Bf,.pure _ (aI .i64 v33)] ?_;exact brI (λh35=>λe=>oj e▸X3 [Bt] (k:=fi)) λh35=>brI (λh36=>λe=>oj e▸X3 [Bf,Bt] (k:=fi)) λh36=>bI λv37 h38=>λe=>oj e▸X3 [Bf,Bf,.pure _ (aI .i64 v37)] (k:=fi)⟩
theorem X5k {Q:Xp->St->Mu->Prop} {μ:Mu} (Xj:(List Bool)) (Xa9:(V2 Bool)) (Xk2:(List Int)) (X01:Nb Xj) (hl:Xk2.length<=140737488355328):∀ (xs:List Int) (k:Nat) (hx:Xk2.drop k=xs) (o:X23) (h:X0b Xj Xa9 Xk2 xs k  = some o)
  (C0:o=X23.x0->X0 Tryz.prog 21 4 Q (.exit (.exit 0)) [] ⟨fr [],hp ([(0,Ob [(slE X01.1 1 (Xj.map aB))] 1),(2,Ob [(Xb3 Xa9)] 2),(3,Ob (List.map (aI .i64) Xk2) 1)]++opE X01.1 1 1 (Xj.map aB)),4⟩ μ)
  (C1:o=X23.x1->X0 Tryz.prog 21 4 Q (.exit .ret) [] ⟨fr [(5,(aB false))],hp ([(0,Ob [(slE X01.1 1 (Xj.map aB))] 1),(2,Ob [(Xb3 Xa9)] 2),(3,Ob (List.map (aI .i64) Xk2) 1)]++opE X01.1 1 1 (Xj.map aB)),4⟩ μ),
  X0 Tryz.prog 21 4 Q (.loop (X0w 0 (Xd Tryz.f280))) [] ⟨fr [(0,(aB false)),(2,(AV.ptr 0 0 0)),(8,(AV.ref 3 0 (Xk2.length))),(9,(aI .i64 (Xk2.length:Int))),(10,(aI .i64 (k:Int)))],hp ([(0,Ob [(slE X01.1 1 (Xj.map aB))] 1),(2,Ob [(Xb3 Xa9)] 2),(3,Ob (List.map (aI .i64) Xk2) 1)]++opE X01.1 1 1 (Xj.map aB)),4⟩ μ:=by
 intro xs
 induction xs with
 |nil =>
  intro k hx  o h C0 C1;have hk:=X06 hx;have hc:decide ((k:Int)<(Xk2.length:Int))=false:=Yf om;rw[X0b] at h;rcases X01 with ⟨_|_,X0x⟩<;>(try obtain rfl:=X0x rfl);all_goals
   refine X0.round ?_;revert h;exact λe=>X3 [Bf] (k:=wkT [] (C0  (oj e).symm))
 |cons x xs ih =>
  intro k hx  o h C0 C1;obtain⟨hk,hg,hx1⟩:=Xy hx;have hc:decide ((k:Int)<(Xk2.length:Int))=true:=Yt om;rw[X0b] at h;rcases X01 with ⟨_|_,X0x⟩
  ·
   refine X0.round ?_;revert h;refine bI λe3011 h3012=>?_;try have qh3012:=Xi h3012
   refine brI (λh3013=>λe=>X3 [Bt,.el (aI .i64 x),.ld (aI .i64 x),.el (aB e3011),.ld (aB e3011),Bt] (k:=wkT [] (C1  (oj e).symm))) λh3013=>rnI [Bt,.el (aI .i64 x),.ld (aI .i64 x),.el (aB e3011),.ld (aB e3011),Bf] ?_;intro h;exact wkT [] (ih (k+1) hx1  o h C0 C1)
  obtain rfl:=X0x rfl;refine X0.round ?_;revert h;refine bI λe3014 h3015=>?_;try have qh3015:=Xi h3015
  intro h
  first|exact absurd (h3015) (by simp[X14];done)|(simp[X14,hc] at h;done)|(simp[hc] at hg;done)|exact absurd (h3015) (by simp[X14,hc];done)
theorem X1i {Q:Xp->St->Mu->Prop} {μ:Mu} (Xj:(List Bool)) (Xmz:(List Int)) (X01:Nb Xj) (hl:Xmz.length<=140737488355328):∀ (xs:List Int) (k:Nat) (hx:Xmz.drop k=xs) (o:X1s) (h:X0d Xj Xmz xs k  = some o)
  (C0:o=X1s.x0->X0 Tryz.prog 21 4 Q (.exit (.exit 0)) [] ⟨fr [],hp ([(0,Ob [(slE X01.1 1 (Xj.map aB))] 1)]++opE X01.1 1 1 (Xj.map aB)),4⟩ μ)
  (C1:o=X1s.x1->X0 Tryz.prog 21 4 Q (.exit .ret) [] ⟨fr [(5,(aB false))],hp ([(0,Ob [(slE X01.1 1 (Xj.map aB))] 1)]++opE X01.1 1 1 (Xj.map aB)),4⟩ μ),
  X0 Tryz.prog 21 4 Q (.loop (X0w 0 (Xd Tryz.f280))) [] ⟨fr [(0,(aB true)),(2,(AV.ptr 0 0 0)),(8,(AV.ref 4 0 (Xmz.length))),(9,(aI .i64 (Xmz.length:Int))),(10,(aI .i64 (k:Int)))],hp ([(0,Ob [(slE X01.1 1 (Xj.map aB))] 1),(4,Ob (List.map (aI .i64) Xmz) 1)]++opE X01.1 1 1 (Xj.map aB)),5⟩ μ:=by
 intro xs
 induction xs with
 |nil =>
  intro k hx  o h C0 C1;have hk:=X06 hx;have hc:decide ((k:Int)<(Xmz.length:Int))=false:=Yf om;rw[X0d] at h;rcases X01 with ⟨_|_,X0x⟩<;>(try obtain rfl:=X0x rfl);all_goals
   refine X0.round ?_;revert h;exact λe=>X3 [Bf] (k:=wkT [] (C0  (oj e).symm))
 |cons x xs ih =>
  intro k hx  o h C0 C1;obtain⟨hk,hg,hx1⟩:=Xy hx;have hc:decide ((k:Int)<(Xmz.length:Int))=true:=Yt om;rw[X0d] at h;rcases X01 with ⟨_|_,X0x⟩
  ·
   refine X0.round ?_;revert h;refine bI λe3127 h3128=>?_;try have qh3128:=Xi h3128
   refine brI (λh3129=>λe=>X3 [Bt,.el (aI .i64 x),.ld (aI .i64 x),.el (aB e3127),.ld (aB e3127),Bt] (k:=wkT [] (C1  (oj e).symm))) λh3129=>rnI [Bt,.el (aI .i64 x),.ld (aI .i64 x),.el (aB e3127),.ld (aB e3127),Bf] ?_;intro h;exact wkT [] (ih (k+1) hx1  o h C0 C1)
  obtain rfl:=X0x rfl;refine X0.round ?_;revert h;refine bI λe3130 h3131=>?_;try have qh3131:=Xi h3131
  intro h
  first|exact absurd (h3131) (by simp[X14];done)|(simp[X14,hc] at h;done)|(simp[hc] at hg;done)|exact absurd (h3131) (by simp[X14,hc];done)
end Go.Av.Tryz