/- Printed by decomp.py: that the program computes the functions. -/
import Derived.Test.YtnfamdbgcgjlaaaGreatDoorDCert5Z
set_option linter.all false

namespace Go.Av.Tryz
open Go.Proofs Go.D
set_option maxRecDepth 10000
set_option maxHeartbeats 40000000
theorem Xdl {Q:Xi->St->Mu->Prop} {μ:Mu} (X9a:(List (List X1))) (hl:X9a.length<=140737488355328):∀ (xs:List (List X1)) (k:Nat) (hx:X9a.drop k=xs) (Xr:X1) (Xg:(List X1)) (Xp:Nb Xg) (o:X59) (h:X1m X9a xs k Xr Xg=some o)
  (C0:∀ (X01:X1) (X03:(List X1)) (X0h:Nb X03),o=X59.x0 X01 X03->X4 Tryz.prog 94 0 Q (.exit (.exit 0)) [] ⟨fr [(12,(AV.ptr 0 0 0)),(13,(slE X0h.1 1 (X03.map X0)))],hp ([(0,Ob [(X0 X01)] 5)]++opE X0h.1 1 5 (X03.map X0)),2⟩ μ)
  (C1:∀ (X05:(List X1)) (Xgc:Int) (X07:Nb X05),o=X59.x1 X05 Xgc->X4 Tryz.prog 94 0 Q (.exit .ret) [] ⟨fr [(8,(slE X07.1 0 (X05.map X0))),(9,(aI .i64 Xgc))],hp ([]++opE X07.1 0 5 (X05.map X0)),1⟩ μ),
  X4 Tryz.prog 94 0 Q (.loop (X7j 0 (X3 Tryz.f123))) [] ⟨fr [(12,(AV.ptr 0 0 0)),(13,(slE Xp.1 1 (Xg.map X0))),(55,(Lf (List.map (Xfj false X0) X9a))),(56,(aI .i64 (X9a.length:Int))),(57,(aI .i64 (k:Int)))],hp ([(0,Ob [(X0 Xr)] 5)]++opE Xp.1 1 5 (Xg.map X0)),2⟩ μ:=by
 intro xs
 induction xs with
 |nil =>
  intro k hx Xr Xg Xp o h C0 C1;have hk:=drop_nil hx;have hc:decide ((k:Int)<(X9a.length:Int))=false:=Yf om;rw[X1m] at h;rcases Xp with ⟨_|_,X0j⟩
  ·
   refine X4.round ?_;revert h;exact λe=>Xd [Bf] (k:=wkT [] (C0 _ _  nbF (oj e).symm))
  ·
   obtain rfl:=X0j rfl;refine X4.round ?_;revert h;exact λe=>Xd [Bf] (k:=wkT [] (C0 _ _  nbS (oj e).symm))
 |cons x xs ih =>
  intro k hx Xr Xg Xp o h C0 C1;obtain⟨hk,hg,hx1⟩:=drop_cons hx;have hc:decide ((k:Int)<(X9a.length:Int))=true:=Yt om;rw[X1m] at h;rcases Xp with ⟨_|_,X0j⟩
  ·
   refine X4.round ?_;revert h;refine bI λv87 h88=>brI (λh89=>λe=>Xd [Bt,.el (Xfj false X0 x),.pure _ (aI .i64 v87),Bt] (k:=wkT [] (C1 _ _  nbS (oj e).symm))) λh89=>?_;refine bI λv90 h91=>brI (λq=>?_) λq=>?_
   ·
    intro h;have h92:v90=[]:=List.isEmpty_iff.1 q;revert h;refine bI λXov h96=>rnI [Bt,.el (Xfj false X0 x),.pure _ (aI .i64 v87),Bf,.el (aI .i64 (Xg.length:Int)),.pure _ (Lt (v90.map X0)),.ne false] ?_;intro h;refine X4.join (s':=⟨fr [(12,(AV.ptr 0 0 0)),(13,(AV.ref 1 0 (Xg.length))),(55,(Lf (List.map (Xfj false X0) X9a))),(56,(aI .i64 (X9a.length:Int))),(57,(aI .i64 (k:Int)))],hp ([(0,Ob [(X0 Xov)] 5),(1,Ob (List.map X0 (Xg++v90)) 5)]),2⟩) ?_ (λJ=>X4.cut ?_)
    ·
     exact Xd [] (k:=wkT [] (ih (k+1) hx1 _ _ nbF o h C0 C1))
    clear h;revert h96;refine brI (λh95=>?_) λh95=>?_
    ·
     intro h;obtain rfl:=oj h;exact Xd [Bt,.el (aI .i64 (List.length (Xg++v90):Int)),.wrap] (k:=wkT [] (X4.glue J))
    intro h;obtain rfl:=oj h;exact Xd [Bf,.el (aI .i64 (List.length (Xg++v90):Int)),.wrap] (k:=wkT [] (X4.glue J))
   intro h;have h92:¬ (v90=[]):=(λe=>by rw[e] at q;cases q);revert h;refine bI λu97 h98=>bI λXka h102=>rnI [Bt,.el (Xfj false X0 x),.pure _ (aI .i64 v87),Bf,.el (aI .i64 (Xg.length:Int)),.pure _ (Lt (v90.map X0)),.via (Lt (v90.map X0))] (o:=by repeat' first|apply Ya|exact pcM|(refine X20 h98 rfl ?_;first|(simp<;>omega)|(simp[hc,h89,h92]<;>omega))|(refine X0p h98 (by decide) ?_;first|(simp<;>omega)|(simp[hc,h89,h92]<;>omega))|exact Xu) ?_;intro h;refine X4.join (s':=⟨fr [(12,(AV.ptr 0 0 0)),(13,(AV.ref 1 0 (List.length (Xg++v90)))),(55,(Lf (List.map (Xfj false X0) X9a))),(56,(aI .i64 (X9a.length:Int))),(57,(aI .i64 (k:Int)))],hp ([(0,Ob [(X0 Xka)] 5),(1,Ob (List.map X0 (Xg++v90)) 5)]),2⟩) ?_ (λJ=>X4.cut ?_)
   ·
    exact Xd [] (o:=by repeat' first|apply Ya|exact pcM|(refine X20 h98 rfl ?_;first|(simp<;>omega)|(simp[hc,h89,h92]<;>omega))|(refine X0p h98 (by decide) ?_;first|(simp<;>omega)|(simp[hc,h89,h92]<;>omega))|exact Xu) (k:=wkT [] (ih (k+1) hx1 _ _ nbF o h C0 C1))
   clear h;revert h102;refine brI (λh101=>?_) λh101=>?_
   ·
    intro h;obtain rfl:=oj h;exact Xd [Bt,.el (aI .i64 (List.length (Xg++v90):Int)),.wrap] (o:=by repeat' first|apply Ya|exact pcM|(refine X20 h98 rfl ?_;first|(simp<;>omega)|(simp[hc,h89,h92,h101]<;>omega))|(refine X0p h98 (by decide) ?_;first|(simp<;>omega)|(simp[hc,h89,h92,h101]<;>omega))|exact Xu) (k:=wkT [(1,2)] (X4.glue J))
   intro h;obtain rfl:=oj h;exact Xd [Bf,.el (aI .i64 (List.length (Xg++v90):Int)),.wrap] (o:=by repeat' first|apply Ya|exact pcM|(refine X20 h98 rfl ?_;first|(simp<;>omega)|(simp[hc,h89,h92,h101]<;>omega))|(refine X0p h98 (by decide) ?_;first|(simp<;>omega)|(simp[hc,h89,h92,h101]<;>omega))|exact Xu) (k:=wkT [(1,2)] (X4.glue J))
  obtain rfl:=X0j rfl;refine X4.round ?_;revert h;refine bI λv103 h104=>brI (λh105=>λe=>Xd [Bt,.el (Xfj false X0 x),.pure _ (aI .i64 v103),Bt] (k:=wkT [] (C1 _ _  nbS (oj e).symm))) λh105=>?_;refine bI λv106 h107=>brI (λq=>?_) λq=>?_
  ·
   intro h;have h108:v106=[]:=List.isEmpty_iff.1 q;revert h;refine bI λXxz h112=>rnI [Bt,.el (Xfj false X0 x),.pure _ (aI .i64 v103),Bf,.el (aI .i64 (List.length ([]:List X1):Int)),.pure _ (Lt (v106.map X0)),.ne false] ?_;intro h;refine X4.join (s':=⟨fr [(12,(AV.ptr 0 0 0)),(13,AV.nils),(55,(Lf (List.map (Xfj false X0) X9a))),(56,(aI .i64 (X9a.length:Int))),(57,(aI .i64 (k:Int)))],hp ([(0,Ob [(X0 Xxz)] 5)]),2⟩) ?_ (λJ=>X4.cut ?_)
   ·
    exact Xd [] (k:=wkT [] (ih (k+1) hx1 _ _ nbS o h C0 C1))
   clear h;revert h112;refine brI (λh111=>?_) λh111=>?_
   ·
    intro h;obtain rfl:=oj h;exact Xd [Bt,.el (aI .i64 (List.length (([]:List X1)++v106):Int)),.wrap] (k:=wkT [] (X4.glue J))
   intro h;obtain rfl:=oj h;exact Xd [Bf,.el (aI .i64 (List.length (([]:List X1)++v106):Int)),.wrap] (k:=wkT [] (X4.glue J))
  intro h;have h108:¬ (v106=[]):=(λe=>by rw[e] at q;cases q);revert h;refine bI λu113 h114=>bI λXxy h118=>rnI [Bt,.el (Xfj false X0 x),.pure _ (aI .i64 v103),Bf,.el (aI .i64 (List.length ([]:List X1):Int)),.pure _ (Lt (v106.map X0)),.via (Lt (v106.map X0))] (o:=by repeat' first|apply Ya|exact pcM|(refine X20 h114 rfl ?_;first|(simp<;>omega)|(simp[hc,h105,h108]<;>omega))|(refine X0p h114 (by decide) ?_;first|(simp<;>omega)|(simp[hc,h105,h108]<;>omega))|exact Xu) ?_;intro h;refine X4.join (s':=⟨fr [(12,(AV.ptr 0 0 0)),(13,(AV.ref 1 0 (List.length (([]:List X1)++v106)))),(55,(Lf (List.map (Xfj false X0) X9a))),(56,(aI .i64 (X9a.length:Int))),(57,(aI .i64 (k:Int)))],hp ([(0,Ob [(X0 Xxy)] 5),(1,Ob (List.map X0 (([]:List X1)++v106)) 5)]),2⟩) ?_ (λJ=>X4.cut ?_)
  ·
   exact Xd [] (o:=by repeat' first|apply Ya|exact pcM|(refine X20 h114 rfl ?_;first|(simp<;>omega)|(simp[hc,h105,h108]<;>omega))|(refine X0p h114 (by decide) ?_;first|(simp<;>omega)|(simp[hc,h105,h108]<;>omega))|exact Xu) (k:=wkT [] (ih (k+1) hx1 _ _ nbF o h C0 C1))
  clear h;revert h118;refine brI (λh117=>?_) λh117=>?_
  ·
   intro h;obtain rfl:=oj h;exact Xd [Bt,.el (aI .i64 (List.length (([]:List X1)++v106):Int)),.wrap] (o:=by repeat' first|apply Ya|exact pcM|(refine X20 h114 rfl ?_;first|(simp<;>omega)|(simp[hc,h105,h108,h117]<;>omega))|(refine X0p h114 (by decide) ?_;first|(simp<;>omega)|(simp[hc,h105,h108,h117]<;>omega))|exact Xu) (k:=wkT [(1,2)] (X4.glue J))
  intro h;obtain rfl:=oj h;exact Xd [Bf,.el (aI .i64 (List.length (([]:List X1)++v106):Int)),.wrap] (o:=by repeat' first|apply Ya|exact pcM|(refine X20 h114 rfl ?_;first|(simp<;>omega)|(simp[hc,h105,h108,h117]<;>omega))|(refine X0p h114 (by decide) ?_;first|(simp<;>omega)|(simp[hc,h105,h108,h117]<;>omega))|exact Xu) (k:=wkT [(1,2)] (X4.glue J))
instance Xsp:PCs Tryz.prog 123 (∀ (a0:Int) (a1:Int) (a2:Int) (a3:(List (List X1))) (r:(List X1)×Int),X2g a0 a1 a2 a3=some r->X06 Tryz.prog 123 [(aI .u8 a0),(aI .i64 a1),(aI .i64 a2),(Lf (List.map (Xfj false X0) a3))] (AV.tup [(Lt (r.1.map X0)),(aI .i64 r.2)])):=⟨λa0 a1 a2 a3 r h=>by
 refine X06.sym X7 X057 (nt:=94) rfl rfl ?_ okM;unfold X2g at h;revert h;refine bI λv1 h2=>bI λXpc h18=>rnI [.pure _ (AV.tup [(aI .i64 v1.1),(aI .i64 v1.2)]),.stop 2] ?_;intro h;refine X4.join (s':=⟨fr [(0,(aI .u8 a0)),(1,(aI .i64 a1)),(2,(aI .i64 a2)),(3,(Lf (List.map (Xfj false X0) a3))),(50,(aB Xpc))],hp ([]),0⟩) ?_ (λJ=>X4.cut ?_)
 ·
  revert h;refine brI (λh19=>λe=>oj e▸Xd [Bt] (k:=fi)) λh19=>bI λu20 h21=>?_;have qh21:=X1x h21;refine bI λo119 h120=>rnI [Bf,.el (aI .i64 (a3.length:Int))] ?_;intro h;refine wkT [] (X4.cut (Xdl a3 qh21 a3 0 (by simp) _ _ nbS _ h120 ?_ ?_))
  ·
   intro X01 X03 X0h eo119;subst eo119;refine X4.glue ?_;try dsimp only at h
   rcases X0h with ⟨_|_,X36⟩<;>(try obtain rfl:=X36 rfl);all_goals
    revert h;refine bI λu121 h122=>bI λv123 h124=>brI (λh125=>?_) λh125=>?_
    ·
     exact λe=>oj e▸Xd [.no,.pure _ (aI .i64 v123),Bt] (o:=by repeat' first|apply Ya|exact pcM|(refine X20 h122 rfl ?_;first|(simp<;>omega)|(simp[h19,h125]<;>omega))|(refine X0p h122 (by decide) ?_;first|(simp<;>omega)|(simp[h19,h125]<;>omega))|exact Xu) (k:=fi)
    exact λe=>oj e▸Xd [.no,.pure _ (aI .i64 v123),Bf] (o:=by repeat' first|apply Ya|exact pcM|(refine X20 h122 rfl ?_;first|(simp<;>omega)|(simp[h19,h125]<;>omega))|(refine X0p h122 (by decide) ?_;first|(simp<;>omega)|(simp[h19,h125]<;>omega))|exact Xu) (k:=fi)
  intro X05 Xgc X07 eo119;subst eo119;refine X4.glue ?_;try dsimp only at h
  rcases X07 with ⟨_|_,X35⟩<;>(try obtain rfl:=X35 rfl);all_goals
   revert h;exact λe=>oj e▸Xd [] (k:=fi)
 clear h;revert h18;refine brI (λh11=>?_) λh11=>?_
 ·
  intro h;obtain rfl:=oj h;exact Xd [Gf,Gf,Gf,Gf,Gf,Gf,Gf,Gf,Gf,Gf,Gf,Gf,Gf,Gf,Gf,Gf] (o:=by repeat' first|apply Ya|exact pcM|exact fq (X6 h11 rfl)|exact fq (X6 (X6 h11 rfl) rfl)|exact fq (X6 (X6 (X6 h11 rfl) rfl) rfl)|exact fq (X6 (X6 (X6 (X6 h11 rfl) rfl) rfl) rfl)|exact Xu) (k:=wkT [] (X4.glue J))
 refine brI (λh12=>?_) λh12=>?_
 ·
  intro h;obtain rfl:=oj h;exact Xd [Gt,Gt,Gt,.el (aI .i64 (a3.length:Int)),Gt,Gf,Gf,Gf,Gf,Gf,Gf,Gf,Gf,Gf,Gf,Gf,Gf] (o:=by repeat' first|apply Ya|exact pcM|exact fq (X9 h11 h12)|exact fq (X6 (X9 h11 h12) rfl)|exact fq (X6 (X6 (X9 h11 h12) rfl) rfl)|exact fq (X6 (X6 (X6 (X9 h11 h12) rfl) rfl) rfl)|exact Xu) (k:=wkT [] (X4.glue J))
 refine brI (λh13=>?_) λh13=>?_
 ·
  intro h;obtain rfl:=oj h;exact Xd [Gt,Gt,Gt,.el (aI .i64 (a3.length:Int)),Gt,Gt,Gt,Gf,Gf,Gf,Gf,Gf,Gf,Gf,Gf,Gf,Gf] (o:=by repeat' first|apply Ya|exact pcM|exact fq (X9 h11 h12)|exact fq (X9 (X9 h11 h12) h13)|exact fq (X6 (X9 (X9 h11 h12) h13) rfl)|exact fq (X6 (X6 (X9 (X9 h11 h12) h13) rfl) rfl)|exact Xu) (k:=wkT [] (X4.glue J))
 refine brI (λh14=>?_) λh14=>?_
 ·
  refine rnI [Gt,Gt,Gt,.el (aI .i64 (a3.length:Int)),Gt,Gt,Gt,Gt,Gt,Gt,Gt,Gt,Gt,.stop 999999] (o:=by repeat' first|apply Ya|exact pcM|exact fq (X9 h11 h12)|exact fq (X9 (X9 h11 h12) h13)|exact Xu) ?_;refine brI (λh15=>?_) λh15=>?_
  ·
   intro h;obtain rfl:=oj h;exact Xd [Gf,Gf,Gf,Gf] (o:=by repeat' first|apply Ya|exact pcM|exact fq (X9 (X9 (X9 h11 h12) h13) (X6 h14 h15))|exact fq (X6 (X9 (X9 (X9 h11 h12) h13) (X6 h14 h15)) rfl)|exact Xu) (k:=wkT [] (X4.glue J))
  refine brI (λh16=>?_) λh16=>?_
  ·
   intro h;obtain rfl:=oj h;exact Xd [Gt,Gt,Gf,Gf] (o:=by repeat' first|apply Ya|exact pcM|exact fq (X9 (X9 (X9 h11 h12) h13) (X6 h14 h15))|exact fq (X9 (X9 (X9 (X9 h11 h12) h13) (X6 h14 h15)) h16)|exact Xu) (k:=wkT [] (X4.glue J))
  intro h;obtain rfl:=oj h;exact Xd [Gt,Gt,Gt,Gt] (o:=by repeat' first|apply Ya|exact pcM|exact fq (X9 (X9 (X9 h11 h12) h13) (X6 h14 h15))|exact fq (X9 (X9 (X9 (X9 h11 h12) h13) (X6 h14 h15)) h16)|exact Xu) (k:=wkT [] (X4.glue J))
 refine rnI [Gt,Gt,Gt,.el (aI .i64 (a3.length:Int)),Gt,Gt,Gt,Gt,Gt,Gt,Gf,Gf,Gt,Gt,Gt,.stop 999999] (o:=by repeat' first|apply Ya|exact pcM|exact fq (X9 h11 h12)|exact fq (X9 (X9 h11 h12) h13)|exact fq (X9 (X9 (X9 h11 h12) h13) (X9 h14 rfl))|exact Xu) ?_;refine brI (λh17=>?_) λh17=>?_
 ·
  intro h;obtain rfl:=oj h;exact Xd [Gf,Gf] (o:=by repeat' first|apply Ya|exact pcM|exact fq (X9 (X9 (X9 (X9 h11 h12) h13) (X9 h14 rfl)) h17)|exact Xu) (k:=wkT [] (X4.glue J))
 intro h;obtain rfl:=oj h;exact Xd [Gt,Gt] (o:=by repeat' first|apply Ya|exact pcM|exact fq (X9 (X9 (X9 (X9 h11 h12) h13) (X9 h14 rfl)) h17)|exact Xu) (k:=wkT [] (X4.glue J))⟩
instance Xtk:PCs Tryz.prog 92 (∀ (a0:Int) (a1:Bool) (a2:Int) (r:Xb),X8g a0 a1 a2=some r->X06 Tryz.prog 92 [(aI .i64 a0),(aB a1),(aI .i64 a2)] (X5 true r)):=⟨λa0 a1 a2 r h=>by
 refine X06.sym X7 fn92 (nt:=56) rfl rfl ?_ okM;unfold X8g at h;revert h;refine brI (λh17=>?_) λh17=>?_
 ·
  refine bI λXix h21=>rnI [Bt] ?_;intro h;refine X4.join (s':=⟨fr [(5,(AV.ptr 0 0 0)),(6,(AV.ptr 1 0 0)),(7,(AV.fn 122 [(AV.ptr 0 0 0)])),(10,(aI .u8 Xix))],hp ([(0,Ob [(aI .i64 a2)] 1),(1,Ob [(X5 true (Xb.mk ([]:List X1) false))] 2)]),2⟩) ?_ (λJ=>X4.cut ?_)
  ·
   revert h;refine bI λv22 h23=>bI λv24 h25=>bI λXiv h29=>rnI [.pure [(aI .i64 0),(AV.elem false ((aI .i64) a2) 0)] (Lt (v22.map X0)),.pure [(aI .i64 0),(AV.elem false ((aI .i64) a2) 0)] (Lt (v22.map X0)),.pure _ (AV.tup [(Lt (v24.1.map X0)),(aI .i64 v24.2)]),.stop 13] (o:=by repeat' first|apply Ya|exact pcM|exact(X2v.lent (X37 _ _ _ h23) (cc .sc (cc (Xcv rfl rfl) cn)) (X6c (X18 X11 _)))|exact Xu) ?_;intro h;refine X4.join (s':=⟨fr [(6,(AV.ptr 0 0 0))],hp ([(0,Ob [(X5 true Xiv)] 2)]),1⟩) ?_ (λJ=>X4.cut ?_)
   ·
    revert h;exact λe=>oj e▸Xd [] (k:=fi)
   clear h;revert h29;refine brI (λh28=>?_) λh28=>?_
   ·
    intro h;obtain rfl:=oj h;exact Xd [Gt,Gt,.el (aI .i64 (v24.1.length:Int)),Gt] (o:=by repeat' first|apply Ya|exact pcM|exact(X2v.lent (X37 _ _ _ h23) (cc .sc (cc (Xcv rfl rfl) cn)) (X6c (X18 X11 _)))|exact Xu) (k:=wkT [(0,1)] (X4.glue J))
   intro h;obtain rfl:=oj h;exact Xd [Gf,Gf,Gf] (o:=by repeat' first|apply Ya|exact pcM|exact(X2v.lent (X37 _ _ _ h23) (cc .sc (cc (Xcv rfl rfl) cn)) (X6c (X18 X11 _)))|exact Xu) (k:=wkT [(0,1)] (X4.glue J))
  clear h;revert h21;refine brI (λh20=>?_) λh20=>?_
  ·
   intro h;obtain rfl:=oj h;refine X34 [Bt] ?_;refine X4.denil 1 [AV.agg [(Lt (List.map X0 ([]:List X1))),(aB false)]] rfl rfl ?_;exact wkT [] (X4.glue J)
  intro h;obtain rfl:=oj h;refine X34 [Bf] ?_;refine X4.denil 1 [AV.agg [(Lt (List.map X0 ([]:List X1))),(aB false)]] rfl rfl ?_;exact wkT [] (X4.glue J)
 refine brI (λh37=>?_) λh37=>?_
 ·
  refine rnI [Bf,Bt] ?_;intro h;refine X4.inline X7 X023 rfl rfl rfl rfl rfl trivial trivial rfl rfl ?_;refine X34 [] ?_;refine X4.back (by intro id h;cases h) rfl ?_;revert h;exact λe=>oj e▸Xd [Gt,Gt,Gt] (k:=fi)
 refine brI (λh44=>?_) λh44=>λe=>oj e▸Xd [Bf,Bf,.wrap,Bf,Gt,Gt,Gt] (k:=fi);refine bI λv45 h46=>bI λv47 h48=>bI λXp1 h52=>rnI [Bf,Bf,.wrap,Bt,.wrap,.pure [(aI .i64 (IntKind.i64.wrap (0 - a0))),(AV.elem false ((aI .i64) a2) 0)] (Lt (v45.map X0)),.pure _ (AV.tup [(Lt (v47.1.map X0)),(aI .i64 v47.2)]),.stop 13] (o:=by repeat' first|apply Ya|exact pcM|exact(X2v.lent (X37 _ _ _ h46) (cc .sc (cc (Xcv rfl rfl) cn)) (X6c (X18 X11 _)))|exact Xu) ?_;intro h;refine X4.join (s':=⟨fr [(6,(AV.ptr 0 0 0))],hp ([(0,Ob [(X5 true Xp1)] 2)]),1⟩) ?_ (λJ=>X4.cut ?_)
 ·
  revert h;exact λe=>oj e▸Xd [] (k:=fi)
 clear h;revert h52;refine brI (λh51=>?_) λh51=>?_
 ·
  intro h;obtain rfl:=oj h;exact Xd [Gt,Gt,.el (aI .i64 (v47.1.length:Int)),Gt] (o:=by repeat' first|apply Ya|exact pcM|exact(X2v.lent (X37 _ _ _ h46) (cc .sc (cc (Xcv rfl rfl) cn)) (X6c (X18 X11 _)))|exact Xu) (k:=wkT [(0,1)] (X4.glue J))
 intro h;obtain rfl:=oj h;exact Xd [Gf,Gf,Gf] (o:=by repeat' first|apply Ya|exact pcM|exact(X2v.lent (X37 _ _ _ h46) (cc .sc (cc (Xcv rfl rfl) cn)) (X6c (X18 X11 _)))|exact Xu) (k:=wkT [(0,1)] (X4.glue J))⟩
theorem Xcr {Q:Xi->St->Mu->Prop} {μ:Mu} (rec:(List X1)->(List Xb)->Int->Option ((List X1)×Int)) (hrec:∀ (a0:(List X1)) (a1:(List Xb)) (a2:Int) (r:(List X1)×Int) (h:rec a0 a1 a2=some r),X06 Tryz.prog 93 [(Lf (a0.map X0)),(Lf (List.map (X5 false) a1)),(aI .i64 a2)] (AV.tup [(Lt (r.1.map X0)),(aI .i64 r.2)])) (X0l:(List X1)) (X87:(List Xb)) (Xr:X1) (Xh1:Int) (Xh0:(List Int)) (hl:Xh0.length<=140737488355328):∀ (xs:List Int) (k:Nat) (hx:Xh0.drop k=xs) (Xg:(List (List X1))) (Xp:Nb Xg) (o:X4q) (h:X3m rec X0l X87 Xr Xh1 Xh0 xs k Xg=some o)
  (C0:∀ (X03:(List (List X1))) (X0h:Nb X03),o=X4q.x0 X03->X4 Tryz.prog 77 0 Q (.exit (.exit 0)) [] ⟨fr [(8,(AV.ptr 0 0 0)),(10,(aI .i64 Xh1)),(11,(slE X0h.1 1 (List.map (Xfj true X0) X03)))],hp ([(0,Ob [(X0 Xr)] 5)]++opE X0h.1 1 1 (List.map (Xfj true X0) X03)),2⟩ μ)
  (C1:∀ (X05:(List X1)) (Xgd:Int) (X07:Nb X05),o=X4q.x1 X05 Xgd->X4 Tryz.prog 77 0 Q (.exit .ret) [] ⟨fr [(6,(slE X07.1 0 (X05.map X0))),(7,(aI .i64 Xgd))],hp ([]++opE X07.1 0 5 (X05.map X0)),1⟩ μ),
  X4 Tryz.prog 77 0 Q (.loop (X7j 0 (X3 Tryz.f93))) [] ⟨fr [(0,(Lf (X0l.map X0))),(1,(Lf (List.map (X5 false) X87))),(8,(AV.ptr 0 0 0)),(10,(aI .i64 Xh1)),(11,(slE Xp.1 1 (List.map (Xfj true X0) Xg))),(43,(Lt (List.map (aI .i64) Xh0))),(44,(aI .i64 (Xh0.length:Int))),(45,(aI .i64 (k:Int)))],hp ([(0,Ob [(X0 Xr)] 5)]++opE Xp.1 1 1 (List.map (Xfj true X0) Xg)),2⟩ μ:=by
 intro xs
 induction xs with
 |nil =>
  intro k hx Xg Xp o h C0 C1;have hk:=drop_nil hx;have hc:decide ((k:Int)<(Xh0.length:Int))=false:=Yf om;rw[X3m] at h;rcases Xp with ⟨_|_,X0j⟩
  ·
   refine X4.round ?_;revert h;exact λe=>Xd [Bf] (k:=wkT [] (C0 _  nbF (oj e).symm))
  ·
   obtain rfl:=X0j rfl;refine X4.round ?_;revert h;exact λe=>Xd [Bf] (k:=wkT [] (C0 _  nbS (oj e).symm))
 |cons x xs ih =>
  intro k hx Xg Xp o h C0 C1;obtain⟨hk,hg,hx1⟩:=drop_cons hx;have hc:decide ((k:Int)<(Xh0.length:Int))=true:=Yt om;rw[X3m] at h;rcases Xp with ⟨_|_,X0j⟩<;>(try obtain rfl:=X0j rfl);all_goals
   refine X4.round ?_;revert h;refine bI λv44 h45=>rnI [Bt,.el (aI .i64 x),.pure [(Lf (X0l.map X0)),(Lf (List.map (X5 false) X87)),(aI .i64 x)] (AV.tup [(Lt (v44.1.map X0)),(aI .i64 v44.2)])] (o:=by repeat' first|apply Ya|exact pcM|exact(pn (hrec _ _ _ _ h45) (cc (X48 (X18 X11 X0l)) (cc (Xi0 (λ_=>rfl) (λx=>X7t X1q) X87) (cc .sc cn))))|exact Xu) ?_;refine brI (λh46=>λe=>Xd [Bt] (k:=wkT [] (C1 _ _  nbS (oj e).symm))) λh46=>?_;refine bI λu47 h48=>rnI [Bf,.no] (o:=by repeat' first|apply Ya|exact pcM|(refine X20 h48 rfl ?_;first|(simp<;>omega)|(simp[hc,h46]<;>omega))|(refine X0p h48 (by decide) ?_;first|(simp<;>omega)|(simp[hc,h46]<;>omega))|exact Xu) ?_;intro h;exact wkT [(1,3)] (ih (k+1) hx1 _ nbF o h C0 C1)
theorem Xg8:∀ (n:Nat) (a0:(List X1)) (a1:(List Xb)) (a2:Int) (r:(List X1)×Int) (h:X1o n a0 a1 a2=some r),X06 Tryz.prog 93 [(Lf (a0.map X0)),(Lf (List.map (X5 false) a1)),(aI .i64 a2)] (AV.tup [(Lt (r.1.map X0)),(aI .i64 r.2)]):=by
 intro n
 induction n with
 |zero=>intro a0 a1 a2 r h;cases h
 |succ n ih =>
  intro a0 a1 a2 r h;have hrec:=ih;refine X06.sym X7 fn93 (nt:=77) rfl rfl ?_ (X12 .list (X12 .list (X12 .sc X6l)));rw[X1o] at h;revert h;refine bI λe1 h2=>?_;try have qh2:=Xm h2
  refine brI (λh3=>?_) λh3=>?_
  ·
   refine bI λXou h15=>rnI [.el (X5 false e1),Bt,.el (X5 false e1)] ?_;intro h;refine X4.joinOpF (λ(q:Nb Xou)=>⟨fr [(26,(slE q.1 0 (Xou.map X0)))],hp ([]++opE q.1 0 5 (Xou.map X0)),1⟩) ?_ (λJ=>?_)
   ·
    rintro Xss;rcases Xss with ⟨_|_,Xte⟩<;>(try obtain rfl:=Xte rfl);all_goals
     revert h;exact λe=>oj e▸Xd [] (k:=fi)
   clear h;revert h15;intro h;refine X4.inline X7 fn62 rfl rfl rfl rfl rfl trivial trivial rfl rfl ?_;revert h;refine brI (λq=>?_) λq=>?_
   ·
    intro h;have h10:e1.value=[]:=List.isEmpty_iff.1 q;refine X34 [] ?_;refine X4.eqNil X7 (may:=true) rfl rfl rfl rfl rfl rfl trivial (by simp[X6d, *]) λb11 qb11=>?_;cases b11
    ·
     obtain rfl:=oj h;refine X34 [Bf,.ne false] ?_;refine X4.back (by intro id h;cases h) rfl ?_;exact wkT [] ((J nbS))
    obtain rfl:=oj h;refine X34 [Bt] ?_;refine X4.back (by intro id h;cases h) rfl ?_;exact wkT [] ((J nbS))
   intro h;have h10:¬ (e1.value=[]):=(λe=>by rw[e] at q;cases q);refine X34 [] ?_;refine X4.eqNil X7 (may:=false) rfl rfl rfl rfl rfl rfl trivial (by simp[X6d, *]) λb12 qb12=>?_;obtain rfl:=qb12 rfl;revert h;refine bI λu13 h14=>?_;intro h;obtain rfl:=oj h;refine X34 [Bf,.via (Lt (e1.value.map X0))] (o:=by repeat' first|apply Ya|exact pcM|(refine X20 h14 rfl ?_;first|(simp<;>omega)|(simp[h3,h10]<;>omega))|(refine X0p h14 (by decide) ?_;first|(simp<;>omega)|(simp[h3,h10]<;>omega))|exact Xu) ?_;refine X4.back (by intro id h;cases h) rfl ?_;exact wkT [(0,1)] ((J nbF))
  refine bI λe16 h17=>?_;try have qh17:=Xm h17
  refine bI λv18 h19=>brI (λh20=>?_) λh20=>?_
  ·
   refine bI λu21 h22=>?_;have qh22:=X1x h22;refine bI λo54 h55=>rnI [.el (X5 false e1),Bf,.el (X0 e16),.pure _ (AV.tup [(aI .i64 v18.1),(aI .i64 v18.2)]),.ne false,.el (aI .i64 (List.length ([]:List Int):Int))] (o:=by repeat' first|apply Ya|exact pcM|(have hp:=eq_of_beq h20;simp[hp];done)|(have hp:=eq_of_beq h20;simp at hp ⊢;omega)|(have hp:=eq_of_beq h20;subst hp;decide +kernel)|exact Xu) ?_;intro h;refine wkT [] (X4.cut (Xcr (X1o n) hrec a0 a1 e16 v18.2 [] qh22 [] 0 (by simp) _ nbS _ h55 ?_ ?_))
   ·
    intro X03 X0h eo54;subst eo54;refine X4.glue ?_;try dsimp only at h
    rcases X0h with ⟨_|_,X36⟩<;>(try obtain rfl:=X36 rfl);all_goals
     revert h;refine brI (λh56=>?_) λh56=>?_
     ·
      exact λe=>oj e▸Xd [Bt] (o:=by repeat' first|apply Ya|exact pcM|(have hp:=eq_of_beq h20;simp[hp];done)|(have hp:=eq_of_beq h20;simp at hp ⊢;omega)|(have hp:=eq_of_beq h20;subst hp;decide +kernel)|exact Xu) (k:=fi)
     exact bI λv57 h58=>λe=>oj e▸Xd [Bf,.pure _ (AV.tup [(Lt (v57.1.map X0)),(aI .i64 v57.2)])] (o:=by repeat' first|apply Ya|exact pcM|(have hp:=eq_of_beq h20;simp[hp];done)|(have hp:=eq_of_beq h20;simp at hp ⊢;omega)|(have hp:=eq_of_beq h20;subst hp;decide +kernel)|exact Xu) (k:=fi)
   intro X05 Xgd X07 eo54;subst eo54;refine X4.glue ?_;try dsimp only at h
   rcases X07 with ⟨_|_,X35⟩<;>(try obtain rfl:=X35 rfl);all_goals
    revert h;exact λe=>oj e▸Xd [] (o:=by repeat' first|apply Ya|exact pcM|(have hp:=eq_of_beq h20;simp[hp];done)|(have hp:=eq_of_beq h20;simp at hp ⊢;omega)|(have hp:=eq_of_beq h20;subst hp;decide +kernel)|exact Xu) (k:=fi)
  refine brI (λh62=>?_) λh62=>?_
  ·
   refine rnI [.el (X5 false e1),Bf,.el (X0 e16),.pure _ (AV.tup [(aI .i64 v18.1),(aI .i64 v18.2)])] (o:=by repeat' first|apply Ya|exact pcM|(have hp:=eq_of_beq h62;simp[hp];done)|(have hp:=eq_of_beq h62;simp at hp ⊢;omega)|(have hp:=eq_of_beq h62;subst hp;decide +kernel)|exact Xu) ?_;intro h;refine X4.round ?_;revert h;refine bI λv63 h64=>rnI [Bt,.el ((aI .i64 e16.A)),.pure [(Lf (a0.map X0)),(Lf (List.map (X5 false) a1)),(aI .i64 e16.A)] (AV.tup [(Lt (v63.1.map X0)),(aI .i64 v63.2)])] (o:=by repeat' first|apply Ya|exact pcM|(have hp:=eq_of_beq h62;simp[hp];done)|(have hp:=eq_of_beq h62;simp at hp ⊢;omega)|(have hp:=eq_of_beq h62;subst hp;decide +kernel)|exact(pn (hrec _ _ _ _ h64) (cc (X48 (X18 X11 a0)) (cc (Xi0 (λ_=>rfl) (λx=>X7t X1q) a1) (cc .sc cn))))|exact Xu) ?_;refine brI (λh65=>?_) λh65=>?_
   ·
    exact λe=>oj e▸Xd [Bt] (o:=by repeat' first|apply Ya|exact pcM|(have hp:=eq_of_beq h62;simp[hp];done)|(have hp:=eq_of_beq h62;simp at hp ⊢;omega)|(have hp:=eq_of_beq h62;subst hp;decide +kernel)|exact Xu) (k:=fi)
   refine rnI [Bf,.no] (o:=by repeat' first|apply Ya|exact pcM|(have hp:=eq_of_beq h62;simp[hp];done)|(have hp:=eq_of_beq h62;simp at hp ⊢;omega)|(have hp:=eq_of_beq h62;subst hp;decide +kernel)|exact Xu) ?_;intro h;refine X4.round ?_;revert h;refine brI (λh66=>?_) λh66=>?_
   ·
    exact λe=>oj e▸Xd [Bf,Bt] (o:=by repeat' first|apply Ya|exact pcM|(have hp:=eq_of_beq h62;simp[hp];done)|(have hp:=eq_of_beq h62;simp at hp ⊢;omega)|(have hp:=eq_of_beq h62;subst hp;decide +kernel)|exact Xu) (k:=fi)
   exact bI λv67 h68=>λe=>oj e▸Xd [Bf,Bf,.pure _ (AV.tup [(Lt (v67.1.map X0)),(aI .i64 v67.2)])] (o:=by repeat' first|apply Ya|exact pcM|(have hp:=eq_of_beq h62;simp[hp];done)|(have hp:=eq_of_beq h62;simp at hp ⊢;omega)|(have hp:=eq_of_beq h62;subst hp;decide +kernel)|exact Xu) (k:=fi)
  refine brI (λh69=>?_) λh69=>?_
  ·
   refine rnI [.el (X5 false e1),Bf,.el (X0 e16),.pure _ (AV.tup [(aI .i64 v18.1),(aI .i64 v18.2)])] (o:=by repeat' first|apply Ya|exact pcM|(have hp:=eq_of_beq h69;simp[hp];done)|(have hp:=eq_of_beq h69;simp at hp ⊢;omega)|(have hp:=eq_of_beq h69;subst hp;decide +kernel)|exact Xu) ?_;intro h;refine X4.round ?_;revert h;refine bI λv70 h71=>rnI [Bt,.el ((aI .i64 e16.A)),.pure [(Lf (a0.map X0)),(Lf (List.map (X5 false) a1)),(aI .i64 e16.A)] (AV.tup [(Lt (v70.1.map X0)),(aI .i64 v70.2)])] (o:=by repeat' first|apply Ya|exact pcM|(have hp:=eq_of_beq h69;simp[hp];done)|(have hp:=eq_of_beq h69;simp at hp ⊢;omega)|(have hp:=eq_of_beq h69;subst hp;decide +kernel)|exact(pn (hrec _ _ _ _ h71) (cc (X48 (X18 X11 a0)) (cc (Xi0 (λ_=>rfl) (λx=>X7t X1q) a1) (cc .sc cn))))|exact Xu) ?_;refine brI (λh72=>?_) λh72=>?_
   ·
    exact λe=>oj e▸Xd [Bt] (o:=by repeat' first|apply Ya|exact pcM|(have hp:=eq_of_beq h69;simp[hp];done)|(have hp:=eq_of_beq h69;simp at hp ⊢;omega)|(have hp:=eq_of_beq h69;subst hp;decide +kernel)|exact Xu) (k:=fi)
   refine rnI [Bf,.no] (o:=by repeat' first|apply Ya|exact pcM|(have hp:=eq_of_beq h69;simp[hp];done)|(have hp:=eq_of_beq h69;simp at hp ⊢;omega)|(have hp:=eq_of_beq h69;subst hp;decide +kernel)|exact Xu) ?_;intro h;refine X4.round ?_;revert h;refine bI λv73 h74=>rnI [Bt,.el ((aI .i64 e16.B)),.pure [(Lf (a0.map X0)),(Lf (List.map (X5 false) a1)),(aI .i64 e16.B)] (AV.tup [(Lt (v73.1.map X0)),(aI .i64 v73.2)])] (o:=by repeat' first|apply Ya|exact pcM|(have hp:=eq_of_beq h69;simp[hp];done)|(have hp:=eq_of_beq h69;simp at hp ⊢;omega)|(have hp:=eq_of_beq h69;subst hp;decide +kernel)|exact(pn (hrec _ _ _ _ h74) (cc (X48 (X18 X11 a0)) (cc (Xi0 (λ_=>rfl) (λx=>X7t X1q) a1) (cc .sc cn))))|exact Xu) ?_;refine brI (λh75=>?_) λh75=>?_
   ·
    exact λe=>oj e▸Xd [Bt] (o:=by repeat' first|apply Ya|exact pcM|(have hp:=eq_of_beq h69;simp[hp];done)|(have hp:=eq_of_beq h69;simp at hp ⊢;omega)|(have hp:=eq_of_beq h69;subst hp;decide +kernel)|exact Xu) (k:=fi)
   refine rnI [Bf,.no] (o:=by repeat' first|apply Ya|exact pcM|(have hp:=eq_of_beq h69;simp[hp];done)|(have hp:=eq_of_beq h69;simp at hp ⊢;omega)|(have hp:=eq_of_beq h69;subst hp;decide +kernel)|exact Xu) ?_;intro h;refine X4.round ?_;revert h;refine brI (λh76=>?_) λh76=>?_
   ·
    exact λe=>oj e▸Xd [Bf,Bt] (o:=by repeat' first|apply Ya|exact pcM|(have hp:=eq_of_beq h69;simp[hp];done)|(have hp:=eq_of_beq h69;simp at hp ⊢;omega)|(have hp:=eq_of_beq h69;subst hp;decide +kernel)|exact Xu) (k:=fi)
   exact bI λv77 h78=>λe=>oj e▸Xd [Bf,Bf,.pure _ (AV.tup [(Lt (v77.1.map X0)),(aI .i64 v77.2)])] (o:=by repeat' first|apply Ya|exact pcM|(have hp:=eq_of_beq h69;simp[hp];done)|(have hp:=eq_of_beq h69;simp at hp ⊢;omega)|(have hp:=eq_of_beq h69;subst hp;decide +kernel)|exact Xu) (k:=fi)
  intro h;cases h
end Go.Av.Tryz