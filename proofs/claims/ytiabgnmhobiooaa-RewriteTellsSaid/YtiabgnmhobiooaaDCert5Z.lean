/- Printed by decomp.py: that the program computes the functions. -/
import Derived.Test.YtiabgnmhobiooaaDCert4Z
set_option linter.all false

namespace Go.Av.Try
open Go.Proofs Go.D
set_option maxRecDepth 10000
set_option maxHeartbeats 40000000
theorem Xca {Q:Xr->St->Mu->Prop} {μ:Mu} (X8s:(List (List X1))) (hl:X8s.length<=140737488355328):∀ (xs:List (List X1)) (k:Nat) (hx:X8s.drop k=xs) (Xi:X1) (Xc:(List X1)) (Xk:Nb Xc) (o:X4w) (h:X1c X8s xs k Xi Xc=some o)
  (C0:∀ (Xm:X1) (Xs:(List X1)) (X0g:Nb Xs),o=X4w.x0 Xm Xs->X4 Try.prog 94 0 Q (.exit (.exit 0)) [] ⟨fr [(12,(AV.ptr 0 0 0)),(13,(slE X0g.1 1 (Xs.map X0)))],hp ([(0,Ob [(X0 Xm)] 5)]++opE X0g.1 1 5 (Xs.map X0)),2⟩ μ)
  (C1:∀ (X00:(List X1)) (Xem:Int) (X03:Nb X00),o=X4w.x1 X00 Xem->X4 Try.prog 94 0 Q (.exit .ret) [] ⟨fr [(8,(slE X03.1 0 (X00.map X0))),(9,(aI .i64 Xem))],hp ([]++opE X03.1 0 5 (X00.map X0)),1⟩ μ),
  X4 Try.prog 94 0 Q (.loop (X5l 0 (Xe Try.f76))) [] ⟨fr [(12,(AV.ptr 0 0 0)),(13,(slE Xk.1 1 (Xc.map X0))),(55,(Lf (List.map (X5z false X0) X8s))),(56,(aI .i64 (X8s.length:Int))),(57,(aI .i64 (k:Int)))],hp ([(0,Ob [(X0 Xi)] 5)]++opE Xk.1 1 5 (Xc.map X0)),2⟩ μ:=by
 intro xs
 induction xs with
 |nil =>
  intro k hx Xi Xc Xk o h C0 C1;have hk:=drop_nil hx;have hc:decide ((k:Int)<(X8s.length:Int))=false:=Yf om;rw[X1c] at h;rcases Xk with ⟨_|_,X0i⟩
  ·
   refine X4.round ?_;revert h;exact λe=>Xa [Bf] (k:=wkT [] (C0 _ _  nbF (oj e).symm))
  ·
   obtain rfl:=X0i rfl;refine X4.round ?_;revert h;exact λe=>Xa [Bf] (k:=wkT [] (C0 _ _  nbS (oj e).symm))
 |cons x xs ih =>
  intro k hx Xi Xc Xk o h C0 C1;obtain⟨hk,hg,hx1⟩:=drop_cons hx;have hc:decide ((k:Int)<(X8s.length:Int))=true:=Yt om;rw[X1c] at h;rcases Xk with ⟨_|_,X0i⟩
  ·
   refine X4.round ?_;revert h;refine bI λv87 h88=>brI (λh89=>λe=>Xa [Bt,.el (X5z false X0 x),.pure _ (aI .i64 v87),Bt] (k:=wkT [] (C1 _ _  nbS (oj e).symm))) λh89=>?_;refine bI λv90 h91=>brI (λq=>?_) λq=>?_
   ·
    intro h;have h92:v90=[]:=List.isEmpty_iff.1 q;revert h;refine bI λXm8 h96=>rnI [Bt,.el (X5z false X0 x),.pure _ (aI .i64 v87),Bf,.el (aI .i64 (Xc.length:Int)),.pure _ (Lt (v90.map X0)),.ne false] ?_;intro h;refine X4.join (s':=⟨fr [(12,(AV.ptr 0 0 0)),(13,(AV.ref 1 0 (Xc.length))),(55,(Lf (List.map (X5z false X0) X8s))),(56,(aI .i64 (X8s.length:Int))),(57,(aI .i64 (k:Int)))],hp ([(0,Ob [(X0 Xm8)] 5),(1,Ob (List.map X0 (Xc++v90)) 5)]),2⟩) ?_ (λJ=>X4.cut ?_)
    ·
     exact Xa [] (k:=wkT [] (ih (k+1) hx1 _ _ nbF o h C0 C1))
    clear h;revert h96;refine brI (λh95=>?_) λh95=>?_
    ·
     intro h;obtain rfl:=oj h;exact Xa [Bt,.el (aI .i64 (List.length (Xc++v90):Int)),.wrap] (k:=wkT [] (X4.glue J))
    intro h;obtain rfl:=oj h;exact Xa [Bf,.el (aI .i64 (List.length (Xc++v90):Int)),.wrap] (k:=wkT [] (X4.glue J))
   intro h;have h92:¬ (v90=[]):=(λe=>by rw[e] at q;cases q);revert h;refine bI λu97 h98=>bI λXi3 h102=>rnI [Bt,.el (X5z false X0 x),.pure _ (aI .i64 v87),Bf,.el (aI .i64 (Xc.length:Int)),.pure _ (Lt (v90.map X0)),.via (Lt (v90.map X0))] (o:=by repeat' first|apply Ya|exact pcM|(refine X0s h98 rfl ?_;first|(simp<;>omega)|(simp[hc,h89,h92]<;>omega))|(refine Xw h98 (by decide) ?_;first|(simp<;>omega)|(simp[hc,h89,h92]<;>omega))|exact Xy) ?_;intro h;refine X4.join (s':=⟨fr [(12,(AV.ptr 0 0 0)),(13,(AV.ref 1 0 (List.length (Xc++v90)))),(55,(Lf (List.map (X5z false X0) X8s))),(56,(aI .i64 (X8s.length:Int))),(57,(aI .i64 (k:Int)))],hp ([(0,Ob [(X0 Xi3)] 5),(1,Ob (List.map X0 (Xc++v90)) 5)]),2⟩) ?_ (λJ=>X4.cut ?_)
   ·
    exact Xa [] (o:=by repeat' first|apply Ya|exact pcM|(refine X0s h98 rfl ?_;first|(simp<;>omega)|(simp[hc,h89,h92]<;>omega))|(refine Xw h98 (by decide) ?_;first|(simp<;>omega)|(simp[hc,h89,h92]<;>omega))|exact Xy) (k:=wkT [] (ih (k+1) hx1 _ _ nbF o h C0 C1))
   clear h;revert h102;refine brI (λh101=>?_) λh101=>?_
   ·
    intro h;obtain rfl:=oj h;exact Xa [Bt,.el (aI .i64 (List.length (Xc++v90):Int)),.wrap] (o:=by repeat' first|apply Ya|exact pcM|(refine X0s h98 rfl ?_;first|(simp<;>omega)|(simp[hc,h89,h92,h101]<;>omega))|(refine Xw h98 (by decide) ?_;first|(simp<;>omega)|(simp[hc,h89,h92,h101]<;>omega))|exact Xy) (k:=wkT [(1,2)] (X4.glue J))
   intro h;obtain rfl:=oj h;exact Xa [Bf,.el (aI .i64 (List.length (Xc++v90):Int)),.wrap] (o:=by repeat' first|apply Ya|exact pcM|(refine X0s h98 rfl ?_;first|(simp<;>omega)|(simp[hc,h89,h92,h101]<;>omega))|(refine Xw h98 (by decide) ?_;first|(simp<;>omega)|(simp[hc,h89,h92,h101]<;>omega))|exact Xy) (k:=wkT [(1,2)] (X4.glue J))
  obtain rfl:=X0i rfl;refine X4.round ?_;revert h;refine bI λv103 h104=>brI (λh105=>λe=>Xa [Bt,.el (X5z false X0 x),.pure _ (aI .i64 v103),Bt] (k:=wkT [] (C1 _ _  nbS (oj e).symm))) λh105=>?_;refine bI λv106 h107=>brI (λq=>?_) λq=>?_
  ·
   intro h;have h108:v106=[]:=List.isEmpty_iff.1 q;revert h;refine bI λXsv h112=>rnI [Bt,.el (X5z false X0 x),.pure _ (aI .i64 v103),Bf,.el (aI .i64 (List.length ([]:List X1):Int)),.pure _ (Lt (v106.map X0)),.ne false] ?_;intro h;refine X4.join (s':=⟨fr [(12,(AV.ptr 0 0 0)),(13,AV.nils),(55,(Lf (List.map (X5z false X0) X8s))),(56,(aI .i64 (X8s.length:Int))),(57,(aI .i64 (k:Int)))],hp ([(0,Ob [(X0 Xsv)] 5)]),2⟩) ?_ (λJ=>X4.cut ?_)
   ·
    exact Xa [] (k:=wkT [] (ih (k+1) hx1 _ _ nbS o h C0 C1))
   clear h;revert h112;refine brI (λh111=>?_) λh111=>?_
   ·
    intro h;obtain rfl:=oj h;exact Xa [Bt,.el (aI .i64 (List.length (([]:List X1)++v106):Int)),.wrap] (k:=wkT [] (X4.glue J))
   intro h;obtain rfl:=oj h;exact Xa [Bf,.el (aI .i64 (List.length (([]:List X1)++v106):Int)),.wrap] (k:=wkT [] (X4.glue J))
  intro h;have h108:¬ (v106=[]):=(λe=>by rw[e] at q;cases q);revert h;refine bI λu113 h114=>bI λXsu h118=>rnI [Bt,.el (X5z false X0 x),.pure _ (aI .i64 v103),Bf,.el (aI .i64 (List.length ([]:List X1):Int)),.pure _ (Lt (v106.map X0)),.via (Lt (v106.map X0))] (o:=by repeat' first|apply Ya|exact pcM|(refine X0s h114 rfl ?_;first|(simp<;>omega)|(simp[hc,h105,h108]<;>omega))|(refine Xw h114 (by decide) ?_;first|(simp<;>omega)|(simp[hc,h105,h108]<;>omega))|exact Xy) ?_;intro h;refine X4.join (s':=⟨fr [(12,(AV.ptr 0 0 0)),(13,(AV.ref 1 0 (List.length (([]:List X1)++v106)))),(55,(Lf (List.map (X5z false X0) X8s))),(56,(aI .i64 (X8s.length:Int))),(57,(aI .i64 (k:Int)))],hp ([(0,Ob [(X0 Xsu)] 5),(1,Ob (List.map X0 (([]:List X1)++v106)) 5)]),2⟩) ?_ (λJ=>X4.cut ?_)
  ·
   exact Xa [] (o:=by repeat' first|apply Ya|exact pcM|(refine X0s h114 rfl ?_;first|(simp<;>omega)|(simp[hc,h105,h108]<;>omega))|(refine Xw h114 (by decide) ?_;first|(simp<;>omega)|(simp[hc,h105,h108]<;>omega))|exact Xy) (k:=wkT [] (ih (k+1) hx1 _ _ nbF o h C0 C1))
  clear h;revert h118;refine brI (λh117=>?_) λh117=>?_
  ·
   intro h;obtain rfl:=oj h;exact Xa [Bt,.el (aI .i64 (List.length (([]:List X1)++v106):Int)),.wrap] (o:=by repeat' first|apply Ya|exact pcM|(refine X0s h114 rfl ?_;first|(simp<;>omega)|(simp[hc,h105,h108,h117]<;>omega))|(refine Xw h114 (by decide) ?_;first|(simp<;>omega)|(simp[hc,h105,h108,h117]<;>omega))|exact Xy) (k:=wkT [(1,2)] (X4.glue J))
  intro h;obtain rfl:=oj h;exact Xa [Bf,.el (aI .i64 (List.length (([]:List X1)++v106):Int)),.wrap] (o:=by repeat' first|apply Ya|exact pcM|(refine X0s h114 rfl ?_;first|(simp<;>omega)|(simp[hc,h105,h108,h117]<;>omega))|(refine Xw h114 (by decide) ?_;first|(simp<;>omega)|(simp[hc,h105,h108,h117]<;>omega))|exact Xy) (k:=wkT [(1,2)] (X4.glue J))
instance Xpj:PCs Try.prog 76 (∀ (a0:Int) (a1:Int) (a2:Int) (a3:(List (List X1))) (r:(List X1)×Int),X27 a0 a1 a2 a3=some r->X0f Try.prog 76 [(aI .u8 a0),(aI .i64 a1),(aI .i64 a2),(Lf (List.map (X5z false X0) a3))] (AV.tup [(Lt (r.1.map X0)),(aI .i64 r.2)])):=⟨λa0 a1 a2 a3 r h=>by
 refine X0f.sym X8 Xx1 (nt:=94) rfl rfl ?_ okM;unfold X27 at h;revert h;refine bI λv1 h2=>bI λXmn h18=>rnI [.pure _ (AV.tup [(aI .i64 v1.1),(aI .i64 v1.2)]),.stop 2] ?_;intro h;refine X4.join (s':=⟨fr [(0,(aI .u8 a0)),(1,(aI .i64 a1)),(2,(aI .i64 a2)),(3,(Lf (List.map (X5z false X0) a3))),(50,(aB Xmn))],hp ([]),0⟩) ?_ (λJ=>X4.cut ?_)
 ·
  revert h;refine brI (λh19=>λe=>oj e▸Xa [Bt] (k:=fi)) λh19=>bI λu20 h21=>?_;have qh21:=X1n h21;refine bI λo119 h120=>rnI [Bf,.el (aI .i64 (a3.length:Int))] ?_;intro h;refine wkT [] (X4.cut (Xca a3 qh21 a3 0 (by simp) _ _ nbS _ h120 ?_ ?_))
  ·
   intro Xm Xs X0g eo119;subst eo119;refine X4.glue ?_;try dsimp only at h
   rcases X0g with ⟨_|_,X2w⟩<;>(try obtain rfl:=X2w rfl);all_goals
    revert h;refine bI λu121 h122=>bI λv123 h124=>brI (λh125=>?_) λh125=>?_
    ·
     exact λe=>oj e▸Xa [.no,.pure _ (aI .i64 v123),Bt] (o:=by repeat' first|apply Ya|exact pcM|(refine X0s h122 rfl ?_;first|(simp<;>omega)|(simp[h19,h125]<;>omega))|(refine Xw h122 (by decide) ?_;first|(simp<;>omega)|(simp[h19,h125]<;>omega))|exact Xy) (k:=fi)
    exact λe=>oj e▸Xa [.no,.pure _ (aI .i64 v123),Bf] (o:=by repeat' first|apply Ya|exact pcM|(refine X0s h122 rfl ?_;first|(simp<;>omega)|(simp[h19,h125]<;>omega))|(refine Xw h122 (by decide) ?_;first|(simp<;>omega)|(simp[h19,h125]<;>omega))|exact Xy) (k:=fi)
  intro X00 Xem X03 eo119;subst eo119;refine X4.glue ?_;try dsimp only at h
  rcases X03 with ⟨_|_,X2v⟩<;>(try obtain rfl:=X2v rfl);all_goals
   revert h;exact λe=>oj e▸Xa [] (k:=fi)
 clear h;revert h18;refine brI (λh11=>?_) λh11=>?_
 ·
  intro h;obtain rfl:=oj h;exact Xa [Gf,Gf,Gf,Gf,Gf,Gf,Gf,Gf,Gf,Gf,Gf,Gf,Gf,Gf,Gf,Gf] (o:=by repeat' first|apply Ya|exact pcM|exact fq (Xl h11 rfl)|exact fq (Xl (Xl h11 rfl) rfl)|exact fq (Xl (Xl (Xl h11 rfl) rfl) rfl)|exact fq (Xl (Xl (Xl (Xl h11 rfl) rfl) rfl) rfl)|exact Xy) (k:=wkT [] (X4.glue J))
 refine brI (λh12=>?_) λh12=>?_
 ·
  intro h;obtain rfl:=oj h;exact Xa [Gt,Gt,Gt,.el (aI .i64 (a3.length:Int)),Gt,Gf,Gf,Gf,Gf,Gf,Gf,Gf,Gf,Gf,Gf,Gf,Gf] (o:=by repeat' first|apply Ya|exact pcM|exact fq (Xo h11 h12)|exact fq (Xl (Xo h11 h12) rfl)|exact fq (Xl (Xl (Xo h11 h12) rfl) rfl)|exact fq (Xl (Xl (Xl (Xo h11 h12) rfl) rfl) rfl)|exact Xy) (k:=wkT [] (X4.glue J))
 refine brI (λh13=>?_) λh13=>?_
 ·
  intro h;obtain rfl:=oj h;exact Xa [Gt,Gt,Gt,.el (aI .i64 (a3.length:Int)),Gt,Gt,Gt,Gf,Gf,Gf,Gf,Gf,Gf,Gf,Gf,Gf,Gf] (o:=by repeat' first|apply Ya|exact pcM|exact fq (Xo h11 h12)|exact fq (Xo (Xo h11 h12) h13)|exact fq (Xl (Xo (Xo h11 h12) h13) rfl)|exact fq (Xl (Xl (Xo (Xo h11 h12) h13) rfl) rfl)|exact Xy) (k:=wkT [] (X4.glue J))
 refine brI (λh14=>?_) λh14=>?_
 ·
  refine rnI [Gt,Gt,Gt,.el (aI .i64 (a3.length:Int)),Gt,Gt,Gt,Gt,Gt,Gt,Gt,Gt,Gt,.stop 999999] (o:=by repeat' first|apply Ya|exact pcM|exact fq (Xo h11 h12)|exact fq (Xo (Xo h11 h12) h13)|exact Xy) ?_;refine brI (λh15=>?_) λh15=>?_
  ·
   intro h;obtain rfl:=oj h;exact Xa [Gf,Gf,Gf,Gf] (o:=by repeat' first|apply Ya|exact pcM|exact fq (Xo (Xo (Xo h11 h12) h13) (Xl h14 h15))|exact fq (Xl (Xo (Xo (Xo h11 h12) h13) (Xl h14 h15)) rfl)|exact Xy) (k:=wkT [] (X4.glue J))
  refine brI (λh16=>?_) λh16=>?_
  ·
   intro h;obtain rfl:=oj h;exact Xa [Gt,Gt,Gf,Gf] (o:=by repeat' first|apply Ya|exact pcM|exact fq (Xo (Xo (Xo h11 h12) h13) (Xl h14 h15))|exact fq (Xo (Xo (Xo (Xo h11 h12) h13) (Xl h14 h15)) h16)|exact Xy) (k:=wkT [] (X4.glue J))
  intro h;obtain rfl:=oj h;exact Xa [Gt,Gt,Gt,Gt] (o:=by repeat' first|apply Ya|exact pcM|exact fq (Xo (Xo (Xo h11 h12) h13) (Xl h14 h15))|exact fq (Xo (Xo (Xo (Xo h11 h12) h13) (Xl h14 h15)) h16)|exact Xy) (k:=wkT [] (X4.glue J))
 refine rnI [Gt,Gt,Gt,.el (aI .i64 (a3.length:Int)),Gt,Gt,Gt,Gt,Gt,Gt,Gf,Gf,Gt,Gt,Gt,.stop 999999] (o:=by repeat' first|apply Ya|exact pcM|exact fq (Xo h11 h12)|exact fq (Xo (Xo h11 h12) h13)|exact fq (Xo (Xo (Xo h11 h12) h13) (Xo h14 rfl))|exact Xy) ?_;refine brI (λh17=>?_) λh17=>?_
 ·
  intro h;obtain rfl:=oj h;exact Xa [Gf,Gf] (o:=by repeat' first|apply Ya|exact pcM|exact fq (Xo (Xo (Xo (Xo h11 h12) h13) (Xo h14 rfl)) h17)|exact Xy) (k:=wkT [] (X4.glue J))
 intro h;obtain rfl:=oj h;exact Xa [Gt,Gt] (o:=by repeat' first|apply Ya|exact pcM|exact fq (Xo (Xo (Xo (Xo h11 h12) h13) (Xo h14 rfl)) h17)|exact Xy) (k:=wkT [] (X4.glue J))⟩
instance Xq7:PCs Try.prog 57 (∀ (a0:Int) (a1:Bool) (a2:Int) (r:X9),X80 a0 a1 a2=some r->X0f Try.prog 57 [(aI .i64 a0),(aB a1),(aI .i64 a2)] (X6 true r)):=⟨λa0 a1 a2 r h=>by
 refine X0f.sym X8 Xxj (nt:=56) rfl rfl ?_ okM;unfold X80 at h;revert h;refine brI (λh17=>?_) λh17=>?_
 ·
  refine bI λXgw h21=>rnI [Bt] ?_;intro h;refine X4.join (s':=⟨fr [(5,(AV.ptr 0 0 0)),(6,(AV.ptr 1 0 0)),(7,(AV.fn 75 [(AV.ptr 0 0 0)])),(10,(aI .u8 Xgw))],hp ([(0,Ob [(aI .i64 a2)] 1),(1,Ob [(X6 true (X9.mk ([]:List X1) false))] 2)]),2⟩) ?_ (λJ=>X4.cut ?_)
  ·
   revert h;refine bI λv22 h23=>bI λv24 h25=>bI λXgu h29=>rnI [.pure [(aI .i64 0),(AV.elem false ((aI .i64) a2) 0)] (Lt (v22.map X0)),.pure [(aI .i64 0),(AV.elem false ((aI .i64) a2) 0)] (Lt (v22.map X0)),.pure _ (AV.tup [(Lt (v24.1.map X0)),(aI .i64 v24.2)]),.stop 13] (o:=by repeat' first|apply Ya|exact pcM|exact(X2j.lent (X2y _ _ _ h23) (cc .sc (cc (Xbs rfl rfl) cn)) (X5x (X0c Xz _)))|exact Xy) ?_;intro h;refine X4.join (s':=⟨fr [(6,(AV.ptr 0 0 0))],hp ([(0,Ob [(X6 true Xgu)] 2)]),1⟩) ?_ (λJ=>X4.cut ?_)
   ·
    revert h;exact λe=>oj e▸Xa [] (k:=fi)
   clear h;revert h29;refine brI (λh28=>?_) λh28=>?_
   ·
    intro h;obtain rfl:=oj h;exact Xa [Gt,Gt,.el (aI .i64 (v24.1.length:Int)),Gt] (o:=by repeat' first|apply Ya|exact pcM|exact(X2j.lent (X2y _ _ _ h23) (cc .sc (cc (Xbs rfl rfl) cn)) (X5x (X0c Xz _)))|exact Xy) (k:=wkT [(0,1)] (X4.glue J))
   intro h;obtain rfl:=oj h;exact Xa [Gf,Gf,Gf] (o:=by repeat' first|apply Ya|exact pcM|exact(X2j.lent (X2y _ _ _ h23) (cc .sc (cc (Xbs rfl rfl) cn)) (X5x (X0c Xz _)))|exact Xy) (k:=wkT [(0,1)] (X4.glue J))
  clear h;revert h21;refine brI (λh20=>?_) λh20=>?_
  ·
   intro h;obtain rfl:=oj h;refine X29 [Bt] ?_;refine X4.denil 1 [AV.agg [(Lt (List.map X0 ([]:List X1))),(aB false)]] rfl rfl ?_;exact wkT [] (X4.glue J)
  intro h;obtain rfl:=oj h;refine X29 [Bf] ?_;refine X4.denil 1 [AV.agg [(Lt (List.map X0 ([]:List X1))),(aB false)]] rfl rfl ?_;exact wkT [] (X4.glue J)
 refine brI (λh37=>?_) λh37=>?_
 ·
  refine rnI [Bf,Bt] ?_;intro h;refine X4.inline X8 Xw4 rfl rfl rfl rfl rfl trivial trivial rfl rfl ?_;refine X29 [] ?_;refine X4.back (by intro id h;cases h) rfl ?_;revert h;exact λe=>oj e▸Xa [Gt,Gt,Gt] (k:=fi)
 refine brI (λh44=>?_) λh44=>λe=>oj e▸Xa [Bf,Bf,.wrap,Bf,Gt,Gt,Gt] (k:=fi);refine bI λv45 h46=>bI λv47 h48=>bI λXma h52=>rnI [Bf,Bf,.wrap,Bt,.wrap,.pure [(aI .i64 (IntKind.i64.wrap (0 - a0))),(AV.elem false ((aI .i64) a2) 0)] (Lt (v45.map X0)),.pure _ (AV.tup [(Lt (v47.1.map X0)),(aI .i64 v47.2)]),.stop 13] (o:=by repeat' first|apply Ya|exact pcM|exact(X2j.lent (X2y _ _ _ h46) (cc .sc (cc (Xbs rfl rfl) cn)) (X5x (X0c Xz _)))|exact Xy) ?_;intro h;refine X4.join (s':=⟨fr [(6,(AV.ptr 0 0 0))],hp ([(0,Ob [(X6 true Xma)] 2)]),1⟩) ?_ (λJ=>X4.cut ?_)
 ·
  revert h;exact λe=>oj e▸Xa [] (k:=fi)
 clear h;revert h52;refine brI (λh51=>?_) λh51=>?_
 ·
  intro h;obtain rfl:=oj h;exact Xa [Gt,Gt,.el (aI .i64 (v47.1.length:Int)),Gt] (o:=by repeat' first|apply Ya|exact pcM|exact(X2j.lent (X2y _ _ _ h46) (cc .sc (cc (Xbs rfl rfl) cn)) (X5x (X0c Xz _)))|exact Xy) (k:=wkT [(0,1)] (X4.glue J))
 intro h;obtain rfl:=oj h;exact Xa [Gf,Gf,Gf] (o:=by repeat' first|apply Ya|exact pcM|exact(X2j.lent (X2y _ _ _ h46) (cc .sc (cc (Xbs rfl rfl) cn)) (X5x (X0c Xz _)))|exact Xy) (k:=wkT [(0,1)] (X4.glue J))⟩
theorem Xbn {Q:Xr->St->Mu->Prop} {μ:Mu} (rec:(List X1)->(List X9)->Int->Option ((List X1)×Int)) (hrec:∀ (a0:(List X1)) (a1:(List X9)) (a2:Int) (r:(List X1)×Int) (h:rec a0 a1 a2=some r),X0f Try.prog 58 [(Lf (a0.map X0)),(Lf (List.map (X6 false) a1)),(aI .i64 a2)] (AV.tup [(Lt (r.1.map X0)),(aI .i64 r.2)])) (X0a:(List X1)) (X5r:(List X9)) (Xi:X1) (X8t:Int) (Xf5:(List Int)) (hl:Xf5.length<=140737488355328):∀ (xs:List Int) (k:Nat) (hx:Xf5.drop k=xs) (Xc:(List (List X1))) (Xk:Nb Xc) (o:X4d) (h:X3a rec X0a X5r Xi X8t Xf5 xs k Xc=some o)
  (C0:∀ (Xs:(List (List X1))) (X0g:Nb Xs),o=X4d.x0 Xs->X4 Try.prog 77 0 Q (.exit (.exit 0)) [] ⟨fr [(8,(AV.ptr 0 0 0)),(10,(aI .i64 X8t)),(11,(slE X0g.1 1 (List.map (X5z true X0) Xs)))],hp ([(0,Ob [(X0 Xi)] 5)]++opE X0g.1 1 1 (List.map (X5z true X0) Xs)),2⟩ μ)
  (C1:∀ (X00:(List X1)) (Xen:Int) (X03:Nb X00),o=X4d.x1 X00 Xen->X4 Try.prog 77 0 Q (.exit .ret) [] ⟨fr [(6,(slE X03.1 0 (X00.map X0))),(7,(aI .i64 Xen))],hp ([]++opE X03.1 0 5 (X00.map X0)),1⟩ μ),
  X4 Try.prog 77 0 Q (.loop (X5l 0 (Xe Try.f58))) [] ⟨fr [(0,(Lf (X0a.map X0))),(1,(Lf (List.map (X6 false) X5r))),(8,(AV.ptr 0 0 0)),(10,(aI .i64 X8t)),(11,(slE Xk.1 1 (List.map (X5z true X0) Xc))),(43,(Lt (List.map (aI .i64) Xf5))),(44,(aI .i64 (Xf5.length:Int))),(45,(aI .i64 (k:Int)))],hp ([(0,Ob [(X0 Xi)] 5)]++opE Xk.1 1 1 (List.map (X5z true X0) Xc)),2⟩ μ:=by
 intro xs
 induction xs with
 |nil =>
  intro k hx Xc Xk o h C0 C1;have hk:=drop_nil hx;have hc:decide ((k:Int)<(Xf5.length:Int))=false:=Yf om;rw[X3a] at h;rcases Xk with ⟨_|_,X0i⟩
  ·
   refine X4.round ?_;revert h;exact λe=>Xa [Bf] (k:=wkT [] (C0 _  nbF (oj e).symm))
  ·
   obtain rfl:=X0i rfl;refine X4.round ?_;revert h;exact λe=>Xa [Bf] (k:=wkT [] (C0 _  nbS (oj e).symm))
 |cons x xs ih =>
  intro k hx Xc Xk o h C0 C1;obtain⟨hk,hg,hx1⟩:=drop_cons hx;have hc:decide ((k:Int)<(Xf5.length:Int))=true:=Yt om;rw[X3a] at h;rcases Xk with ⟨_|_,X0i⟩<;>(try obtain rfl:=X0i rfl);all_goals
   refine X4.round ?_;revert h;refine bI λv44 h45=>rnI [Bt,.el (aI .i64 x),.pure [(Lf (X0a.map X0)),(Lf (List.map (X6 false) X5r)),(aI .i64 x)] (AV.tup [(Lt (v44.1.map X0)),(aI .i64 v44.2)])] (o:=by repeat' first|apply Ya|exact pcM|exact(pn (hrec _ _ _ _ h45) (cc (X1m (X0c Xz X0a)) (cc (Xg3 (λ_=>rfl) (λx=>X7g X1h) X5r) (cc .sc cn))))|exact Xy) ?_;refine brI (λh46=>λe=>Xa [Bt] (k:=wkT [] (C1 _ _  nbS (oj e).symm))) λh46=>?_;refine bI λu47 h48=>rnI [Bf,.no] (o:=by repeat' first|apply Ya|exact pcM|(refine X0s h48 rfl ?_;first|(simp<;>omega)|(simp[hc,h46]<;>omega))|(refine Xw h48 (by decide) ?_;first|(simp<;>omega)|(simp[hc,h46]<;>omega))|exact Xy) ?_;intro h;exact wkT [(1,3)] (ih (k+1) hx1 _ nbF o h C0 C1)
theorem Xeh:∀ (n:Nat) (a0:(List X1)) (a1:(List X9)) (a2:Int) (r:(List X1)×Int) (h:X1e n a0 a1 a2=some r),X0f Try.prog 58 [(Lf (a0.map X0)),(Lf (List.map (X6 false) a1)),(aI .i64 a2)] (AV.tup [(Lt (r.1.map X0)),(aI .i64 r.2)]):=by
 intro n
 induction n with
 |zero=>intro a0 a1 a2 r h;cases h
 |succ n ih =>
  intro a0 a1 a2 r h;have hrec:=ih;refine X0f.sym X8 Xxi (nt:=77) rfl rfl ?_ (X0q .list (X0q .list (X0q .sc X61)));rw[X1e] at h;revert h;refine bI λe1 h2=>?_;try have qh2:=Xf h2
  refine brI (λh3=>?_) λh3=>?_
  ·
   refine bI λXm7 h15=>rnI [.el (X6 false e1),Bt,.el (X6 false e1)] ?_;intro h;refine X4.joinOpF (λ(q:Nb Xm7)=>⟨fr [(26,(slE q.1 0 (Xm7.map X0)))],hp ([]++opE q.1 0 5 (Xm7.map X0)),1⟩) ?_ (λJ=>?_)
   ·
    rintro Xpm;rcases Xpm with ⟨_|_,Xq4⟩<;>(try obtain rfl:=Xq4 rfl);all_goals
     revert h;exact λe=>oj e▸Xa [] (k:=fi)
   clear h;revert h15;intro h;refine X4.inline X8 Xvp rfl rfl rfl rfl rfl trivial trivial rfl rfl ?_;revert h;refine brI (λq=>?_) λq=>?_
   ·
    intro h;have h10:e1.value=[]:=List.isEmpty_iff.1 q;refine X29 [] ?_;refine X4.eqNil X8 (may:=true) rfl rfl rfl rfl rfl rfl trivial (by simp[X7a, *]) λb11 qb11=>?_;cases b11
    ·
     obtain rfl:=oj h;refine X29 [Bf,.ne false] ?_;refine X4.back (by intro id h;cases h) rfl ?_;exact wkT [] ((J nbS))
    obtain rfl:=oj h;refine X29 [Bt] ?_;refine X4.back (by intro id h;cases h) rfl ?_;exact wkT [] ((J nbS))
   intro h;have h10:¬ (e1.value=[]):=(λe=>by rw[e] at q;cases q);refine X29 [] ?_;refine X4.eqNil X8 (may:=false) rfl rfl rfl rfl rfl rfl trivial (by simp[X7a, *]) λb12 qb12=>?_;obtain rfl:=qb12 rfl;revert h;refine bI λu13 h14=>?_;intro h;obtain rfl:=oj h;refine X29 [Bf,.via (Lt (e1.value.map X0))] (o:=by repeat' first|apply Ya|exact pcM|(refine X0s h14 rfl ?_;first|(simp<;>omega)|(simp[h3,h10]<;>omega))|(refine Xw h14 (by decide) ?_;first|(simp<;>omega)|(simp[h3,h10]<;>omega))|exact Xy) ?_;refine X4.back (by intro id h;cases h) rfl ?_;exact wkT [(0,1)] ((J nbF))
  refine bI λe16 h17=>?_;try have qh17:=Xf h17
  refine bI λv18 h19=>brI (λh20=>?_) λh20=>?_
  ·
   refine bI λu21 h22=>?_;have qh22:=X1n h22;refine bI λo54 h55=>rnI [.el (X6 false e1),Bf,.el (X0 e16),.pure _ (AV.tup [(aI .i64 v18.1),(aI .i64 v18.2)]),.ne false,.el (aI .i64 (List.length ([]:List Int):Int))] (o:=by repeat' first|apply Ya|exact pcM|(have hp:=eq_of_beq h20;simp[hp];done)|(have hp:=eq_of_beq h20;simp at hp ⊢;omega)|(have hp:=eq_of_beq h20;subst hp;decide +kernel)|exact Xy) ?_;intro h;refine wkT [] (X4.cut (Xbn (X1e n) hrec a0 a1 e16 v18.2 [] qh22 [] 0 (by simp) _ nbS _ h55 ?_ ?_))
   ·
    intro Xs X0g eo54;subst eo54;refine X4.glue ?_;try dsimp only at h
    rcases X0g with ⟨_|_,X2w⟩<;>(try obtain rfl:=X2w rfl);all_goals
     revert h;refine brI (λh56=>?_) λh56=>?_
     ·
      exact λe=>oj e▸Xa [Bt] (o:=by repeat' first|apply Ya|exact pcM|(have hp:=eq_of_beq h20;simp[hp];done)|(have hp:=eq_of_beq h20;simp at hp ⊢;omega)|(have hp:=eq_of_beq h20;subst hp;decide +kernel)|exact Xy) (k:=fi)
     exact bI λv57 h58=>λe=>oj e▸Xa [Bf,.pure _ (AV.tup [(Lt (v57.1.map X0)),(aI .i64 v57.2)])] (o:=by repeat' first|apply Ya|exact pcM|(have hp:=eq_of_beq h20;simp[hp];done)|(have hp:=eq_of_beq h20;simp at hp ⊢;omega)|(have hp:=eq_of_beq h20;subst hp;decide +kernel)|exact Xy) (k:=fi)
   intro X00 Xen X03 eo54;subst eo54;refine X4.glue ?_;try dsimp only at h
   rcases X03 with ⟨_|_,X2v⟩<;>(try obtain rfl:=X2v rfl);all_goals
    revert h;exact λe=>oj e▸Xa [] (o:=by repeat' first|apply Ya|exact pcM|(have hp:=eq_of_beq h20;simp[hp];done)|(have hp:=eq_of_beq h20;simp at hp ⊢;omega)|(have hp:=eq_of_beq h20;subst hp;decide +kernel)|exact Xy) (k:=fi)
  refine brI (λh62=>?_) λh62=>?_
  ·
   refine rnI [.el (X6 false e1),Bf,.el (X0 e16),.pure _ (AV.tup [(aI .i64 v18.1),(aI .i64 v18.2)])] (o:=by repeat' first|apply Ya|exact pcM|(have hp:=eq_of_beq h62;simp[hp];done)|(have hp:=eq_of_beq h62;simp at hp ⊢;omega)|(have hp:=eq_of_beq h62;subst hp;decide +kernel)|exact Xy) ?_;intro h;refine X4.round ?_;revert h;refine bI λv63 h64=>rnI [Bt,.el ((aI .i64 e16.A)),.pure [(Lf (a0.map X0)),(Lf (List.map (X6 false) a1)),(aI .i64 e16.A)] (AV.tup [(Lt (v63.1.map X0)),(aI .i64 v63.2)])] (o:=by repeat' first|apply Ya|exact pcM|(have hp:=eq_of_beq h62;simp[hp];done)|(have hp:=eq_of_beq h62;simp at hp ⊢;omega)|(have hp:=eq_of_beq h62;subst hp;decide +kernel)|exact(pn (hrec _ _ _ _ h64) (cc (X1m (X0c Xz a0)) (cc (Xg3 (λ_=>rfl) (λx=>X7g X1h) a1) (cc .sc cn))))|exact Xy) ?_;refine brI (λh65=>?_) λh65=>?_
   ·
    exact λe=>oj e▸Xa [Bt] (o:=by repeat' first|apply Ya|exact pcM|(have hp:=eq_of_beq h62;simp[hp];done)|(have hp:=eq_of_beq h62;simp at hp ⊢;omega)|(have hp:=eq_of_beq h62;subst hp;decide +kernel)|exact Xy) (k:=fi)
   refine rnI [Bf,.no] (o:=by repeat' first|apply Ya|exact pcM|(have hp:=eq_of_beq h62;simp[hp];done)|(have hp:=eq_of_beq h62;simp at hp ⊢;omega)|(have hp:=eq_of_beq h62;subst hp;decide +kernel)|exact Xy) ?_;intro h;refine X4.round ?_;revert h;refine brI (λh66=>?_) λh66=>?_
   ·
    exact λe=>oj e▸Xa [Bf,Bt] (o:=by repeat' first|apply Ya|exact pcM|(have hp:=eq_of_beq h62;simp[hp];done)|(have hp:=eq_of_beq h62;simp at hp ⊢;omega)|(have hp:=eq_of_beq h62;subst hp;decide +kernel)|exact Xy) (k:=fi)
   exact bI λv67 h68=>λe=>oj e▸Xa [Bf,Bf,.pure _ (AV.tup [(Lt (v67.1.map X0)),(aI .i64 v67.2)])] (o:=by repeat' first|apply Ya|exact pcM|(have hp:=eq_of_beq h62;simp[hp];done)|(have hp:=eq_of_beq h62;simp at hp ⊢;omega)|(have hp:=eq_of_beq h62;subst hp;decide +kernel)|exact Xy) (k:=fi)
  refine brI (λh69=>?_) λh69=>?_
  ·
   refine rnI [.el (X6 false e1),Bf,.el (X0 e16),.pure _ (AV.tup [(aI .i64 v18.1),(aI .i64 v18.2)])] (o:=by repeat' first|apply Ya|exact pcM|(have hp:=eq_of_beq h69;simp[hp];done)|(have hp:=eq_of_beq h69;simp at hp ⊢;omega)|(have hp:=eq_of_beq h69;subst hp;decide +kernel)|exact Xy) ?_;intro h;refine X4.round ?_;revert h;refine bI λv70 h71=>rnI [Bt,.el ((aI .i64 e16.A)),.pure [(Lf (a0.map X0)),(Lf (List.map (X6 false) a1)),(aI .i64 e16.A)] (AV.tup [(Lt (v70.1.map X0)),(aI .i64 v70.2)])] (o:=by repeat' first|apply Ya|exact pcM|(have hp:=eq_of_beq h69;simp[hp];done)|(have hp:=eq_of_beq h69;simp at hp ⊢;omega)|(have hp:=eq_of_beq h69;subst hp;decide +kernel)|exact(pn (hrec _ _ _ _ h71) (cc (X1m (X0c Xz a0)) (cc (Xg3 (λ_=>rfl) (λx=>X7g X1h) a1) (cc .sc cn))))|exact Xy) ?_;refine brI (λh72=>?_) λh72=>?_
   ·
    exact λe=>oj e▸Xa [Bt] (o:=by repeat' first|apply Ya|exact pcM|(have hp:=eq_of_beq h69;simp[hp];done)|(have hp:=eq_of_beq h69;simp at hp ⊢;omega)|(have hp:=eq_of_beq h69;subst hp;decide +kernel)|exact Xy) (k:=fi)
   refine rnI [Bf,.no] (o:=by repeat' first|apply Ya|exact pcM|(have hp:=eq_of_beq h69;simp[hp];done)|(have hp:=eq_of_beq h69;simp at hp ⊢;omega)|(have hp:=eq_of_beq h69;subst hp;decide +kernel)|exact Xy) ?_;intro h;refine X4.round ?_;revert h;refine bI λv73 h74=>rnI [Bt,.el ((aI .i64 e16.B)),.pure [(Lf (a0.map X0)),(Lf (List.map (X6 false) a1)),(aI .i64 e16.B)] (AV.tup [(Lt (v73.1.map X0)),(aI .i64 v73.2)])] (o:=by repeat' first|apply Ya|exact pcM|(have hp:=eq_of_beq h69;simp[hp];done)|(have hp:=eq_of_beq h69;simp at hp ⊢;omega)|(have hp:=eq_of_beq h69;subst hp;decide +kernel)|exact(pn (hrec _ _ _ _ h74) (cc (X1m (X0c Xz a0)) (cc (Xg3 (λ_=>rfl) (λx=>X7g X1h) a1) (cc .sc cn))))|exact Xy) ?_;refine brI (λh75=>?_) λh75=>?_
   ·
    exact λe=>oj e▸Xa [Bt] (o:=by repeat' first|apply Ya|exact pcM|(have hp:=eq_of_beq h69;simp[hp];done)|(have hp:=eq_of_beq h69;simp at hp ⊢;omega)|(have hp:=eq_of_beq h69;subst hp;decide +kernel)|exact Xy) (k:=fi)
   refine rnI [Bf,.no] (o:=by repeat' first|apply Ya|exact pcM|(have hp:=eq_of_beq h69;simp[hp];done)|(have hp:=eq_of_beq h69;simp at hp ⊢;omega)|(have hp:=eq_of_beq h69;subst hp;decide +kernel)|exact Xy) ?_;intro h;refine X4.round ?_;revert h;refine brI (λh76=>?_) λh76=>?_
   ·
    exact λe=>oj e▸Xa [Bf,Bt] (o:=by repeat' first|apply Ya|exact pcM|(have hp:=eq_of_beq h69;simp[hp];done)|(have hp:=eq_of_beq h69;simp at hp ⊢;omega)|(have hp:=eq_of_beq h69;subst hp;decide +kernel)|exact Xy) (k:=fi)
   exact bI λv77 h78=>λe=>oj e▸Xa [Bf,Bf,.pure _ (AV.tup [(Lt (v77.1.map X0)),(aI .i64 v77.2)])] (o:=by repeat' first|apply Ya|exact pcM|(have hp:=eq_of_beq h69;simp[hp];done)|(have hp:=eq_of_beq h69;simp at hp ⊢;omega)|(have hp:=eq_of_beq h69;subst hp;decide +kernel)|exact Xy) (k:=fi)
  intro h;cases h
end Go.Av.Try