/- Printed by decomp.py: that the program computes the functions. -/
import Derived.Test.YtiabgnmhobiooaaDCert7Z
set_option linter.all false

namespace Go.Av.Try
open Go.Proofs Go.D
set_option maxRecDepth 10000
set_option maxHeartbeats 40000000
instance Xp5:PCs Try.prog 28 (∀ (a0:X2) (r:X2),X7t a0=some r->X0f Try.prog 28 [(X7 false a0)] (X7 true r)):=⟨λa0 r h=>by
 refine X0f.sym X8 Xy9 (nt:=19) rfl rfl ?_ okM;unfold X7t at h;revert h;refine brI (λq=>?_) λq=>?_
 ·
  intro h;have h1:a0.Arg=[]:=List.isEmpty_iff.1 q;revert h;refine brI (λq=>?_) λq=>?_
  ·
   intro h;have h2:a0.Where=[]:=List.isEmpty_iff.1 q;revert h;refine brI (λq=>?_) λq=>?_
   ·
    intro h;have h3:a0.Sources=[]:=List.isEmpty_iff.1 q;revert h;exact λe=>oj e▸Xa [.ne false,.ne false,.ne false] (k:=fi)
   intro h;have h3:¬ (a0.Sources=[]):=(λe=>by rw[e] at q;cases q);revert h;exact bI λu4 h5=>λe=>oj e▸Xa [.ne false,.ne false,.via (Lt (List.map (aI .i64) a0.Sources))] (o:=by repeat' first|apply Ya|exact pcM|(refine X0s h5 rfl ?_;first|(simp<;>omega)|(simp[h1,h2,h3]<;>omega))|(refine Xw h5 (by decide) ?_;first|(simp<;>omega)|(simp[h1,h2,h3]<;>omega))|exact Xy) (k:=fi)
  intro h;have h2:¬ (a0.Where=[]):=(λe=>by rw[e] at q;cases q);revert h;refine bI λu6 h7=>brI (λq=>?_) λq=>?_
  ·
   intro h;have h8:a0.Sources=[]:=List.isEmpty_iff.1 q;revert h;exact λe=>oj e▸Xa [.ne false,.via (Lt (a0.Where.map X0)),.ne false] (o:=by repeat' first|apply Ya|exact pcM|(refine X0s h7 rfl ?_;first|(simp<;>omega)|(simp[h1,h2,h8]<;>omega))|(refine Xw h7 (by decide) ?_;first|(simp<;>omega)|(simp[h1,h2,h8]<;>omega))|exact Xy) (k:=fi)
  intro h;have h8:¬ (a0.Sources=[]):=(λe=>by rw[e] at q;cases q);revert h;exact bI λu9 h10=>λe=>oj e▸Xa [.ne false,.via (Lt (a0.Where.map X0)),.via (Lt (List.map (aI .i64) a0.Sources))] (o:=by repeat' first|apply Ya|exact pcM|(refine X0s h7 rfl ?_;first|(simp<;>omega)|(simp[h1,h2,h8]<;>omega))|(refine Xw h7 (by decide) ?_;first|(simp<;>omega)|(simp[h1,h2,h8]<;>omega))|(refine X0s h10 rfl ?_;first|(simp<;>omega)|(simp[h1,h2,h8]<;>omega))|(refine Xw h10 (by decide) ?_;first|(simp<;>omega)|(simp[h1,h2,h8]<;>omega))|exact Xy) (k:=fi)
 intro h;have h1:¬ (a0.Arg=[]):=(λe=>by rw[e] at q;cases q);revert h;refine bI λu11 h12=>brI (λq=>?_) λq=>?_
 ·
  intro h;have h13:a0.Where=[]:=List.isEmpty_iff.1 q;revert h;refine brI (λq=>?_) λq=>?_
  ·
   intro h;have h14:a0.Sources=[]:=List.isEmpty_iff.1 q;revert h;exact λe=>oj e▸Xa [.via (Lt (a0.Arg.map X0)),.ne false,.ne false] (o:=by repeat' first|apply Ya|exact pcM|(refine X0s h12 rfl ?_;first|(simp<;>omega)|(simp[h1,h13,h14]<;>omega))|(refine Xw h12 (by decide) ?_;first|(simp<;>omega)|(simp[h1,h13,h14]<;>omega))|exact Xy) (k:=fi)
  intro h;have h14:¬ (a0.Sources=[]):=(λe=>by rw[e] at q;cases q);revert h;exact bI λu15 h16=>λe=>oj e▸Xa [.via (Lt (a0.Arg.map X0)),.ne false,.via (Lt (List.map (aI .i64) a0.Sources))] (o:=by repeat' first|apply Ya|exact pcM|(refine X0s h12 rfl ?_;first|(simp<;>omega)|(simp[h1,h13,h14]<;>omega))|(refine Xw h12 (by decide) ?_;first|(simp<;>omega)|(simp[h1,h13,h14]<;>omega))|(refine X0s h16 rfl ?_;first|(simp<;>omega)|(simp[h1,h13,h14]<;>omega))|(refine Xw h16 (by decide) ?_;first|(simp<;>omega)|(simp[h1,h13,h14]<;>omega))|exact Xy) (k:=fi)
 intro h;have h13:¬ (a0.Where=[]):=(λe=>by rw[e] at q;cases q);revert h;refine bI λu17 h18=>brI (λq=>?_) λq=>?_
 ·
  intro h;have h19:a0.Sources=[]:=List.isEmpty_iff.1 q;revert h;exact λe=>oj e▸Xa [.via (Lt (a0.Arg.map X0)),.via (Lt (a0.Where.map X0)),.ne false] (o:=by repeat' first|apply Ya|exact pcM|(refine X0s h12 rfl ?_;first|(simp<;>omega)|(simp[h1,h13,h19]<;>omega))|(refine Xw h12 (by decide) ?_;first|(simp<;>omega)|(simp[h1,h13,h19]<;>omega))|(refine X0s h18 rfl ?_;first|(simp<;>omega)|(simp[h1,h13,h19]<;>omega))|(refine Xw h18 (by decide) ?_;first|(simp<;>omega)|(simp[h1,h13,h19]<;>omega))|exact Xy) (k:=fi)
 intro h;have h19:¬ (a0.Sources=[]):=(λe=>by rw[e] at q;cases q);revert h;exact bI λu20 h21=>λe=>oj e▸Xa [.via (Lt (a0.Arg.map X0)),.via (Lt (a0.Where.map X0)),.via (Lt (List.map (aI .i64) a0.Sources))] (o:=by repeat' first|apply Ya|exact pcM|(refine X0s h12 rfl ?_;first|(simp<;>omega)|(simp[h1,h13,h19]<;>omega))|(refine Xw h12 (by decide) ?_;first|(simp<;>omega)|(simp[h1,h13,h19]<;>omega))|(refine X0s h18 rfl ?_;first|(simp<;>omega)|(simp[h1,h13,h19]<;>omega))|(refine Xw h18 (by decide) ?_;first|(simp<;>omega)|(simp[h1,h13,h19]<;>omega))|(refine X0s h21 rfl ?_;first|(simp<;>omega)|(simp[h1,h13,h19]<;>omega))|(refine Xw h21 (by decide) ?_;first|(simp<;>omega)|(simp[h1,h13,h19]<;>omega))|exact Xy) (k:=fi)⟩
theorem Xd5 {Q:Xr->St->Mu->Prop} {μ:Mu} (X0a:(List X1)) (X5r:Int) (Xnr:Int):∀ (n:Nat) (Xi:(List X1)) (X8t:Int) (X0n:Nb Xi) (o:X7k) (h:X31 X0a X5r Xnr n Xi X8t=some o)
  (C0:∀ (Xm:(List X1)) (X0d:Nb Xm),o=X7k.x0 Xm->X4 Try.prog 58 0 Q (.exit (.exit 0)) [] ⟨fr [(9,(slE X0d.1 0 (Xm.map X0)))],hp ([]++opE X0d.1 0 5 (Xm.map X0)),1⟩ μ),
  X4 Try.prog 58 0 Q (.loop (X5l 0 (Xe Try.f82))) [] ⟨fr [(0,(Lf (X0a.map X0))),(1,(aI .i64 X5r)),(8,(aI .i64 Xnr)),(9,(slE X0n.1 0 (Xi.map X0))),(10,(aI .i64 X8t))],hp ([]++opE X0n.1 0 5 (Xi.map X0)),1⟩ μ:=by
 intro n
 induction n with
 |zero=>intro Xi X8t X0n o h C0;cases h
 |succ n ih =>
  intro Xi X8t X0n o h C0;rw[X31] at h;rcases X0n with ⟨_|_,X35⟩
  ·
   refine X4.round ?_;revert h;refine brI (λh74=>?_) λh74=>λe=>Xa [Bf] (k:=wkT [] (C0 _  nbF (oj e).symm));refine bI λe75 h76=>?_;try have qh76:=Xf h76
   refine bI λv77 h78=>bI λXat h82=>rnI [Bt,.el (X0 e75),.pure _ (aI .i64 v77)] ?_;intro h;refine X4.join (s':=⟨fr [(0,(Lf (X0a.map X0))),(1,(aI .i64 X5r)),(8,(aI .i64 Xnr)),(9,(AV.ref 0 0 (Xi.length))),(10,(aI .i64 X8t)),(11,(AV.ptr 1 0 0))],hp ([(0,Ob (Xi.map X0) 5),(1,Ob [(X0 Xat)] 5)]),2⟩) ?_ (λJ=>X4.cut ?_)
   ·
    revert h;refine bI λv83 h84=>bI λXj8 h88=>rnI [.pure _ (aI .i64 v83)] ?_;intro h;refine X4.join (s':=⟨fr [(0,(Lf (X0a.map X0))),(1,(aI .i64 X5r)),(8,(aI .i64 Xnr)),(9,(AV.ref 0 0 (Xi.length))),(10,(aI .i64 X8t)),(11,(AV.ptr 1 0 0))],hp ([(0,Ob (Xi.map X0) 5),(1,Ob [(X0 Xj8)] 5)]),2⟩) ?_ (λJ=>X4.cut ?_)
    ·
     revert h;refine bI λu89 h90=>rnI [.no,.wrap] (o:=by repeat' first|apply Ya|exact pcM|(refine X0s h90 rfl ?_;first|(simp<;>omega)|(simp[h74]<;>omega))|(refine Xw h90 (by decide) ?_;first|(simp<;>omega)|(simp[h74]<;>omega))|exact Xy) ?_;intro h;exact wkT [(0,3)] (ih  _ _ nbF o h C0)
    clear h;revert h88;refine brI (λh87=>?_) λh87=>?_
    ·
     intro h;obtain rfl:=oj h;exact Xa [Bt,.wrap] (k:=wkT [] (X4.glue J))
    intro h;obtain rfl:=oj h;exact Xa [Bf] (k:=wkT [] (X4.glue J))
   clear h;revert h82;refine brI (λh81=>?_) λh81=>?_
   ·
    intro h;obtain rfl:=oj h;exact Xa [Bt,.wrap] (k:=wkT [] (X4.glue J))
   intro h;obtain rfl:=oj h;exact Xa [Bf] (k:=wkT [] (X4.glue J))
  obtain rfl:=X35 rfl;refine X4.round ?_;revert h;refine brI (λh91=>?_) λh91=>λe=>Xa [Bf] (k:=wkT [] (C0 _  nbS (oj e).symm));refine bI λe92 h93=>?_;try have qh93:=Xf h93
  refine bI λv94 h95=>bI λXuf h99=>rnI [Bt,.el (X0 e92),.pure _ (aI .i64 v94)] ?_;intro h;refine X4.join (s':=⟨fr [(0,(Lf (X0a.map X0))),(1,(aI .i64 X5r)),(8,(aI .i64 Xnr)),(9,AV.nils),(10,(aI .i64 X8t)),(11,(AV.ptr 1 0 0))],hp ([(1,Ob [(X0 Xuf)] 5)]),2⟩) ?_ (λJ=>X4.cut ?_)
  ·
   revert h;refine bI λv100 h101=>bI λXbh h105=>rnI [.pure _ (aI .i64 v100)] ?_;intro h;refine X4.join (s':=⟨fr [(0,(Lf (X0a.map X0))),(1,(aI .i64 X5r)),(8,(aI .i64 Xnr)),(9,AV.nils),(10,(aI .i64 X8t)),(11,(AV.ptr 1 0 0))],hp ([(1,Ob [(X0 Xbh)] 5)]),2⟩) ?_ (λJ=>X4.cut ?_)
   ·
    revert h;refine bI λu106 h107=>rnI [.no,.wrap] (o:=by repeat' first|apply Ya|exact pcM|(refine X0s h107 rfl ?_;first|(simp<;>omega)|(simp[h91]<;>omega))|(refine Xw h107 (by decide) ?_;first|(simp<;>omega)|(simp[h91]<;>omega))|exact Xy) ?_;intro h;exact wkT [(0,3)] (ih  _ _ nbF o h C0)
   clear h;revert h105;refine brI (λh104=>?_) λh104=>?_
   ·
    intro h;obtain rfl:=oj h;exact Xa [Bt,.wrap] (k:=wkT [] (X4.glue J))
   intro h;obtain rfl:=oj h;exact Xa [Bf] (k:=wkT [] (X4.glue J))
  clear h;revert h99;refine brI (λh98=>?_) λh98=>?_
  ·
   intro h;obtain rfl:=oj h;exact Xa [Bt,.wrap] (k:=wkT [] (X4.glue J))
  intro h;obtain rfl:=oj h;exact Xa [Bf] (k:=wkT [] (X4.glue J))
instance Xqv:PCs Try.prog 82 (∀ (a0:(List X1)) (a1:Int) (r:(List X1)),X8x a0 a1=some r->X0f Try.prog 82 [(Lf (a0.map X0)),(aI .i64 a1)] (Lt (r.map X0))):=⟨λa0 a1 r h=>by
 refine X0f.sym X8 Xww (nt:=58) rfl rfl ?_ okM;unfold X8x at h;revert h;refine bI λv1 h2=>bI λe3 h4=>?_;try have qh4:=Xf h4
 refine bI λo108 h109=>rnI [.pure _ (AV.tup [(Lt (List.map (aI .i64) v1.1)),(Lt (List.map (aI .i64) v1.2.1)),(aB v1.2.2)]),.wrap,.el (aI .i64 e3),.wrap] ?_;intro h;refine wkT [] (X4.cut (Xd5 a0 a1 (IntKind.i64.wrap ((IntKind.i64.wrap (a1+1)) - e3)) _ _ _ nbS _ h109 ?_));intro Xm X0d eo108;subst eo108;refine X4.glue ?_;try dsimp only at h
 rcases X0d with ⟨_|_,X2x⟩<;>(try obtain rfl:=X2x rfl);all_goals
  revert h;exact λe=>oj e▸Xa [] (k:=fi)⟩
theorem Xb9 {Q:Xr->St->Mu->Prop} {μ:Mu} (X0a:(List X1)) (hl:X0a.length<=140737488355328):∀ (xs:List X1) (k:Nat) (hx:X0a.drop k=xs) (o:X48) (h:X2n X0a xs k  = some o)
  (C0:o=X48.x0->X4 Try.prog 24 0 Q (.exit (.exit 0)) [] ⟨fr [],hp ([]),0⟩ μ)
  (C1:o=X48.x1->X4 Try.prog 24 0 Q (.exit .ret) [] ⟨fr [(2,(aB false))],hp ([]),0⟩ μ),
  X4 Try.prog 24 0 Q (.loop (X5l 0 (Xe Try.f47))) [] ⟨fr [(0,(Lf (X0a.map X0))),(3,(aI .i64 (k:Int)))],hp ([]),0⟩ μ:=by
 intro xs
 induction xs with
 |nil =>
  intro k hx  o h C0 C1;have hk:=drop_nil hx;have hc:decide ((k:Int)<(X0a.length:Int))=false:=Yf om;rw[X2n] at h;refine X4.round ?_;revert h;exact λe=>Xa [.el (aI .i64 (X0a.length:Int)),Bf] (k:=wkT [] (C0  (oj e).symm))
 |cons x xs ih =>
  intro k hx  o h C0 C1;obtain⟨hk,hg,hx1⟩:=drop_cons hx;have hc:decide ((k:Int)<(X0a.length:Int))=true:=Yt om;rw[X2n] at h;refine X4.round ?_;revert h;refine bI λXmk h17=>rnI [.el (aI .i64 (X0a.length:Int)),Bt,.stop 4] ?_;intro h;refine X4.join (s':=⟨fr [(0,(Lf (X0a.map X0))),(3,(aI .i64 (k:Int))),(23,(aB Xmk))],hp ([]),0⟩) ?_ (λJ=>X4.cut ?_)
  ·
   revert h;refine brI (λh18=>λe=>Xa [Bt] (k:=wkT [] (C1  (oj e).symm))) λh18=>rnI [Bf] ?_;intro h;exact wkT [] (ih (k+1) hx1  o h C0 C1)
  clear h;revert h17;refine brI (λh16=>?_) λh16=>?_
  ·
   intro h;obtain rfl:=oj h;exact Xa [.el (X0 x),Gt,Gt,Gt,.el (X0 x),Gt,Gt,Gt] (k:=wkT [] (X4.glue J))
  intro h;obtain rfl:=oj h;exact Xa [.el (X0 x),Gf,Gf,Gf,Gf,Gf,Gf] (k:=wkT [] (X4.glue J))
instance Xnz:PCs Try.prog 47 (∀ (a0:(List X1)) (r:Bool),X5d a0=some r->X0f Try.prog 47 [(Lf (a0.map X0))] (aB r)):=⟨λa0 r h=>by
 refine X0f.sym X8 Xxs (nt:=24) rfl rfl ?_ okM;unfold X5d at h;revert h;refine bI λu1 h2=>?_;have qh2:=X1n h2;refine bI λo19 h20=>rnI [] ?_;intro h;refine wkT [] (X4.cut (Xb9 a0 qh2 a0 0 (by simp) _ h20 ?_ ?_))
 ·
  intro eo19;subst eo19;refine X4.glue ?_;try dsimp only at h
  revert h;exact λe=>oj e▸Xa [] (k:=fi)
 intro eo19;subst eo19;refine X4.glue ?_;try dsimp only at h
 revert h;exact λe=>oj e▸Xa [] (k:=fi)⟩
instance Xob:PCs Try.prog 86 (∀ (a0:Bool) (r:Int),X4k a0=some r->X0f Try.prog 86 [(aB a0)] (aI .i64 r)):=⟨λa0 r h=>by
 refine X0f.sym X8 Xws (nt:=4) rfl rfl ?_ okM;unfold X4k at h;revert h;exact brI (λh1=>λe=>oj e▸Xa [Bt] (k:=fi)) λh1=>λe=>oj e▸Xa [Bf] (k:=fi)⟩
instance Xod:PCs Try.prog 88 (∀ (a0:Int) (r:Int),X5h a0=some r->X0f Try.prog 88 [(aI .i64 a0)] (aI .i64 r)):=⟨λa0 r h=>by
 refine X0f.sym X8 Xwq (nt:=7) rfl rfl ?_ okM;unfold X5h at h;revert h;exact λe=>oj e▸Xa [.wrap,.wrap] (k:=fi)⟩
theorem Xbd {Q:Xr->St->Mu->Prop} {μ:Mu} (X0a:Int):∀ (n:Nat) (Xb2:Int) (Xrg:Int) (o:X64) (h:X24 X0a n Xb2 Xrg=some o)
  (C0:∀ (X7r:Int),o=X64.x0 X7r->X4 Try.prog 14 0 Q (.exit (.exit 0)) [] ⟨fr [(3,(aI .i64 X7r))],hp ([]),0⟩ μ),
  X4 Try.prog 14 0 Q (.loop (X5l 0 (Xe Try.f87))) [] ⟨fr [(0,(aI .i64 X0a)),(3,(aI .i64 Xb2)),(4,(aI .i64 Xrg))],hp ([]),0⟩ μ:=by
 intro n
 induction n with
 |zero=>intro Xb2 Xrg o h C0;cases h
 |succ n ih =>
  intro Xb2 Xrg o h C0;rw[X24] at h;refine X4.round ?_;revert h;refine brI (λh4=>?_) λh4=>λe=>Xa [Bf] (k:=wkT [] (C0 _  (oj e).symm));refine rnI [Bt,.wrap,.wrap] ?_;intro h;exact wkT [] (ih  _ _ o h C0)
instance Xoa:PCs Try.prog 87 (∀ (a0:Int) (r:Int),X5g a0=some r->X0f Try.prog 87 [(aI .i64 a0)] (aI .i64 r)):=⟨λa0 r h=>by
 refine X0f.sym X8 Xwr (nt:=14) rfl rfl ?_ okM;unfold X5g at h;revert h;refine bI λo5 h6=>rnI [] ?_;intro h;refine wkT [] (X4.cut (Xbd a0 _ _ _ _ h6 ?_));intro X7r eo5;subst eo5;refine X4.glue ?_;try dsimp only at h
 revert h;exact λe=>oj e▸Xa [] (k:=fi)⟩
instance Xpa:PCs Try.prog 89 (∀ (a0:Int) (r:Int),X7v a0=some r->X0f Try.prog 89 [(aI .i64 a0)] (aI .i64 r)):=⟨λa0 r h=>by
 refine X0f.sym X8 Xwp (nt:=11) rfl rfl ?_ okM;unfold X7v at h;revert h;exact brI (λh1=>λe=>oj e▸Xa [Bt,.wrap,.wrap] (k:=fi)) λh1=>λe=>oj e▸Xa [Bf,.wrap] (k:=fi)⟩
instance Xkq:PCs Try.prog 90 (∀ (a0:Int) (a1:Int) (a2:Int) (r:Bool),X6d a0 a1 a2=some r->X0f Try.prog 90 [(aI .u8 a0),(aI .i64 a1),(aI .i64 a2)] (aB r)):=⟨λa0 a1 a2 r h=>by
 refine X0f.sym X8 Xwo (nt:=46) rfl rfl ?_ okM;unfold X6d at h;revert h;exact brI (λh1=>λe=>oj e▸Xa [Bt] (k:=fi)) λh1=>brI (λh2=>λe=>oj e▸Xa [Bf,Bt] (k:=fi)) λh2=>brI (λh3=>λe=>oj e▸Xa [Bf,Bf,Bt] (k:=fi)) λh3=>brI (λh4=>λe=>oj e▸Xa [Bf,Bf,Bf,Bt] (k:=fi)) λh4=>brI (λh5=>λe=>oj e▸Xa [Bf,Bf,Bf,Bf,Bt] (k:=fi)) λh5=>λe=>oj e▸Xa [Bf,Bf,Bf,Bf,Bf] (k:=fi)⟩
theorem Xbe {Q:Xr->St->Mu->Prop} {μ:Mu} (Xtv:Int):∀ (n:Nat) (X5r:Int) (Xrf:Int) (o:X65) (h:X25 Xtv n X5r Xrf=some o)
  (C0:∀ (Xer:Int),o=X65.x0 Xer->X4 Try.prog 74 0 Q (.exit (.exit 1)) [] ⟨fr [(1,(aI .i64 Xer))],hp ([]),0⟩ μ),
  X4 Try.prog 74 0 Q (.loop (X5l 0 (Xe Try.f68))) [] ⟨fr [(1,(aI .i64 X5r)),(2,(aI .i64 Xtv)),(7,(aI .i64 Xrf))],hp ([]),0⟩ μ:=by
 intro n
 induction n with
 |zero=>intro X5r Xrf o h C0;cases h
 |succ n ih =>
  intro X5r Xrf o h C0;rw[X25] at h;refine X4.round ?_;revert h;refine bI λv25 h26=>brI (λh27=>?_) λh27=>λe=>Xa [.pure _ (aI .i64 v25),Bf] (k:=wkT [] (C0 _  (oj e).symm));refine bI λv28 h29=>rnI [.pure _ (aI .i64 v25),Bt,.pure _ (aI .i64 v28),.wrap] ?_;intro h;exact wkT [] (ih  _ _ o h C0)
instance Xoc:PCs Try.prog 68 (∀ (a0:Int) (a1:Int) (a2:Int) (r:Int),X2p a0 a1 a2=some r->X0f Try.prog 68 [(aI .u8 a0),(aI .i64 a1),(aI .i64 a2)] (aI .i64 r)):=⟨λa0 a1 a2 r h=>by
 refine X0f.sym X8 Xx8 (nt:=74) rfl rfl ?_ okM;unfold X2p at h;revert h;refine brI (λh1=>λe=>oj e▸Xa [Bt,.wrap] (k:=fi)) λh1=>brI (λh2=>bI λv3 h4=>λe=>oj e▸Xa [Bf,Bt,.pure _ (aI .i64 v3)] (k:=fi)) λh2=>brI (λh5=>λe=>oj e▸Xa [Bf,Bf,Bt,.wrap] (k:=fi)) λh5=>brI (λh6=>λe=>oj e▸Xa [Bf,Bf,Bf,Bt,.wrap] (k:=fi)) λh6=>brI (λh7=>λe=>oj e▸Xa [Bf,Bf,Bf,Bf,Bt,.wrap] (k:=fi)) λh7=>brI (λh8=>bI λv9 h10=>bI λv11 h12=>λe=>oj e▸Xa [Bf,Bf,Bf,Bf,Bf,Bt,.pure _ (aI .i64 v9),.pure _ (aI .i64 v11),.wrap] (k:=fi)) λh8=>?_;refine brI (λh13=>?_) λh13=>brI (λh32=>bI λv33 h34=>λe=>oj e▸Xa [Bf,Bf,Bf,Bf,Bf,Bf,Bf,Bt,.pure _ (aI .i64 v33)] (k:=fi)) λh32=>brI (λh35=>bI λv36 h37=>λe=>oj e▸Xa [Bf,Bf,Bf,Bf,Bf,Bf,Bf,Bf,Bt,.pure _ (aI .i64 v36)] (k:=fi)) λh35=>bI λv38 h39=>bI λv40 h41=>λe=>oj e▸Xa [Bf,Bf,Bf,Bf,Bf,Bf,Bf,Bf,Bf,.pure _ (aB v38),.pure _ (aI .i64 v40)] (k:=fi);refine bI λo30 h31=>rnI [Bf,Bf,Bf,Bf,Bf,Bf,Bt] ?_;intro h;refine wkT [] (X4.cut (Xbe a2 _ _ _ _ h31 ?_));intro Xer eo30;subst eo30;refine X4.glue ?_;try dsimp only at h
 revert h;exact λe=>oj e▸Xa [] (k:=fi)⟩
theorem X9u:∀ (n:Nat) (a0:(List X1)) (a1:Int) (a2:X0z) (r:Int) (h:X01 n a0 a1 a2=some r),X0f Try.prog 48 [(Lf (a0.map X0)),(aI .i64 a1),(X1g a2)] (aI .i64 r):=by
 intro n
 induction n with
 |zero=>intro a0 a1 a2 r h;cases h
 |succ n ih =>
  intro a0 a1 a2 r h;have hrec:=ih;refine X0f.sym X8 Xxr (nt:=49) rfl rfl ?_ (X0q .list (X0q .sc (X0q (X5y _ _).1 X61)));rw[X01] at h;revert h;refine bI λe1 h2=>?_;try have qh2:=Xf h2
  refine brI (λh3=>λe=>oj e▸Xa [.el (X0 e1),Bt] (k:=fi)) λh3=>brI (λh4=>λe=>oj e▸Xa [.el (X0 e1),Bf,Bt] (k:=fi)) λh4=>brI (λh5=>λe=>oj e▸Xa [.el (X0 e1),Bf,Bf,Bt] (k:=fi)) λh5=>brI (λh6=>λe=>oj e▸Xa [.el (X0 e1),Bf,Bf,Bf,Bt] (k:=fi)) λh6=>bI λv7 h8=>bI λXst h16=>rnI [.el (X0 e1),Bf,Bf,Bf,Bf,.pure _ (aI .i64 v7)] ?_;intro h;refine X4.join (s':=⟨fr [(0,(Lf (a0.map X0))),(5,(AV.ptr 0 0 0)),(7,(AV.ptr 1 0 0)),(8,(aI .i64 Xst))],hp ([(0,Ob [(X1g a2)] 3),(1,Ob [(X0 e1)] 5)]),2⟩) ?_ (λJ=>X4.cut ?_)
  ·
   revert h;exact bI λv17 h18=>bI λv19 h20=>λe=>oj e▸Xa [.pure [(Lf (a0.map X0)),(aI .i64 e1.A),(X1g a2)] (aI .i64 v17),.pure _ (aI .i64 v19)] (o:=by repeat' first|apply Ya|exact pcM|exact(pn (hrec _ _ _ _ h18) (cc (X1m (X0c Xz a0)) (cc .sc (cc (X8l (x:=a2)) cn))))|exact Xy) (k:=fi)
  clear h;revert h16;refine brI (λh13=>?_) λh13=>?_
  ·
   refine bI λv14 h15=>?_;intro h;obtain rfl:=oj h;exact Xa [Bt,.pure [(Lf (a0.map X0)),(aI .i64 e1.B),(X1g a2)] (aI .i64 v14)] (o:=by repeat' first|apply Ya|exact pcM|exact(pn (hrec _ _ _ _ h15) (cc (X1m (X0c Xz a0)) (cc .sc (cc (X8l (x:=a2)) cn))))|exact Xy) (k:=wkT [] (X4.glue J))
  intro h;obtain rfl:=oj h;exact Xa [Bf] (k:=wkT [] (X4.glue J))
instance Xlh:PCs Try.prog 93 (∀ (a0:Int) (a1:Int) (r:(List X1)),X3k a0 a1=some r->X0f Try.prog 93 [(aI .i64 a0),(aI .i64 a1)] (Lt (r.map X0))):=⟨λa0 a1 r h=>by
 refine X0f.sym X8 Xwm (nt:=9) rfl rfl ?_ okM;unfold X3k at h;revert h;exact λe=>oj e▸Xa [] (k:=fi)⟩
theorem X8p {Q:Xr->St->Mu->Prop} {μ:Mu} (Xnq:(List (List X1))) (Xf4:X1) (Xe0:Int) (Xdz:Int):∀ (n:Nat) (Xae:(List X1)) (Xc2:Int) (Xap:Nb Xae) (o:X6w) (h:X2g Xnq Xf4 Xe0 Xdz n Xae Xc2=some o)
  (C0:∀ (X32:(List X1)) (X6l:Nb X32),o=X6w.x0 X32->X4 Try.prog 79 0 Q (.exit (.exit 2)) [] ⟨fr [(3,(Lf (List.map (X5z false X0) Xnq))),(9,(slE X6l.1 0 (X32.map X0))),(10,(AV.ptr 1 0 0)),(11,(aI .i64 Xe0))],hp ([(1,Ob [(X0 Xf4)] 5)]++opE X6l.1 0 5 (X32.map X0)),2⟩ μ),
  X4 Try.prog 79 0 Q (.loop (X5l 1 (Xe Try.f84))) [] ⟨fr [(3,(Lf (List.map (X5z false X0) Xnq))),(9,(slE Xap.1 0 (Xae.map X0))),(10,(AV.ptr 1 0 0)),(11,(aI .i64 Xe0)),(12,(aI .i64 Xdz)),(13,(aI .i64 Xc2))],hp ([(1,Ob [(X0 Xf4)] 5)]++opE Xap.1 0 5 (Xae.map X0)),2⟩ μ:=by
 intro n
 induction n with
 |zero=>intro Xae Xc2 Xap o h C0;cases h
 |succ n ih =>
  intro Xae Xc2 Xap o h C0;rw[X2g] at h;rcases Xap with ⟨_|_,Xq1⟩
  ·
   refine X4.round ?_;revert h;refine bI λe505 h506=>?_;try have qh506:=Xf h506
   refine brI (λh507=>?_) λh507=>λe=>Xa [.el (X5z false X0 e505),.el (aI .i64 (e505.length:Int)),Bf] (k:=wkT [] (C0 _  nbF (oj e).symm));refine bI λe508 h509=>?_;try have qh509:=Xf h509
   refine bI λv510 h511=>bI λX8h h515=>rnI [.el (X5z false X0 e505),.el (aI .i64 (e505.length:Int)),Bt,.el (X5z false X0 e505),.el (X0 e508),.pure _ (aI .i64 v510)] ?_;intro h;refine X4.join (s':=⟨fr [(3,(Lf (List.map (X5z false X0) Xnq))),(9,(AV.ref 0 0 (Xae.length))),(10,(AV.ptr 1 0 0)),(11,(aI .i64 Xe0)),(12,(aI .i64 Xdz)),(13,(aI .i64 Xc2)),(14,(AV.ptr 2 0 0))],hp ([(0,Ob (Xae.map X0) 5),(1,Ob [(X0 Xf4)] 5),(2,Ob [(X0 X8h)] 5)]),3⟩) ?_ (λJ=>X4.cut ?_)
   ·
    revert h;refine bI λv516 h517=>bI λXfm h521=>rnI [.pure _ (aI .i64 v516)] ?_;intro h;refine X4.join (s':=⟨fr [(3,(Lf (List.map (X5z false X0) Xnq))),(9,(AV.ref 0 0 (Xae.length))),(10,(AV.ptr 1 0 0)),(11,(aI .i64 Xe0)),(12,(aI .i64 Xdz)),(13,(aI .i64 Xc2)),(14,(AV.ptr 2 0 0))],hp ([(0,Ob (Xae.map X0) 5),(1,Ob [(X0 Xf4)] 5),(2,Ob [(X0 Xfm)] 5)]),3⟩) ?_ (λJ=>X4.cut ?_)
    ·
     revert h;refine bI λu522 h523=>rnI [.no,.wrap] (o:=by repeat' first|apply Ya|exact pcM|(refine X0s h523 rfl ?_;first|(simp<;>omega)|(simp[h507]<;>omega))|(refine Xw h523 (by decide) ?_;first|(simp<;>omega)|(simp[h507]<;>omega))|exact Xy) ?_;intro h;exact wkT [(0,4)] (ih  _ _ nbF o h C0)
    clear h;revert h521;refine brI (λh520=>?_) λh520=>?_
    ·
     intro h;obtain rfl:=oj h;exact Xa [Bt,.wrap] (k:=wkT [] (X4.glue J))
    intro h;obtain rfl:=oj h;exact Xa [Bf] (k:=wkT [] (X4.glue J))
   clear h;revert h515;refine brI (λh514=>?_) λh514=>?_
   ·
    intro h;obtain rfl:=oj h;exact Xa [Bt,.wrap] (k:=wkT [] (X4.glue J))
   intro h;obtain rfl:=oj h;exact Xa [Bf] (k:=wkT [] (X4.glue J))
  obtain rfl:=Xq1 rfl;refine X4.round ?_;revert h;refine bI λe524 h525=>?_;try have qh525:=Xf h525
  refine brI (λh526=>?_) λh526=>λe=>Xa [.el (X5z false X0 e524),.el (aI .i64 (e524.length:Int)),Bf] (k:=wkT [] (C0 _  nbS (oj e).symm));refine bI λe527 h528=>?_;try have qh528:=Xf h528
  refine bI λv529 h530=>bI λXsh h534=>rnI [.el (X5z false X0 e524),.el (aI .i64 (e524.length:Int)),Bt,.el (X5z false X0 e524),.el (X0 e527),.pure _ (aI .i64 v529)] ?_;intro h;refine X4.join (s':=⟨fr [(3,(Lf (List.map (X5z false X0) Xnq))),(9,AV.nils),(10,(AV.ptr 1 0 0)),(11,(aI .i64 Xe0)),(12,(aI .i64 Xdz)),(13,(aI .i64 Xc2)),(14,(AV.ptr 2 0 0))],hp ([(1,Ob [(X0 Xf4)] 5),(2,Ob [(X0 Xsh)] 5)]),3⟩) ?_ (λJ=>X4.cut ?_)
  ·
   revert h;refine bI λv535 h536=>bI λXsg h540=>rnI [.pure _ (aI .i64 v535)] ?_;intro h;refine X4.join (s':=⟨fr [(3,(Lf (List.map (X5z false X0) Xnq))),(9,AV.nils),(10,(AV.ptr 1 0 0)),(11,(aI .i64 Xe0)),(12,(aI .i64 Xdz)),(13,(aI .i64 Xc2)),(14,(AV.ptr 2 0 0))],hp ([(1,Ob [(X0 Xf4)] 5),(2,Ob [(X0 Xsg)] 5)]),3⟩) ?_ (λJ=>X4.cut ?_)
   ·
    revert h;refine bI λu541 h542=>rnI [.no,.wrap] (o:=by repeat' first|apply Ya|exact pcM|(refine X0s h542 rfl ?_;first|(simp<;>omega)|(simp[h526]<;>omega))|(refine Xw h542 (by decide) ?_;first|(simp<;>omega)|(simp[h526]<;>omega))|exact Xy) ?_;intro h;exact wkT [(0,4)] (ih  _ _ nbF o h C0)
   clear h;revert h540;refine brI (λh539=>?_) λh539=>?_
   ·
    intro h;obtain rfl:=oj h;exact Xa [Bt,.wrap] (k:=wkT [] (X4.glue J))
   intro h;obtain rfl:=oj h;exact Xa [Bf] (k:=wkT [] (X4.glue J))
  clear h;revert h534;refine brI (λh533=>?_) λh533=>?_
  ·
   intro h;obtain rfl:=oj h;exact Xa [Bt,.wrap] (k:=wkT [] (X4.glue J))
  intro h;obtain rfl:=oj h;exact Xa [Bf] (k:=wkT [] (X4.glue J))
theorem Xc8 {Q:Xr->St->Mu->Prop} {μ:Mu} (Xb2:(List (List X1))) (hl:Xb2.length<=140737488355328):∀ (xs:List (List X1)) (k:Nat) (hx:Xb2.drop k=xs) (Xi:(List X1)) (Xc:X1) (X0n:Nb Xi) (o:X6x) (h:X1b Xb2 xs k Xi Xc=some o)
  (C0:∀ (Xm:(List X1)) (Xs:X1) (X0d:Nb Xm),o=X6x.x0 Xm Xs->X4 Try.prog 79 0 Q (.exit (.exit 0)) [] ⟨fr [(9,(slE X0d.1 0 (Xm.map X0))),(10,(AV.ptr 1 0 0))],hp ([(1,Ob [(X0 Xs)] 5)]++opE X0d.1 0 5 (Xm.map X0)),2⟩ μ),
  X4 Try.prog 79 0 Q (.loop (X5l 0 (Xe Try.f84))) [] ⟨fr [(3,(Lf (List.map (X5z false X0) Xb2))),(9,(slE X0n.1 0 (Xi.map X0))),(10,(AV.ptr 1 0 0)),(11,(aI .i64 (k:Int)))],hp ([(1,Ob [(X0 Xc)] 5)]++opE X0n.1 0 5 (Xi.map X0)),2⟩ μ:=by
 intro xs
 induction xs with
 |nil =>
  intro k hx Xi Xc X0n o h C0;have hk:=drop_nil hx;have hc:decide ((k:Int)<(Xb2.length:Int))=false:=Yf om;rw[X1b] at h;rcases X0n with ⟨_|_,X35⟩
  ·
   refine X4.round ?_;revert h;exact λe=>Xa [.el (aI .i64 (Xb2.length:Int)),Bf] (k:=wkT [] (C0 _ _  nbF (oj e).symm))
  ·
   obtain rfl:=X35 rfl;refine X4.round ?_;revert h;exact λe=>Xa [.el (aI .i64 (Xb2.length:Int)),Bf] (k:=wkT [] (C0 _ _  nbS (oj e).symm))
 |cons x xs ih =>
  intro k hx Xi Xc X0n o h C0;obtain⟨hk,hg,hx1⟩:=drop_cons hx;have hc:decide ((k:Int)<(Xb2.length:Int))=true:=Yt om;rw[X1b] at h;rcases X0n with ⟨_|_,X35⟩
  ·
   refine X4.round ?_;revert h;refine bI λo543 h544=>rnI [.el (aI .i64 (Xb2.length:Int)),Bt,.el (aI .i64 (Xi.length:Int))] ?_;intro h;refine wkT [] (X4.cut (X8p Xb2 Xc (k:Int) (Xi.length:Int) _ _ _ nbF _ h544 ?_));intro X32 X6l eo543;subst eo543;refine X4.glue ?_;try dsimp only at h
   rcases X6l with ⟨_|_,Xbk⟩
   ·
    revert h;refine bI λXhx h548=>rnI [] ?_;intro h;refine X4.join (s':=⟨fr [(3,(Lf (List.map (X5z false X0) Xb2))),(9,(AV.ref 0 0 (X32.length))),(10,(AV.ptr 1 0 0)),(11,(aI .i64 (k:Int)))],hp ([(0,Ob (X32.map X0) 5),(1,Ob [(X0 Xhx)] 5)]),2⟩) ?_ (λJ=>X4.cut ?_)
    ·
     exact Xa [] (k:=wkT [] (ih (k+1) hx1 _ _ nbF o h C0))
    clear h;revert h548;refine brI (λh547=>?_) λh547=>?_
    ·
     intro h;obtain rfl:=oj h;exact Xa [Bt,.el (aI .i64 (X32.length:Int)),.wrap] (k:=wkT [] (X4.glue J))
    intro h;obtain rfl:=oj h;exact Xa [Bf,.el (aI .i64 (X32.length:Int)),.wrap] (k:=wkT [] (X4.glue J))
   obtain rfl:=Xbk rfl;revert h;refine bI λXsf h552=>rnI [] ?_;intro h;refine X4.join (s':=⟨fr [(3,(Lf (List.map (X5z false X0) Xb2))),(9,AV.nils),(10,(AV.ptr 1 0 0)),(11,(aI .i64 (k:Int)))],hp ([(1,Ob [(X0 Xsf)] 5)]),2⟩) ?_ (λJ=>X4.cut ?_)
   ·
    exact Xa [] (k:=wkT [] (ih (k+1) hx1 _ _ nbS o h C0))
   clear h;revert h552;refine brI (λh551=>?_) λh551=>?_
   ·
    intro h;obtain rfl:=oj h;exact Xa [Bt,.el (aI .i64 (List.length ([]:List X1):Int)),.wrap] (k:=wkT [] (X4.glue J))
   intro h;obtain rfl:=oj h;exact Xa [Bf,.el (aI .i64 (List.length ([]:List X1):Int)),.wrap] (k:=wkT [] (X4.glue J))
  obtain rfl:=X35 rfl;refine X4.round ?_;revert h;refine bI λo630 h631=>rnI [.el (aI .i64 (Xb2.length:Int)),Bt,.el (aI .i64 (List.length ([]:List X1):Int))] ?_;intro h;refine wkT [] (X4.cut (X8p Xb2 Xc (k:Int) (List.length ([]:List X1):Int) _ _ _ nbS _ h631 ?_));intro X32 X6l eo630;subst eo630;refine X4.glue ?_;try dsimp only at h
  rcases X6l with ⟨_|_,Xbk⟩
  ·
   revert h;refine bI λXsd h635=>rnI [] ?_;intro h;refine X4.join (s':=⟨fr [(3,(Lf (List.map (X5z false X0) Xb2))),(9,(AV.ref 0 0 (X32.length))),(10,(AV.ptr 1 0 0)),(11,(aI .i64 (k:Int)))],hp ([(0,Ob (X32.map X0) 5),(1,Ob [(X0 Xsd)] 5)]),2⟩) ?_ (λJ=>X4.cut ?_)
   ·
    exact Xa [] (k:=wkT [] (ih (k+1) hx1 _ _ nbF o h C0))
   clear h;revert h635;refine brI (λh634=>?_) λh634=>?_
   ·
    intro h;obtain rfl:=oj h;exact Xa [Bt,.el (aI .i64 (X32.length:Int)),.wrap] (k:=wkT [] (X4.glue J))
   intro h;obtain rfl:=oj h;exact Xa [Bf,.el (aI .i64 (X32.length:Int)),.wrap] (k:=wkT [] (X4.glue J))
  obtain rfl:=Xbk rfl;revert h;refine bI λXsc h639=>rnI [] ?_;intro h;refine X4.join (s':=⟨fr [(3,(Lf (List.map (X5z false X0) Xb2))),(9,AV.nils),(10,(AV.ptr 1 0 0)),(11,(aI .i64 (k:Int)))],hp ([(1,Ob [(X0 Xsc)] 5)]),2⟩) ?_ (λJ=>X4.cut ?_)
  ·
   exact Xa [] (k:=wkT [] (ih (k+1) hx1 _ _ nbS o h C0))
  clear h;revert h639;refine brI (λh638=>?_) λh638=>?_
  ·
   intro h;obtain rfl:=oj h;exact Xa [Bt,.el (aI .i64 (List.length ([]:List X1):Int)),.wrap] (k:=wkT [] (X4.glue J))
  intro h;obtain rfl:=oj h;exact Xa [Bf,.el (aI .i64 (List.length ([]:List X1):Int)),.wrap] (k:=wkT [] (X4.glue J))
instance Xp9:PCs Try.prog 84 (∀ (a0:Int) (a1:Int) (a2:Int) (a3:(List (List X1))) (r:(List X1)),X1k a0 a1 a2 a3=some r->X0f Try.prog 84 [(aI .u8 a0),(aI .i64 a1),(aI .i64 a2),(Lf (List.map (X5z false X0) a3))] (Lt (r.map X0))):=⟨λa0 a1 a2 a3 r h=>by
 refine X0f.sym X8 Xwu (nt:=79) rfl rfl ?_ okM;unfold X1k at h;revert h;refine bI λu1 h2=>?_;have qh2:=X1n h2;refine bI λo640 h641=>rnI [] ?_;intro h;refine wkT [(1,0)] (X4.cut (Xc8 a3 qh2 a3 0 (by simp) _ _ nbS _ h641 ?_));intro Xm Xs X0d eo640;subst eo640;refine X4.glue ?_;try dsimp only at h
 rcases X0d with ⟨_|_,X2x⟩<;>(try obtain rfl:=X2x rfl);all_goals
  revert h;exact bI λu642 h643=>λe=>oj e▸Xa [.no] (o:=by repeat' first|apply Ya|exact pcM|(refine X0s h643 rfl ?_;first|(simp<;>omega))|(refine Xw h643 (by decide) ?_;first|(simp<;>omega))|exact Xy) (k:=fi)⟩
end Go.Av.Try