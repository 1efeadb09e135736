/- Printed by decomp.py: that the program computes the functions. -/
import Derived.Test.YtmkegegjcihooaaGreatDCert1Z
set_option linter.all false

namespace Go.Av.Tryz
open Go.Proofs Go.D
set_option maxRecDepth 100000
set_option maxHeartbeats 40000000
instance X02z:PCs Tryz.prog 75 (∀ (a0:X0e) (r:X0e),Xdn a0=some r->X05 Tryz.prog 75 [(Xq false a0)] (Xq true r)):=⟨λa0 r h=>by
 refine X05.sym X9 fn75 (nt:=10) rfl rfl ?_ okM;unfold Xdn at h;revert h;refine brI (λq=>?_) λq=>?_
 ·
  intro h;have h1:a0.List=[]:=List.isEmpty_iff.1 q;revert h;exact λe=>oj e▸X3 [.see [(4,[0])],.ne false] (k:=fi)
 intro h;have h1:¬ (a0.List=[]):=(λe=>by rw[e] at q;cases q);revert h;exact bI λu2 h3=>λe=>oj e▸X3 [.see [(4,[0])],.via (Lt (a0.List.map Xw))] (o:=by repeat' first|apply Ya|exact pcM|(refine X1n h3 rfl ?_;first|(simp<;>omega)|(simp[h1]<;>omega))|(refine X0h h3 (by decide) ?_;first|(simp<;>omega)|(simp[h1]<;>omega))|exact X04) (k:=fi)⟩
theorem Xgt {Q:Xp->St->Mu->Prop} {μ:Mu} (X08:(List X0e)) (hl:X08.length<=140737488355328):∀ (xs:List X0e) (k:Nat) (hx:X08.drop k=xs) (Xe:(List X0e)) (X1r:Nb Xe) (o:X8n) (h:X2b X08 xs k Xe=some o)
  (C0:∀ (Xz:(List X0e)) (X0f:Nb Xz),o=X8n.x0 Xz->X0 Tryz.prog 20 0 Q (.exit (.exit 0)) [] ⟨fr [(3,(slE X0f.1 0 (List.map (Xq true) Xz)))],hp ([]++opE X0f.1 0 2 (List.map (Xq true) Xz)),1⟩ μ),
  X0 Tryz.prog 20 0 Q (.loop (X0w 0 (Xd Tryz.f39))) [] ⟨fr [(0,(Lf (List.map (Xq false) X08))),(3,(slE X1r.1 0 (List.map (Xq true) Xe))),(4,(aI .i64 (k:Int)))],hp ([]++opE X1r.1 0 2 (List.map (Xq true) Xe)),1⟩ μ:=by
 intro xs
 induction xs with
 |nil =>
  intro k hx Xe X1r o h C0;have hk:=X06 hx;have hc:decide ((k:Int)<(X08.length:Int))=false:=Yf om;rw[X2b] at h;rcases X1r with ⟨_|_,X6l⟩
  ·
   refine X0.round ?_;revert h;exact λe=>X3 [.el (aI .i64 (X08.length:Int)),Bf] (k:=wkT [] (C0 _  nbF (oj e).symm))
  ·
   obtain rfl:=X6l rfl;refine X0.round ?_;revert h;exact λe=>X3 [.el (aI .i64 (X08.length:Int)),Bf] (k:=wkT [] (C0 _  nbS (oj e).symm))
 |cons x xs ih =>
  intro k hx Xe X1r o h C0;obtain⟨hk,hg,hx1⟩:=Xy hx;have hc:decide ((k:Int)<(X08.length:Int))=true:=Yt om;rw[X2b] at h;rcases X1r with ⟨_|_,X6l⟩<;>(try obtain rfl:=X6l rfl);all_goals
   refine X0.round ?_;revert h;refine bI λv20 h21=>bI λu22 h23=>rnI [.el (aI .i64 (X08.length:Int)),Bt,.el (Xq false x),.pure _ (Xq true v20),.no] (o:=by repeat' first|apply Ya|exact pcM|(refine X1n h23 rfl ?_;first|(simp<;>omega)|(simp[hc]<;>omega))|(refine X0h h23 (by decide) ?_;first|(simp<;>omega)|(simp[hc]<;>omega))|exact X04) ?_;intro h;exact wkT [(0,2)] (ih (k+1) hx1 _ nbF o h C0)
instance Xwc:PCs Tryz.prog 39 (∀ (a0:(List X0e)) (r:(List X0e)),Xav a0=some r->X05 Tryz.prog 39 [(Lf (List.map (Xq false) a0))] (Lt (List.map (Xq false) r))):=⟨λa0 r h=>by
 refine X05.sym X9 fn39 (nt:=20) rfl rfl ?_ okM;unfold Xav at h;revert h;refine bI λu1 h2=>?_;have qh2:=X0l h2;refine bI λo28 h29=>rnI [] ?_;intro h;refine wkT [] (X0.cut (Xgt a0 qh2 a0 0 (by simp) _ nbS _ h29 ?_));intro Xz X0f eo28;subst eo28;refine X0.glue ?_;try dsimp only at h
 rcases X0f with ⟨_|_,X4s⟩<;>(try obtain rfl:=X4s rfl);all_goals
  revert h;exact λe=>oj e▸X3 [] (k:=fi)⟩
theorem Xke {Q:Xp->St->Mu->Prop} {μ:Mu} (Xe:Xf) (Xj:Xf):∀ (n:Nat) (Xa9:(List Xv)) (Xgp:Int) (Xhp:Nb Xa9) (o:Xbv) (h:X6j Xe Xj n Xa9 Xgp=some o)
  (C0:∀ (Xf3:(List Xv)) (Xg5:Nb Xf3),o=Xbv.x0 Xf3->X0 Tryz.prog 28 0 Q (.exit (.exit 0)) [] ⟨fr [(1,(AV.ptr 0 0 0)),(2,(AV.ptr 1 0 0)),(3,(slE Xg5.1 2 (List.map (Xa true) Xf3)))],hp ([(0,Ob [(Xc false Xe)] 14),(1,Ob [(Xc true Xj)] 14)]++opE Xg5.1 2 9 (List.map (Xa true) Xf3)),3⟩ μ),
  X0 Tryz.prog 28 0 Q (.loop (X0w 0 (Xd Tryz.f12))) [] ⟨fr [(1,(AV.ptr 0 0 0)),(2,(AV.ptr 1 0 0)),(3,(slE Xhp.1 2 (List.map (Xa true) Xa9))),(4,(aI .i64 Xgp))],hp ([(0,Ob [(Xc false Xe)] 14),(1,Ob [(Xc true Xj)] 14)]++opE Xhp.1 2 9 (List.map (Xa true) Xa9)),3⟩ μ:=by
 intro n
 induction n with
 |zero=>intro Xa9 Xgp Xhp o h C0;cases h
 |succ n ih =>
  intro Xa9 Xgp Xhp o h C0;rw[X6j] at h;rcases Xhp with ⟨_|_,X042⟩
  ·
   refine X0.round ?_;revert h;refine brI (λh30=>?_) λh30=>λe=>X3 [.el (aI .i64 (Xe.Tasks.length:Int)),Bf] (k:=wkT [] (C0 _  nbF (oj e).symm));refine bI λe31 h32=>?_;try have qh32:=Xi h32
   refine bI λv33 h34=>bI λu35 h36=>rnI [.el (aI .i64 (Xe.Tasks.length:Int)),Bt,.el (Xa false e31),.pure _ (Xa true v33),.no,.wrap] (o:=by repeat' first|apply Ya|exact pcM|(refine X1n h36 rfl ?_;first|(simp<;>omega)|(simp[h30]<;>omega))|(refine X0h h36 (by decide) ?_;first|(simp<;>omega)|(simp[h30]<;>omega))|exact X04) ?_;intro h;exact wkT [(2,4)] (ih  _ _ nbF o h C0)
  obtain rfl:=X042 rfl;refine X0.round ?_;revert h;refine brI (λh37=>?_) λh37=>λe=>X3 [.el (aI .i64 (Xe.Tasks.length:Int)),Bf] (k:=wkT [] (C0 _  nbS (oj e).symm));refine bI λe38 h39=>?_;try have qh39:=Xi h39
  refine bI λv40 h41=>bI λu42 h43=>rnI [.el (aI .i64 (Xe.Tasks.length:Int)),Bt,.el (Xa false e38),.pure _ (Xa true v40),.no,.wrap] (o:=by repeat' first|apply Ya|exact pcM|(refine X1n h43 rfl ?_;first|(simp<;>omega)|(simp[h37]<;>omega))|(refine X0h h43 (by decide) ?_;first|(simp<;>omega)|(simp[h37]<;>omega))|exact X04) ?_;intro h;exact wkT [(2,4)] (ih  _ _ nbF o h C0)
instance X02s:PCs Tryz.prog 12 (∀ (a0:Xf) (r:Xf),Xdh a0=some r->X05 Tryz.prog 12 [(Xc false a0)] (Xc false r)):=⟨λa0 r h=>by
 refine X05.sym X9 fn12 (nt:=28) rfl rfl ?_ okM;unfold Xdh at h;refine X1f [] ?_;refine X0.denil 1 [AV.agg [(aI .u8 0),(Lt (List.map X2 ([]:List X02))),(Lt (List.map (aI .i64) ([]:List Int))),(aB false),(Lt (List.map X2 ([]:List X02))),(aI .u8 0),(aI .i64 0),(aI .i64 0),(aB false),(aI .u8 0),(Lt (List.map X2g ([]:List GOp))),(Lt (List.map X8 ([]:List Xk))),(Lt (List.map (Xa true) ([]:List Xv))),(Lt (List.map (Xq true) ([]:List X0e)))]] rfl rfl ?_;revert h;refine bI λo44 h45=>rnI [] ?_;intro h;refine wkT [] (X0.cut (Xke a0 (Xf.mk (X1t.mk 0 ([]:List X02) ([]:List Int) false ([]:List X02) (X5v.mk 0 0 0) false 0) (Xt.mk ([]:List GOp) ([]:List Xk)) ([]:List Xv) ([]:List X0e)) _ _ _ nbS _ h45 ?_));intro Xf3 Xg5 eo44;subst eo44;refine X0.glue ?_;try dsimp only at h
 rcases Xg5 with ⟨_|_,Xvn⟩<;>(try obtain rfl:=Xvn rfl);all_goals
  revert h;exact bI λv46 h47=>λe=>oj e▸X3 [.pure _ (Lt (List.map (Xq false) v46))] (k:=fi)⟩
instance X01v:PCs Tryz.prog 278 (∀ (a0:Int) (r:Int×Int),Xcb a0=some r->X05 Tryz.prog 278 [(aI .u8 a0)] (AV.tup [(aI .i64 r.1),(aI .i64 r.2)])):=⟨λa0 r h=>by
 refine X05.sym X9 X0c4 (nt:=25) rfl rfl ?_ okM;unfold Xcb at h;revert h;exact brI (λh1=>λe=>oj e▸X3 [Bt] (k:=fi)) λh1=>brI (λh2=>λe=>oj e▸X3 [Bf,Bt] (k:=fi)) λh2=>brI (λh3=>λe=>oj e▸X3 [Bf,Bf,Bt] (k:=fi)) λh3=>λe=>oj e▸X3 [Bf,Bf,Bf] (k:=fi)⟩
end Go.Av.Tryz