/- Printed by decomp.py: that the program computes the functions. -/
import Derived.Test.YtnfamdbgcgjlaaaGreatDoorDCert7Z
set_option linter.all false

namespace Go.Av.Tryz
open Go.Proofs Go.D
set_option maxRecDepth 10000
set_option maxHeartbeats 40000000
theorem Xcd {Q:Xi->St->Mu->Prop} {μ:Mu} (Xr:Xa):∀ (n:Nat) (Xg:Xa) (Xjp:Int) (o:X4i) (h:X3j Xr n Xg Xjp=some o)
  (C0:∀ (Xbe:Int),o=X4i.x0 Xbe->X4 Tryz.prog 37 0 Q (.exit .ret) [] ⟨fr [(2,(AV.ptr 0 0 0)),(3,(aI .i64 Xbe))],hp ([(0,Ob [(X8 true (Xa.mk 0 ([]:List X1) ([]:List Int) false ([]:List X1) (Xk.mk 0 0 0) false 0))] 10)]),1⟩ μ)
  (C1:∀ (X4r:Xa),o=X4i.x1 X4r->X4 Tryz.prog 37 0 Q (.exit (.exit 0)) [] ⟨fr [(2,(AV.ptr 0 0 0)),(4,(AV.ptr 1 0 0))],hp ([(0,Ob [(X8 true Xr)] 10),(1,Ob [(X8 false X4r)] 10)]),2⟩ μ),
  X4 Tryz.prog 37 0 Q (.loop (X7j 0 (X3 Tryz.f10))) [] ⟨fr [(2,(AV.ptr 0 0 0)),(4,(AV.ptr 1 0 0)),(11,(aI .i64 Xjp))],hp ([(0,Ob [(X8 true Xr)] 10),(1,Ob [(X8 false Xg)] 10)]),2⟩ μ:=by
 intro n
 induction n with
 |zero=>intro Xg Xjp o h C0 C1;cases h
 |succ n ih =>
  intro Xg Xjp o h C0 C1;rw[X3j] at h;refine X4.round ?_;revert h;refine brI (λh24=>?_) λh24=>λe=>Xd [Bf] (k:=wkT [] (C1 _  (oj e).symm));refine rnI [Bt] ?_;intro h;refine X4.round ?_;revert h;refine bI λv25 h26=>brI (λh27=>?_) λh27=>?_
  ·
   refine λe=>X34 [Bt,.pure _ (AV.tup [(X8 false v25.1),(aB v25.2.1),(aI .i64 v25.2.2)]),Bt] ?_;refine X4.denil 0 [AV.agg [(aI .u8 0),(Lt (List.map X0 ([]:List X1))),(Lt (List.map (aI .i64) ([]:List Int))),(aB false),(Lt (List.map X0 ([]:List X1))),(aI .u8 0),(aI .i64 0),(aI .i64 0),(aB false),(aI .u8 0)]] rfl rfl ?_;exact wkT [] (C0 _  (oj e).symm)
  refine rnI [Bt,.pure _ (AV.tup [(X8 false v25.1),(aB v25.2.1),(aI .i64 v25.2.2)]),Bf,Gt] ?_;intro h;refine X4.round ?_;revert h;refine bI λv28 h29=>brI (λh30=>?_) λh30=>?_
  ·
   refine λe=>X34 [Bt,.pure _ (AV.tup [(X8 false v28.1),(aB v28.2.1),(aI .i64 v28.2.2)]),Bt] ?_;refine X4.denil 0 [AV.agg [(aI .u8 0),(Lt (List.map X0 ([]:List X1))),(Lt (List.map (aI .i64) ([]:List Int))),(aB false),(Lt (List.map X0 ([]:List X1))),(aI .u8 0),(aI .i64 0),(aI .i64 0),(aB false),(aI .u8 0)]] rfl rfl ?_;exact wkT [] (C0 _  (oj e).symm)
  refine rnI [Bt,.pure _ (AV.tup [(X8 false v28.1),(aB v28.2.1),(aI .i64 v28.2.2)]),Bf] ?_;intro h;refine X4.round ?_;revert h;refine bI λv31 h32=>brI (λh33=>?_) λh33=>?_
  ·
   refine λe=>X34 [Bt,.pure _ (AV.tup [(X8 false v31.1),(aB v31.2.1),(aI .i64 v31.2.2)]),Bt] ?_;refine X4.denil 0 [AV.agg [(aI .u8 0),(Lt (List.map X0 ([]:List X1))),(Lt (List.map (aI .i64) ([]:List Int))),(aB false),(Lt (List.map X0 ([]:List X1))),(aI .u8 0),(aI .i64 0),(aI .i64 0),(aB false),(aI .u8 0)]] rfl rfl ?_;exact wkT [] (C0 _  (oj e).symm)
  refine rnI [Bt,.pure _ (AV.tup [(X8 false v31.1),(aB v31.2.1),(aI .i64 v31.2.2)]),Bf] ?_;intro h;refine X4.round ?_;revert h;refine brI (λh34=>λe=>Xd [Bf,Bt] (k:=wkT [] (C1 _  (oj e).symm))) λh34=>rnI [Bf,Bf,.wrap] ?_;intro h;exact wkT [] (ih  _ _ o h C0 C1)
instance Xr1:PCs Tryz.prog 10 (∀ (a0:Xa) (r:Xa×Int),X2j a0=some r->X06 Tryz.prog 10 [(X8 false a0)] (AV.tup [(X8 false r.1),(aI .i64 r.2)])):=⟨λa0 r h=>by
 refine X06.sym X7 fn10 (nt:=37) rfl rfl ?_ okM;unfold X2j at h;refine X34 [] ?_;refine X4.denil 1 [AV.agg [(aI .u8 0),(Lt (List.map X0 ([]:List X1))),(Lt (List.map (aI .i64) ([]:List Int))),(aB false),(Lt (List.map X0 ([]:List X1))),(aI .u8 0),(aI .i64 0),(aI .i64 0),(aB false),(aI .u8 0)]] rfl rfl ?_;revert h;refine bI λo35 h36=>rnI [] ?_;intro h;refine wkT [(0,1),(1,2)] (X4.cut (Xcd (Xa.mk 0 ([]:List X1) ([]:List Int) false ([]:List X1) (Xk.mk 0 0 0) false 0) _ _ _ _ h36 ?_ ?_))
 ·
  intro Xbe eo35;subst eo35;refine X4.glue ?_;try dsimp only at h
  revert h;exact λe=>oj e▸Xd [] (k:=fi)
 intro X4r eo35;subst eo35;refine X4.glue ?_;try dsimp only at h
 revert h;exact λe=>oj e▸Xd [] (k:=fi)⟩
theorem Xcf {Q:Xi->St->Mu->Prop} {μ:Mu} (X0l:(List X1)) (X87:(List X1)) (hl:X0l.length<=140737488355328):∀ (xs:List X1) (k:Nat) (hx:X0l.drop k=xs) (o:X4k) (h:X2e X0l X87 xs k  = some o)
  (C0:o=X4k.x0->X4 Tryz.prog 26 0 Q (.exit (.exit 0)) [] ⟨fr [],hp ([]),0⟩ μ)
  (C1:o=X4k.x1->X4 Tryz.prog 26 0 Q (.exit .ret) [] ⟨fr [(4,(aB false))],hp ([]),0⟩ μ),
  X4 Tryz.prog 26 0 Q (.loop (X7j 0 (X3 Tryz.f23))) [] ⟨fr [(0,(Lf (X0l.map X0))),(1,(Lf (X87.map X0))),(5,(aI .i64 (k:Int)))],hp ([]),0⟩ μ:=by
 intro xs
 induction xs with
 |nil =>
  intro k hx  o h C0 C1;have hk:=drop_nil hx;have hc:decide ((k:Int)<(X0l.length:Int))=false:=Yf om;rw[X2e] at h;refine X4.round ?_;revert h;exact λe=>Xd [.el (aI .i64 (X0l.length:Int)),Bf] (k:=wkT [] (C0  (oj e).symm))
 |cons x xs ih =>
  intro k hx  o h C0 C1;obtain⟨hk,hg,hx1⟩:=drop_cons hx;have hc:decide ((k:Int)<(X0l.length:Int))=true:=Yt om;rw[X2e] at h;refine X4.round ?_;revert h;refine bI λe11 h12=>?_;try have qh12:=Xm h12
  refine brI (λh13=>λe=>Xd [.el (aI .i64 (X0l.length:Int)),Bt,.el (X0 x),.el (X0 e11),Bt] (k:=wkT [] (C1  (oj e).symm))) λh13=>rnI [.el (aI .i64 (X0l.length:Int)),Bt,.el (X0 x),.el (X0 e11),Bf] ?_;intro h;exact wkT [] (ih (k+1) hx1  o h C0 C1)
instance Xr3:PCs Tryz.prog 23 (∀ (a0:(List X1)) (a1:(List X1)) (r:Bool),X5p a0 a1=some r->X06 Tryz.prog 23 [(Lf (a0.map X0)),(Lf (a1.map X0))] (aB r)):=⟨λa0 a1 r h=>by
 refine X06.sym X7 fn23 (nt:=26) rfl rfl ?_ okM;unfold X5p at h;revert h;refine brI (λh1=>λe=>oj e▸Xd [.el (aI .i64 (a0.length:Int)),.el (aI .i64 (a1.length:Int)),Bt] (k:=fi)) λh1=>bI λu2 h3=>?_;have qh3:=X1x h3;refine bI λo14 h15=>rnI [.el (aI .i64 (a0.length:Int)),.el (aI .i64 (a1.length:Int)),Bf] ?_;intro h;refine wkT [] (X4.cut (Xcf a0 a1 qh3 a0 0 (by simp) _ h15 ?_ ?_))
 ·
  intro eo14;subst eo14;refine X4.glue ?_;try dsimp only at h
  revert h;exact λe=>oj e▸Xd [] (k:=fi)
 intro eo14;subst eo14;refine X4.glue ?_;try dsimp only at h
 revert h;exact λe=>oj e▸Xd [] (k:=fi)⟩
theorem X8s {Q:Xi->St->Mu->Prop} {μ:Mu} (X0l:(List Int)) (X87:(List Int)) (hl:X0l.length<=140737488355328):∀ (xs:List Int) (k:Nat) (hx:X0l.drop k=xs) (o:X2k) (h:X0r X0l X87 xs k  = some o)
  (C0:o=X2k.x0->X4 Tryz.prog 26 0 Q (.exit (.exit 0)) [] ⟨fr [],hp ([]),0⟩ μ)
  (C1:o=X2k.x1->X4 Tryz.prog 26 0 Q (.exit .ret) [] ⟨fr [(4,(aB false))],hp ([]),0⟩ μ),
  X4 Tryz.prog 26 0 Q (.loop (X7j 0 (X3 Tryz.f15))) [] ⟨fr [(0,(Lf (List.map (aI .i64) X0l))),(1,(Lf (List.map (aI .i64) X87))),(5,(aI .i64 (k:Int)))],hp ([]),0⟩ μ:=by
 intro xs
 induction xs with
 |nil =>
  intro k hx  o h C0 C1;have hk:=drop_nil hx;have hc:decide ((k:Int)<(X0l.length:Int))=false:=Yf om;rw[X0r] at h;refine X4.round ?_;revert h;exact λe=>Xd [.el (aI .i64 (X0l.length:Int)),Bf] (k:=wkT [] (C0  (oj e).symm))
 |cons x xs ih =>
  intro k hx  o h C0 C1;obtain⟨hk,hg,hx1⟩:=drop_cons hx;have hc:decide ((k:Int)<(X0l.length:Int))=true:=Yt om;rw[X0r] at h;refine X4.round ?_;revert h;refine bI λe11 h12=>?_;try have qh12:=Xm h12
  refine brI (λh13=>λe=>Xd [.el (aI .i64 (X0l.length:Int)),Bt,.el (aI .i64 x),.el (aI .i64 e11),Bt] (k:=wkT [] (C1  (oj e).symm))) λh13=>rnI [.el (aI .i64 (X0l.length:Int)),Bt,.el (aI .i64 x),.el (aI .i64 e11),Bf] ?_;intro h;exact wkT [] (ih (k+1) hx1  o h C0 C1)
instance Xjl:PCs Tryz.prog 15 (∀ (a0:(List Int)) (a1:(List Int)) (r:Bool),X1u a0 a1=some r->X06 Tryz.prog 15 [(Lf (List.map (aI .i64) a0)),(Lf (List.map (aI .i64) a1))] (aB r)):=⟨λa0 a1 r h=>by
 refine X06.sym X7 fn15 (nt:=26) rfl rfl ?_ okM;unfold X1u at h;revert h;refine brI (λh1=>λe=>oj e▸Xd [.el (aI .i64 (a0.length:Int)),.el (aI .i64 (a1.length:Int)),Bt] (k:=fi)) λh1=>bI λu2 h3=>?_;have qh3:=X1x h3;refine bI λo14 h15=>rnI [.el (aI .i64 (a0.length:Int)),.el (aI .i64 (a1.length:Int)),Bf] ?_;intro h;refine wkT [] (X4.cut (X8s a0 a1 qh3 a0 0 (by simp) _ h15 ?_ ?_))
 ·
  intro eo14;subst eo14;refine X4.glue ?_;try dsimp only at h
  revert h;exact λe=>oj e▸Xd [] (k:=fi)
 intro eo14;subst eo14;refine X4.glue ?_;try dsimp only at h
 revert h;exact λe=>oj e▸Xd [] (k:=fi)⟩
instance Xl2:PCs Tryz.prog 13 (∀ (a0:Xa) (a1:Xa) (r:Bool),Xy a0 a1=some r->X06 Tryz.prog 13 [(X8 false a0),(X8 false a1)] (aB r)):=⟨λa0 a1 r h=>by
 refine X06.sym X7 fn13 (nt:=59) rfl rfl ?_ okM;unfold Xy at h;revert h;refine bI λXxx h28=>rnI [.stop 1] ?_;intro h;refine X4.join (s':=⟨fr [(4,(aB Xxx))],hp ([]),0⟩) ?_ (λJ=>X4.cut ?_)
 ·
  revert h;exact λe=>oj e▸Xd [] (k:=fi)
 clear h;revert h28;refine brI (λh15=>?_) λh15=>?_
 ·
  refine bI λv16 h17=>brI (λh18=>?_) λh18=>?_
  ·
   refine bI λv19 h20=>brI (λh21=>?_) λh21=>?_
   ·
    refine rnI [Gt,Gt,Gt,Gt,Gt,.pure _ (aB v16),Gt,Gt,Gt,Gt,Gt,.pure _ (aB v19),Gt,Gt,Gt,Gt,Gt,.stop 999999] (o:=by repeat' first|apply Ya|exact pcM|exact fq (X6 h15 h18)|exact fq (X6 (X6 h15 h18) h21)|exact Xu) ?_;refine brI (λh22=>?_) λh22=>?_
    ·
     refine bI λv23 h24=>brI (λh25=>?_) λh25=>?_
     ·
      refine brI (λh26=>?_) λh26=>?_
      ·
       refine rnI [Gt,Gt,Gt,Gt,Gt,.pure _ (aB v23),Gt,Gt,Gt,Gt,Gt,Gt,Gt,Gt,Gt,Gt,.stop 999999] (o:=by repeat' first|apply Ya|exact pcM|exact fq (X6 (X6 (X6 h15 h18) h21) h22)|exact fq (X6 (X6 (X6 (X6 h15 h18) h21) h22) h25)|exact fq (X6 (X6 (X6 (X6 (X6 h15 h18) h21) h22) h25) h26)|exact Xu) ?_;refine brI (λh27=>?_) λh27=>?_
       ·
        intro h;obtain rfl:=oj h;exact Xd [Gt,Gt,Gt,Gt,Gt] (o:=by repeat' first|apply Ya|exact pcM|exact fq (X6 (X6 (X6 (X6 (X6 (X6 h15 h18) h21) h22) h25) h26) h27)|exact Xu) (k:=wkT [] (X4.glue J))
       intro h;obtain rfl:=oj h;exact Xd [Gf,Gf,Gf,Gf,Gf] (o:=by repeat' first|apply Ya|exact pcM|exact fq (X6 (X6 (X6 (X6 (X6 (X6 h15 h18) h21) h22) h25) h26) h27)|exact Xu) (k:=wkT [] (X4.glue J))
      intro h;obtain rfl:=oj h;exact Xd [Gt,Gt,Gt,Gt,Gt,.pure _ (aB v23),Gt,Gt,Gt,Gt,Gt,Gf,Gf,Gf,Gf,Gf,Gf,Gf,Gf,Gf,Gf] (o:=by repeat' first|apply Ya|exact pcM|exact fq (X6 (X6 (X6 h15 h18) h21) h22)|exact fq (X6 (X6 (X6 (X6 h15 h18) h21) h22) h25)|exact fq (X6 (X6 (X6 (X6 (X6 h15 h18) h21) h22) h25) h26)|exact fq (X9 (X6 (X6 (X6 (X6 (X6 h15 h18) h21) h22) h25) h26) rfl)|exact Xu) (k:=wkT [] (X4.glue J))
     intro h;obtain rfl:=oj h;exact Xd [Gt,Gt,Gt,Gt,Gt,.pure _ (aB v23),Gf,Gf,Gf,Gf,Gf,Gf,Gf,Gf,Gf,Gf,Gf,Gf,Gf,Gf,Gf] (o:=by repeat' first|apply Ya|exact pcM|exact fq (X6 (X6 (X6 h15 h18) h21) h22)|exact fq (X6 (X6 (X6 (X6 h15 h18) h21) h22) h25)|exact fq (X9 (X6 (X6 (X6 (X6 h15 h18) h21) h22) h25) rfl)|exact fq (X9 (X9 (X6 (X6 (X6 (X6 h15 h18) h21) h22) h25) rfl) rfl)|exact Xu) (k:=wkT [] (X4.glue J))
    intro h;obtain rfl:=oj h;exact Xd [Gf,Gf,Gf,Gf,Gf,Gf,Gf,Gf,Gf,Gf,Gf,Gf,Gf,Gf,Gf,Gf,Gf,Gf,Gf,Gf] (o:=by repeat' first|apply Ya|exact pcM|exact fq (X6 (X6 (X6 h15 h18) h21) h22)|exact fq (X9 (X6 (X6 (X6 h15 h18) h21) h22) rfl)|exact fq (X9 (X9 (X6 (X6 (X6 h15 h18) h21) h22) rfl) rfl)|exact fq (X9 (X9 (X9 (X6 (X6 (X6 h15 h18) h21) h22) rfl) rfl) rfl)|exact Xu) (k:=wkT [] (X4.glue J))
   intro h;obtain rfl:=oj h;exact Xd [Gt,Gt,Gt,Gt,Gt,X3t.pure _ (aB v16),Gt,Gt,Gt,Gt,Gt,X3t.pure _ (aB v19),Gf,Gf,Gf,Gf,Gf,Gf,Gf,Gf,Gf,Gf,Gf,Gf,Gf,Gf,Gf,Gf,Gf,Gf,Gf,Gf,Gf,Gf,Gf,Gf,Gf] (o:=by repeat' first|apply Ya|exact pcM|exact fq (X6 h15 h18)|exact fq (X6 (X6 h15 h18) h21)|exact fq (X9 (X6 (X6 h15 h18) h21) rfl)|exact fq (X9 (X9 (X6 (X6 h15 h18) h21) rfl) rfl)|exact fq (X9 (X9 (X9 (X6 (X6 h15 h18) h21) rfl) rfl) rfl)|exact fq (X9 (X9 (X9 (X9 (X6 (X6 h15 h18) h21) rfl) rfl) rfl) rfl)|exact Xu) (k:=wkT [] (X4.glue J))
  intro h;obtain rfl:=oj h;exact Xd [Gt,Gt,Gt,Gt,Gt,X3t.pure _ (aB v16),Gf,Gf,Gf,Gf,Gf,Gf,Gf,Gf,Gf,Gf,Gf,Gf,Gf,Gf,Gf,Gf,Gf,Gf,Gf,Gf,Gf,Gf,Gf,Gf,Gf,Gf,Gf,Gf,Gf,Gf] (o:=by repeat' first|apply Ya|exact pcM|exact fq (X6 h15 h18)|exact fq (X9 (X6 h15 h18) rfl)|exact fq (X9 (X9 (X6 h15 h18) rfl) rfl)|exact fq (X9 (X9 (X9 (X6 h15 h18) rfl) rfl) rfl)|exact fq (X9 (X9 (X9 (X9 (X6 h15 h18) rfl) rfl) rfl) rfl)|exact fq (X9 (X9 (X9 (X9 (X9 (X6 h15 h18) rfl) rfl) rfl) rfl) rfl)|exact Xu) (k:=wkT [] (X4.glue J))
 intro h;obtain rfl:=oj h;exact Xd [Gf,Gf,Gf,Gf,Gf,Gf,Gf,Gf,Gf,Gf,Gf,Gf,Gf,Gf,Gf,Gf,Gf,Gf,Gf,Gf,Gf,Gf,Gf,Gf,Gf,Gf,Gf,Gf,Gf,Gf,Gf,Gf,Gf,Gf,Gf] (o:=by repeat' first|apply Ya|exact pcM|exact fq (X9 h15 rfl)|exact fq (X9 (X9 h15 rfl) rfl)|exact fq (X9 (X9 (X9 h15 rfl) rfl) rfl)|exact fq (X9 (X9 (X9 (X9 h15 rfl) rfl) rfl) rfl)|exact fq (X9 (X9 (X9 (X9 (X9 h15 rfl) rfl) rfl) rfl) rfl)|exact fq (X9 (X9 (X9 (X9 (X9 (X9 h15 rfl) rfl) rfl) rfl) rfl) rfl)|exact Xu) (k:=wkT [] (X4.glue J))⟩
instance X9n:PCs Tryz.prog 4 (∀ (a0:Xa) (r:Bool),X3r a0=some r->X06 Tryz.prog 4 [(X8 false a0)] (aB r)):=⟨λa0 r h=>by
 refine X06.sym X7 fn4 (nt:=101) rfl rfl ?_ okM;unfold X3r at h;revert h;refine bI λv1 h2=>bI λv3 h4=>brI (λh5=>?_) λh5=>?_
 ·
  exact λe=>oj e▸Xd [.pure [] (aB v1),.pure _ (aB v3),Bt] (o:=by repeat' first|apply Ya|exact pcM|exact(pn (Xx _ h2) cn)|exact Xu) (k:=fi)
 refine bI λv6 h7=>bI λv8 h9=>bI λXpa h19=>rnI [.pure [] (aB v1),.pure _ (aB v3),Bf,.pure _ (AV.tup [(X8 false v6.1),(aI .i64 v6.2)]),.pure _ (AV.tup [(X8 false v8.1),(aI .i64 v8.2)]),.stop 6] (o:=by repeat' first|apply Ya|exact pcM|exact(pn (Xx _ h2) cn)|exact Xu) ?_;intro h;refine X4.join (s':=⟨fr [(1,(AV.ptr 0 0 0)),(3,(aB v1)),(4,(AV.ptr 1 0 0)),(48,(aB Xpa))],hp ([(0,Ob [(X8 false a0)] 10),(1,Ob [(X8 false v6.1)] 10)]),2⟩) ?_ (λJ=>X4.cut ?_)
 ·
  revert h;refine brI (λh20=>λe=>oj e▸Xd [Bt] (k:=fi)) λh20=>rnI [Bf] ?_;intro h;refine X4.round ?_;revert h;refine bI λv21 h22=>bI λXp3 h32=>rnI [Bt,.pure _ (AV.tup [(X8 false v21.1),(aB v21.2.1),(aI .i64 v21.2.2)]),.stop 12] ?_;intro h;refine X4.join (s':=⟨fr [(1,(AV.ptr 0 0 0)),(3,(aB v1)),(4,(AV.ptr 1 0 0)),(8,(aI .i64 1)),(70,(aB Xp3))],hp ([(0,Ob [(X8 false a0)] 10),(1,Ob [(X8 false v6.1)] 10)]),2⟩) ?_ (λJ=>X4.cut ?_)
  ·
   revert h;refine brI (λh33=>λe=>oj e▸Xd [Bt] (k:=fi)) λh33=>bI λv34 h35=>bI λv36 h37=>bI λXp2 h49=>rnI [Bf,.pure _ (AV.tup [(X8 false v34.1),(aB v34.2.1),(aI .i64 v34.2.2)]),.pure _ (AV.tup [(X8 false v36.1),(aB v36.2.1),(aI .i64 v36.2.2)]),.stop 16] ?_;intro h;refine X4.join (s':=⟨fr [(1,(AV.ptr 0 0 0)),(3,(aB v1)),(4,(AV.ptr 1 0 0)),(8,(aI .i64 1)),(99,(aB Xp2))],hp ([(0,Ob [(X8 false a0)] 10),(1,Ob [(X8 false v6.1)] 10)]),2⟩) ?_ (λJ=>X4.cut ?_)
   ·
    revert h;refine brI (λh50=>λe=>oj e▸Xd [Bt] (k:=fi)) λh50=>rnI [Bf] ?_;intro h;refine X4.round ?_;revert h;refine bI λv51 h52=>bI λXoz h62=>rnI [Bt,.pure _ (AV.tup [(X8 false v51.1),(aB v51.2.1),(aI .i64 v51.2.2)]),.stop 12] ?_;intro h;refine X4.join (s':=⟨fr [(1,(AV.ptr 0 0 0)),(3,(aB v1)),(4,(AV.ptr 1 0 0)),(8,(aI .i64 2)),(70,(aB Xoz))],hp ([(0,Ob [(X8 false a0)] 10),(1,Ob [(X8 false v6.1)] 10)]),2⟩) ?_ (λJ=>X4.cut ?_)
    ·
     revert h;refine brI (λh63=>λe=>oj e▸Xd [Bt] (k:=fi)) λh63=>bI λv64 h65=>bI λv66 h67=>bI λXox h79=>rnI [Bf,.pure _ (AV.tup [(X8 false v64.1),(aB v64.2.1),(aI .i64 v64.2.2)]),.pure _ (AV.tup [(X8 false v66.1),(aB v66.2.1),(aI .i64 v66.2.2)]),.stop 16] ?_;intro h;refine X4.join (s':=⟨fr [(1,(AV.ptr 0 0 0)),(3,(aB v1)),(4,(AV.ptr 1 0 0)),(8,(aI .i64 2)),(99,(aB Xox))],hp ([(0,Ob [(X8 false a0)] 10),(1,Ob [(X8 false v6.1)] 10)]),2⟩) ?_ (λJ=>X4.cut ?_)
     ·
      revert h;refine brI (λh80=>λe=>oj e▸Xd [Bt] (k:=fi)) λh80=>rnI [Bf] ?_;intro h;refine X4.round ?_;revert h;refine bI λv81 h82=>bI λXow h92=>rnI [Bt,.pure _ (AV.tup [(X8 false v81.1),(aB v81.2.1),(aI .i64 v81.2.2)]),.stop 12] ?_;intro h;refine X4.join (s':=⟨fr [(1,(AV.ptr 0 0 0)),(3,(aB v1)),(4,(AV.ptr 1 0 0)),(8,(aI .i64 3)),(70,(aB Xow))],hp ([(0,Ob [(X8 false a0)] 10),(1,Ob [(X8 false v6.1)] 10)]),2⟩) ?_ (λJ=>X4.cut ?_)
      ·
       revert h;refine brI (λh93=>λe=>oj e▸Xd [Bt] (k:=fi)) λh93=>bI λv94 h95=>bI λv96 h97=>bI λXk9 h109=>rnI [Bf,.pure _ (AV.tup [(X8 false v94.1),(aB v94.2.1),(aI .i64 v94.2.2)]),.pure _ (AV.tup [(X8 false v96.1),(aB v96.2.1),(aI .i64 v96.2.2)]),.stop 16] ?_;intro h;refine X4.join (s':=⟨fr [(1,(AV.ptr 0 0 0)),(3,(aB v1)),(4,(AV.ptr 1 0 0)),(8,(aI .i64 3)),(99,(aB Xk9))],hp ([(0,Ob [(X8 false a0)] 10),(1,Ob [(X8 false v6.1)] 10)]),2⟩) ?_ (λJ=>X4.cut ?_)
       ·
        revert h;refine brI (λh110=>λe=>oj e▸Xd [Bt] (k:=fi)) λh110=>rnI [Bf] ?_;intro h;refine X4.round ?_;revert h;exact λe=>oj e▸Xd [Bf] (k:=fi)
       clear h;revert h109;refine brI (λh104=>?_) λh104=>?_
       ·
        intro h;obtain rfl:=oj h;exact Xd [Gf,Gf,Gf,Gf,Gf,Gf,Gf] (o:=by repeat' first|apply Ya|exact pcM|exact fq (X6 h104 rfl)|exact fq (X6 (X6 h104 rfl) rfl)|exact Xu) (k:=wkT [] (X4.glue J))
       refine brI (λh105=>?_) λh105=>?_
       ·
        intro h;obtain rfl:=oj h;exact Xd [Gt,Gt,Gf,Gf,Gf,Gf,Gf] (o:=by repeat' first|apply Ya|exact pcM|exact fq (X9 h104 h105)|exact fq (X6 (X9 h104 h105) rfl)|exact Xu) (k:=wkT [] (X4.glue J))
       refine brI (λh106=>?_) λh106=>?_
       ·
        intro h;obtain rfl:=oj h;exact Xd [Gt,Gt,Gt,Gf,Gf,Gf,Gf] (o:=by repeat' first|apply Ya|exact pcM|exact fq (X9 h104 h105)|exact fq (X9 (X9 h104 h105) h106)|exact Xu) (k:=wkT [] (X4.glue J))
       refine bI λv107 h108=>?_;intro h;obtain rfl:=oj h;exact Xd [Gt,Gt,Gt,Gt,Gt,Gt,.pure _ (aB v107),Gt] (o:=by repeat' first|apply Ya|exact pcM|exact fq (X9 h104 h105)|exact fq (X9 (X9 h104 h105) h106)|exact Xu) (k:=wkT [] (X4.glue J))
      clear h;revert h92;refine brI (λh88=>?_) λh88=>?_
      ·
       intro h;obtain rfl:=oj h;exact Xd [Gf,Gf,Gf,Gf,Gf] (o:=by repeat' first|apply Ya|exact pcM|exact fq (X6 h88 rfl)|exact Xu) (k:=wkT [] (X4.glue J))
      refine brI (λh89=>?_) λh89=>?_
      ·
       intro h;obtain rfl:=oj h;exact Xd [Gt,Gf,Gf,Gf,Gf] (o:=by repeat' first|apply Ya|exact pcM|exact fq (X9 h88 h89)|exact Xu) (k:=wkT [] (X4.glue J))
      refine bI λv90 h91=>?_;intro h;obtain rfl:=oj h;exact Xd [Gt,Gt,Gt,Gt,.pure _ (aB v90),Gt] (o:=by repeat' first|apply Ya|exact pcM|exact fq (X9 h88 h89)|exact Xu) (k:=wkT [] (X4.glue J))
     clear h;revert h79;refine brI (λh74=>?_) λh74=>?_
     ·
      intro h;obtain rfl:=oj h;exact Xd [Gf,Gf,Gf,Gf,Gf,Gf,Gf] (o:=by repeat' first|apply Ya|exact pcM|exact fq (X6 h74 rfl)|exact fq (X6 (X6 h74 rfl) rfl)|exact Xu) (k:=wkT [] (X4.glue J))
     refine brI (λh75=>?_) λh75=>?_
     ·
      intro h;obtain rfl:=oj h;exact Xd [Gt,Gt,Gf,Gf,Gf,Gf,Gf] (o:=by repeat' first|apply Ya|exact pcM|exact fq (X9 h74 h75)|exact fq (X6 (X9 h74 h75) rfl)|exact Xu) (k:=wkT [] (X4.glue J))
     refine brI (λh76=>?_) λh76=>?_
     ·
      intro h;obtain rfl:=oj h;exact Xd [Gt,Gt,Gt,Gf,Gf,Gf,Gf] (o:=by repeat' first|apply Ya|exact pcM|exact fq (X9 h74 h75)|exact fq (X9 (X9 h74 h75) h76)|exact Xu) (k:=wkT [] (X4.glue J))
     refine bI λv77 h78=>?_;intro h;obtain rfl:=oj h;exact Xd [Gt,Gt,Gt,Gt,Gt,Gt,.pure _ (aB v77),Gt] (o:=by repeat' first|apply Ya|exact pcM|exact fq (X9 h74 h75)|exact fq (X9 (X9 h74 h75) h76)|exact Xu) (k:=wkT [] (X4.glue J))
    clear h;revert h62;refine brI (λh58=>?_) λh58=>?_
    ·
     intro h;obtain rfl:=oj h;exact Xd [Gf,Gf,Gf,Gf,Gf] (o:=by repeat' first|apply Ya|exact pcM|exact fq (X6 h58 rfl)|exact Xu) (k:=wkT [] (X4.glue J))
    refine brI (λh59=>?_) λh59=>?_
    ·
     intro h;obtain rfl:=oj h;exact Xd [Gt,Gf,Gf,Gf,Gf] (o:=by repeat' first|apply Ya|exact pcM|exact fq (X9 h58 h59)|exact Xu) (k:=wkT [] (X4.glue J))
    refine bI λv60 h61=>?_;intro h;obtain rfl:=oj h;exact Xd [Gt,Gt,Gt,Gt,.pure _ (aB v60),Gt] (o:=by repeat' first|apply Ya|exact pcM|exact fq (X9 h58 h59)|exact Xu) (k:=wkT [] (X4.glue J))
   clear h;revert h49;refine brI (λh44=>?_) λh44=>?_
   ·
    intro h;obtain rfl:=oj h;exact Xd [Gf,Gf,Gf,Gf,Gf,Gf,Gf] (o:=by repeat' first|apply Ya|exact pcM|exact fq (X6 h44 rfl)|exact fq (X6 (X6 h44 rfl) rfl)|exact Xu) (k:=wkT [] (X4.glue J))
   refine brI (λh45=>?_) λh45=>?_
   ·
    intro h;obtain rfl:=oj h;exact Xd [Gt,Gt,Gf,Gf,Gf,Gf,Gf] (o:=by repeat' first|apply Ya|exact pcM|exact fq (X9 h44 h45)|exact fq (X6 (X9 h44 h45) rfl)|exact Xu) (k:=wkT [] (X4.glue J))
   refine brI (λh46=>?_) λh46=>?_
   ·
    intro h;obtain rfl:=oj h;exact Xd [Gt,Gt,Gt,Gf,Gf,Gf,Gf] (o:=by repeat' first|apply Ya|exact pcM|exact fq (X9 h44 h45)|exact fq (X9 (X9 h44 h45) h46)|exact Xu) (k:=wkT [] (X4.glue J))
   refine bI λv47 h48=>?_;intro h;obtain rfl:=oj h;exact Xd [Gt,Gt,Gt,Gt,Gt,Gt,.pure _ (aB v47),Gt] (o:=by repeat' first|apply Ya|exact pcM|exact fq (X9 h44 h45)|exact fq (X9 (X9 h44 h45) h46)|exact Xu) (k:=wkT [] (X4.glue J))
  clear h;revert h32;refine brI (λh28=>?_) λh28=>?_
  ·
   intro h;obtain rfl:=oj h;exact Xd [Gf,Gf,Gf,Gf,Gf] (o:=by repeat' first|apply Ya|exact pcM|exact fq (X6 h28 rfl)|exact Xu) (k:=wkT [] (X4.glue J))
  refine brI (λh29=>?_) λh29=>?_
  ·
   intro h;obtain rfl:=oj h;exact Xd [Gt,Gf,Gf,Gf,Gf] (o:=by repeat' first|apply Ya|exact pcM|exact fq (X9 h28 h29)|exact Xu) (k:=wkT [] (X4.glue J))
  refine bI λv30 h31=>?_;intro h;obtain rfl:=oj h;exact Xd [Gt,Gt,Gt,Gt,.pure _ (aB v30),Gt] (o:=by repeat' first|apply Ya|exact pcM|exact fq (X9 h28 h29)|exact Xu) (k:=wkT [] (X4.glue J))
 clear h;revert h19;refine brI (λh15=>?_) λh15=>?_
 ·
  intro h;obtain rfl:=oj h;exact Xd [Gf,Gf,Gf,Gf,Gf,Gf] (o:=by repeat' first|apply Ya|exact pcM|exact(pn (Xx _ h2) cn)|exact fq (X6 h15 rfl)|exact Xu) (k:=wkT [] (X4.glue J))
 refine brI (λh16=>?_) λh16=>?_
 ·
  intro h;obtain rfl:=oj h;exact Xd [Gt,Gt,Gf,Gf,Gf,Gf] (o:=by repeat' first|apply Ya|exact pcM|exact(pn (Xx _ h2) cn)|exact fq (X9 h15 h16)|exact Xu) (k:=wkT [] (X4.glue J))
 refine bI λv17 h18=>?_;intro h;obtain rfl:=oj h;exact Xd [Gt,Gt,Gt,Gt,Gt,.pure _ (aB v17),Gt] (o:=by repeat' first|apply Ya|exact pcM|exact(pn (Xx _ h2) cn)|exact fq (X9 h15 h16)|exact Xu) (k:=wkT [] (X4.glue J))⟩
end Go.Av.Tryz