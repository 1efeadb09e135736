/- Printed by decomp.py: that the program computes the functions. -/
import Derived.Test.YtmkegegjcihooaaGreatDCert13Z
set_option linter.all false

namespace Go.Av.Tryz
open Go.Proofs Go.D
set_option maxRecDepth 100000
set_option maxHeartbeats 40000000
instance X01e:PCs Tryz.prog 226 (∀ (a0:X5m) (r:Int),Xc2 a0=some r->X05 Tryz.prog 226 [(X0u a0)] (aI .i64 r)):=⟨λa0 r h=>by
 refine X05.sym X9 X0cc (nt:=31) rfl rfl ?_ okM;unfold Xc2 at h;revert h;refine bI λXzh h36=>rnI [.stop 1] ?_;intro h;refine X0.join (s':=⟨fr [(30,(aB Xzh))],hp ([]),0⟩) ?_ (λJ=>X0.cut ?_)
 ·
  revert h;exact brI (λh37=>λe=>oj e▸X3 [Bt] (k:=fi)) λh37=>λe=>oj e▸X3 [Bf] (k:=fi)
 clear h;revert h36;refine brI (λh19=>?_) λh19=>?_
 ·
  refine bI λv20 h21=>brI (λh22=>?_) λh22=>?_
  ·
   refine brI (λh23=>?_) λh23=>?_
   ·
    intro h;obtain rfl:=oj h;exact X3 [Gt,Gt,Gt,.pure _ (aB v20),Gt,Gt,Gt,Gt,Gf,Gf,Gf,Gf,Gf,Gf,Gf,Gf,Gf,Gf,Gf,Gf,Gf] (o:=by repeat' first|apply Ya|exact pcM|exact fq (X6 h19 h22)|exact fq (X6 (X6 h19 h22) h23)|exact X04) (k:=wkT [] (X0.glue J))
   refine brI (λh24=>?_) λh24=>?_
   ·
    refine rnI [Gt,Gt,Gt,.pure _ (aB v20),Gt,Gt,Gt,Gt,Gt,Gt,Gt,Gt,Gt,Gt,Gt,Gt,Gt,.stop 999999] (o:=by repeat' first|apply Ya|exact pcM|exact fq (X6 h19 h22)|exact fq (X6 (X6 h19 h22) h23)|exact X04) ?_;refine brI (λh25=>?_) λh25=>?_
    ·
     refine bI λv26 h27=>?_;intro h;obtain rfl:=oj h;exact X3 [Gt,Gt,Gt,.pure _ (aB v26),Gt] (o:=by repeat' first|apply Ya|exact pcM|exact fq (X6 h24 h25)|exact fq (X6 (X6 h19 h22) h23)|exact X04) (k:=wkT [] (X0.glue J))
    intro h;obtain rfl:=oj h;exact X3 [Gf,Gf,Gf,Gt] (o:=by repeat' first|apply Ya|exact pcM|exact fq (X6 h24 h25)|exact fq (X6 (X6 h19 h22) h23)|exact X04) (k:=wkT [] (X0.glue J))
   intro h;obtain rfl:=oj h;exact X3 [Gt,Gt,Gt,.pure _ (aB v20),Gt,Gt,Gt,Gt,Gt,Gt,Gt,Gt,Gf,Gf,Gf,Gt,Gt,Gf,Gf,Gf,Gt] (o:=by repeat' first|apply Ya|exact pcM|exact fq (X6 h19 h22)|exact fq (X6 (X6 h19 h22) h23)|exact fq (X5 h24 rfl)|exact X04) (k:=wkT [] (X0.glue J))
  refine brI (λh28=>?_) λh28=>?_
  ·
   refine rnI [Gt,Gt,Gt,.pure _ (aB v20),Gf,Gf,Gf,Gf,Gt,Gt,Gt,Gt,Gt,Gt,Gt,Gt,Gt,.stop 999999] (o:=by repeat' first|apply Ya|exact pcM|exact fq (X6 h19 h22)|exact fq (X5 (X6 h19 h22) rfl)|exact X04) ?_;refine brI (λh29=>?_) λh29=>?_
   ·
    refine bI λv30 h31=>?_;intro h;obtain rfl:=oj h;exact X3 [Gt,Gt,Gt,.pure _ (aB v30),Gt] (o:=by repeat' first|apply Ya|exact pcM|exact fq (X6 h28 h29)|exact fq (X5 (X6 h19 h22) rfl)|exact X04) (k:=wkT [] (X0.glue J))
   intro h;obtain rfl:=oj h;exact X3 [Gf,Gf,Gf,Gt] (o:=by repeat' first|apply Ya|exact pcM|exact fq (X6 h28 h29)|exact fq (X5 (X6 h19 h22) rfl)|exact X04) (k:=wkT [] (X0.glue J))
  intro h;obtain rfl:=oj h;exact X3 [Gt,Gt,Gt,.pure _ (aB v20),Gf,Gf,Gf,Gf,Gt,Gt,Gt,Gt,Gf,Gf,Gf,Gt,Gt,Gf,Gf,Gf,Gt] (o:=by repeat' first|apply Ya|exact pcM|exact fq (X6 h19 h22)|exact fq (X5 (X6 h19 h22) rfl)|exact fq (X5 h28 rfl)|exact X04) (k:=wkT [] (X0.glue J))
 refine brI (λh32=>?_) λh32=>?_
 ·
  refine rnI [Gf,Gf,Gf,Gf,Gf,Gf,Gf,Gt,Gt,Gt,Gt,Gt,Gt,Gt,Gt,Gt,.stop 999999] (o:=by repeat' first|apply Ya|exact pcM|exact fq (X5 h19 rfl)|exact fq (X5 (X5 h19 rfl) rfl)|exact X04) ?_;refine brI (λh33=>?_) λh33=>?_
  ·
   refine bI λv34 h35=>?_;intro h;obtain rfl:=oj h;exact X3 [Gt,Gt,Gt,.pure _ (aB v34),Gt] (o:=by repeat' first|apply Ya|exact pcM|exact fq (X6 h32 h33)|exact fq (X5 (X5 h19 rfl) rfl)|exact X04) (k:=wkT [] (X0.glue J))
  intro h;obtain rfl:=oj h;exact X3 [Gf,Gf,Gf,Gt] (o:=by repeat' first|apply Ya|exact pcM|exact fq (X6 h32 h33)|exact fq (X5 (X5 h19 rfl) rfl)|exact X04) (k:=wkT [] (X0.glue J))
 intro h;obtain rfl:=oj h;exact X3 [Gf,Gf,Gf,Gf,Gf,Gf,Gf,Gt,Gt,Gt,Gt,Gf,Gf,Gf,Gt,Gt,Gf,Gf,Gf,Gt] (o:=by repeat' first|apply Ya|exact pcM|exact fq (X5 h19 rfl)|exact fq (X5 (X5 h19 rfl) rfl)|exact fq (X5 h32 rfl)|exact X04) (k:=wkT [] (X0.glue J))⟩
theorem Xiy {Q:Xp->St->Mu->Prop} {μ:Mu} (Xe:Xv):∀ (n:Nat) (X6v:Int) (o:X7a) (h:X4b Xe n X6v=some o)
  (C0:o=X7a.x0->X0 Tryz.prog 63 0 Q (.exit .ret) [] ⟨fr [(2,(aB false))],hp ([]),0⟩ μ)
  (C1:o=X7a.x1->X0 Tryz.prog 63 0 Q (.exit (.exit 0)) [] ⟨fr [(1,(AV.ptr 0 0 0))],hp ([(0,Ob [(Xa false Xe)] 9)]),1⟩ μ),
  X0 Tryz.prog 63 0 Q (.loop (X0w 0 (Xd Tryz.f174))) [] ⟨fr [(1,(AV.ptr 0 0 0)),(3,(aI .i64 X6v))],hp ([(0,Ob [(Xa false Xe)] 9)]),1⟩ μ:=by
 intro n
 induction n with
 |zero=>intro X6v o h C0 C1;cases h
 |succ n ih =>
  intro X6v o h C0 C1;rw[X4b] at h;refine X0.round ?_;revert h;refine brI (λh14=>?_) λh14=>λe=>X3 [.el (aI .i64 (Xe.Marks.length:Int)),Bf] (k:=wkT [] (C1  (oj e).symm));refine bI λe15 h16=>?_;try have qh16:=Xi h16
  refine bI λv17 h18=>brI (λh19=>λe=>X3 [.el (aI .i64 (Xe.Marks.length:Int)),Bt,.el (aI .i64 e15),.pure _ (aB v17),Bt] (k:=wkT [] (C0  (oj e).symm))) λh19=>rnI [.el (aI .i64 (Xe.Marks.length:Int)),Bt,.el (aI .i64 e15),.pure _ (aB v17),Bf,.wrap] ?_;intro h;exact wkT [] (ih  _ o h C0 C1)
theorem Xix {Q:Xp->St->Mu->Prop} {μ:Mu} (X09:Xv):∀ (n:Nat) (Xb6:Int) (o:X79) (h:X4a X09 n Xb6=some o)
  (C0:o=X79.x0->X0 Tryz.prog 63 0 Q (.exit .ret) [] ⟨fr [(2,(aB false))],hp ([]),0⟩ μ)
  (C1:o=X79.x1->X0 Tryz.prog 63 0 Q (.exit (.exit 2)) [] ⟨fr [(1,(AV.ptr 0 0 0))],hp ([(0,Ob [(Xa false X09)] 9)]),1⟩ μ),
  X0 Tryz.prog 63 0 Q (.loop (X0w 1 (Xd Tryz.f174))) [] ⟨fr [(1,(AV.ptr 0 0 0)),(4,(aI .i64 Xb6))],hp ([(0,Ob [(Xa false X09)] 9)]),1⟩ μ:=by
 intro n
 induction n with
 |zero=>intro Xb6 o h C0 C1;cases h
 |succ n ih =>
  intro Xb6 o h C0 C1;rw[X4a] at h;refine X0.round ?_;revert h;refine brI (λh35=>?_) λh35=>λe=>X3 [.el (aI .i64 (X09.Events.length:Int)),Bf] (k:=wkT [] (C1  (oj e).symm));refine bI λe36 h37=>?_;try have qh37:=Xi h37
  refine bI λv38 h39=>brI (λh40=>λe=>X3 [.el (aI .i64 (X09.Events.length:Int)),Bt,.el (X0u e36),.pure _ (aI .i64 v38),Bt] (k:=wkT [] (C0  (oj e).symm))) λh40=>rnI [.el (aI .i64 (X09.Events.length:Int)),Bt,.el (X0u e36),.pure _ (aI .i64 v38),Bf,.wrap] ?_;intro h;exact wkT [] (ih  _ o h C0 C1)
theorem Xiw {Q:Xp->St->Mu->Prop} {μ:Mu} (X31:Xv):∀ (n:Nat) (Xrn:Int) (o:X78) (h:X49 X31 n Xrn=some o)
  (C0:o=X78.x0->X0 Tryz.prog 63 0 Q (.exit .ret) [] ⟨fr [(2,(aB false))],hp ([]),0⟩ μ)
  (C1:o=X78.x1->X0 Tryz.prog 63 0 Q (.exit (.exit 4)) [] ⟨fr [(1,(AV.ptr 0 0 0))],hp ([(0,Ob [(Xa false X31)] 9)]),1⟩ μ),
  X0 Tryz.prog 63 0 Q (.loop (X0w 2 (Xd Tryz.f174))) [] ⟨fr [(1,(AV.ptr 0 0 0)),(5,(aI .i64 Xrn))],hp ([(0,Ob [(Xa false X31)] 9)]),1⟩ μ:=by
 intro n
 induction n with
 |zero=>intro Xrn o h C0 C1;cases h
 |succ n ih =>
  intro Xrn o h C0 C1;rw[X49] at h;refine X0.round ?_;revert h;refine brI (λh56=>?_) λh56=>λe=>X3 [.el (aI .i64 (X31.Rows.length:Int)),Bf] (k:=wkT [] (C1  (oj e).symm));refine bI λe57 h58=>?_;try have qh58:=Xi h58
  refine bI λv59 h60=>brI (λh61=>λe=>X3 [.el (aI .i64 (X31.Rows.length:Int)),Bt,.el (X3z e57),.pure _ (aB v59),Bt] (k:=wkT [] (C0  (oj e).symm))) λh61=>rnI [.el (aI .i64 (X31.Rows.length:Int)),Bt,.el (X3z e57),.pure _ (aB v59),Bf,.wrap] ?_;intro h;exact wkT [] (ih  _ o h C0 C1)
theorem Xiv {Q:Xp->St->Mu->Prop} {μ:Mu} (X9i:Xv):∀ (n:Nat) (y3_6:Int) (o:X77) (h:X48 X9i n y3_6=some o)
  (C0:o=X77.x0->X0 Tryz.prog 63 0 Q (.exit .ret) [] ⟨fr [(2,(aB false))],hp ([]),0⟩ μ)
  (C1:o=X77.x1->X0 Tryz.prog 63 0 Q (.exit (.exit 6)) [] ⟨fr [],hp ([]),0⟩ μ),
  X0 Tryz.prog 63 0 Q (.loop (X0w 3 (Xd Tryz.f174))) [] ⟨fr [(1,(AV.ptr 0 0 0)),(6,(aI .i64 y3_6))],hp ([(0,Ob [(Xa false X9i)] 9)]),1⟩ μ:=by
 intro n
 induction n with
 |zero=>intro y3_6 o h C0 C1;cases h
 |succ n ih =>
  intro y3_6 o h C0 C1;rw[X48] at h;refine X0.round ?_;revert h;refine brI (λh77=>?_) λh77=>λe=>X3 [.el (aI .i64 (X9i.Late.length:Int)),Bf] (k:=wkT [] (C1  (oj e).symm));refine bI λe78 h79=>?_;try have qh79:=Xi h79
  refine bI λv80 h81=>brI (λh82=>λe=>X3 [.el (aI .i64 (X9i.Late.length:Int)),Bt,.el (X1b e78),.pure _ (aB v80),Bt] (k:=wkT [] (C0  (oj e).symm))) λh82=>rnI [.el (aI .i64 (X9i.Late.length:Int)),Bt,.el (X1b e78),.pure _ (aB v80),Bf,.wrap] ?_;intro h;exact wkT [] (ih  _ o h C0 C1)
instance X016:PCs Tryz.prog 174 (∀ (a0:Xv) (r:Bool),Xby a0=some r->X05 Tryz.prog 174 [(Xa false a0)] (aB r)):=⟨λa0 r h=>by
 refine X05.sym X9 X0cr (nt:=63) rfl rfl ?_ okM;unfold Xby at h;revert h;refine bI λo20 h21=>rnI [] ?_;intro h;refine wkT [] (X0.cut (Xiy a0 _ _ _ h21 ?_ ?_))
 ·
  intro eo20;subst eo20;refine X0.glue ?_;try dsimp only at h
  revert h;exact λe=>oj e▸X3 [] (k:=fi)
 intro eo20;subst eo20;refine X0.glue ?_;try dsimp only at h
 revert h;refine bI λo41 h42=>rnI [] ?_;intro h;refine wkT [] (X0.cut (Xix a0 _ _ _ h42 ?_ ?_))
 ·
  intro eo41;subst eo41;refine X0.glue ?_;try dsimp only at h
  revert h;exact λe=>oj e▸X3 [] (k:=fi)
 intro eo41;subst eo41;refine X0.glue ?_;try dsimp only at h
 revert h;refine bI λo62 h63=>rnI [] ?_;intro h;refine wkT [] (X0.cut (Xiw a0 _ _ _ h63 ?_ ?_))
 ·
  intro eo62;subst eo62;refine X0.glue ?_;try dsimp only at h
  revert h;exact λe=>oj e▸X3 [] (k:=fi)
 intro eo62;subst eo62;refine X0.glue ?_;try dsimp only at h
 revert h;refine bI λo83 h84=>rnI [] ?_;intro h;refine wkT [] (X0.cut (Xiv a0 _ _ _ h84 ?_ ?_))
 ·
  intro eo83;subst eo83;refine X0.glue ?_;try dsimp only at h
  revert h;exact λe=>oj e▸X3 [] (k:=fi)
 intro eo83;subst eo83;refine X0.glue ?_;try dsimp only at h
 revert h;exact λe=>oj e▸X3 [] (k:=fi)⟩
instance X01j:PCs Tryz.prog 227 (∀ (a0:X4z) (r:Int),X68 a0=some r->X05 Tryz.prog 227 [(X84 a0)] (aI .i64 r)):=⟨λa0 r h=>by
 refine X05.sym X9 X0cb (nt:=53) rfl rfl ?_ okM;unfold X68 at h;revert h;refine bI λj2_3 h4=>rnI [] ?_;intro h;refine X0.join (s':=⟨fr [(1,(AV.ptr 0 0 0)),(3,(aB j2_3))],hp ([(0,Ob [(X84 a0)] 4)]),1⟩) ?_ (λJ=>X0.cut ?_)
 ·
  revert h;exact brI (λh5=>λe=>oj e▸X3 [Bt] (k:=fi)) λh5=>brI (λh6=>λe=>oj e▸X3 [Bf,Bt] (k:=fi)) λh6=>brI (λh7=>λe=>oj e▸X3 [Bf,Bf,Bt] (k:=fi)) λh7=>brI (λh8=>λe=>oj e▸X3 [Bf,Bf,Bf,Bt] (k:=fi)) λh8=>λe=>oj e▸X3 [Bf,Bf,Bf,Bf] (k:=fi)
 clear h;revert h4;refine brI (λh3=>?_) λh3=>?_
 ·
  intro h;obtain rfl:=oj h;exact X3 [Bt] (k:=wkT [] (X0.glue J))
 intro h;obtain rfl:=oj h;exact X3 [Bf] (k:=wkT [] (X0.glue J))⟩
instance X034:PCs Tryz.prog 78 (∀ (a0:Xg) (a1:Xg) (r:Bool),X9t a0 a1=some r->X05 Tryz.prog 78 [(X1 a0),(X1 a1)] (aB r)):=⟨λa0 a1 r h=>by
 refine X05.sym X9 fn78 (nt:=38) rfl rfl ?_ okM;unfold X9t at h;revert h;exact brI (λh1=>λe=>oj e▸X3 [Bt] (k:=fi)) λh1=>brI (λh2=>λe=>oj e▸X3 [Bf,Bt] (k:=fi)) λh2=>λe=>oj e▸X3 [Bf,Bf] (k:=fi)⟩
theorem Xpf {P:Prop} (h:P:=by repeat' first|apply Ya|exact pcM|exact fq (X5 h118 h119)|exact fq (X5 (X5 h118 h119) (X6 h120 h121))|exact X04):P:=h
theorem Xty {P:Prop} (h:P:=by repeat' first|apply Ya|exact pcM|exact fq (X5 (X5 (X5 h15 h16) h17) h18)|exact fq (X5 (X5 (X5 (X5 h15 h16) h17) h18) h19)|exact fq (X5 (X5 (X5 (X5 (X5 h15 h16) h17) h18) h19) h22)|exact fq (X5 (X5 (X5 (X5 (X5 (X5 h15 h16) h17) h18) h19) h22) h25)|exact X04):P:=h
theorem Xj5 {Q:Xp->St->Mu->Prop} {μ:Mu} (X08:(List Xg)) (hl:X08.length<=140737488355328):∀ (xs:List Xg) (k:Nat) (hx:X08.drop k=xs) (o:X7f) (h:X4g X08 xs k  = some o)
  (C0:o=X7f.x0->X0 Tryz.prog 85 0 Q (.exit (.exit 0)) [] ⟨fr [],hp ([]),0⟩ μ)
  (C1:o=X7f.x1->X0 Tryz.prog 85 0 Q (.exit .ret) [] ⟨fr [(2,(aI .i64 8))],hp ([]),0⟩ μ),
  X0 Tryz.prog 85 0 Q (.loop (X0w 0 (Xd Tryz.f175))) [] ⟨fr [(0,(Lf (X08.map X1))),(3,(aI .i64 (k:Int)))],hp ([]),0⟩ μ:=by
 intro xs
 induction xs with
 |nil =>
  intro k hx  o h C0 C1;have hk:=X06 hx;have hc:decide ((k:Int)<(X08.length:Int))=false:=Yf om;rw[X4g] at h;refine X0.round ?_;revert h;exact λe=>X3 [.el (aI .i64 (X08.length:Int)),Bf] (k:=wkT [] (C0  (oj e).symm))
 |cons x xs ih =>
  intro k hx  o h C0 C1;obtain⟨hk,hg,hx1⟩:=Xy hx;have hc:decide ((k:Int)<(X08.length:Int))=true:=Yt om;rw[X4g] at h;refine X0.round ?_;revert h;refine bI λXsg h102=>rnI [.el (aI .i64 (X08.length:Int)),Bt,.el (X1 x),.stop 8] ?_;intro h;refine X0.join (s':=⟨fr [(0,(Lf (X08.map X1))),(3,(aI .i64 (k:Int))),(4,(AV.ptr 0 0 0)),(5,(aB (bif (bif (decide (x.Span.Start >= ((-1100585369600):Int))) then (decide (x.Span.Start<x.Span.End)) else false) then (decide (x.Span.End<=(1100585369600:Int))) else false))),(6,(aB Xsg))],hp ([(0,Ob [(X1 x)] 11)]),1⟩) ?_ (λJ=>X0.cut ?_)
  ·
   revert h;refine bI λXst h132=>rnI [.stop 9] ?_;intro h;refine X0.join (s':=⟨fr [(0,(Lf (X08.map X1))),(3,(aI .i64 (k:Int))),(84,(aB Xst))],hp ([]),0⟩) ?_ (λJ=>X0.cut ?_)
   ·
    revert h;refine brI (λh133=>λe=>X3 [Bt] (k:=wkT [] (C1  (oj e).symm))) λh133=>rnI [Bf] ?_;intro h;exact wkT [] (ih (k+1) hx1  o h C0 C1)
   clear h;revert h132;refine brI (λh118=>?_) λh118=>?_
   ·
    intro h;obtain rfl:=oj h;exact X3 [Gf,Gf,Gt,Gf,Gf,Gf,Gf,Gf,Gf,.no,.no,.no,.no,.no,Gf,Gt,Gf,Gf,Gf,.no,.no,.no,.no,.no,.no,.no,.no,Gf,Gt] (k:=wkT [] (X0.glue J))
   refine brI (λh119=>?_) λh119=>?_
   ·
    intro h;obtain rfl:=oj h;exact X3 [Gt,Gt,Gf,Gf,Gf,Gf,Gf,Gf,.no,.no,.no,.no,.no,Gf,Gt,Gf,Gf,Gf,.no,.no,.no,.no,.no,.no,.no,.no,Gf,Gt] (o:=by repeat' first|apply Ya|exact pcM|exact fq (X5 h118 h119)|exact X04) (k:=wkT [] (X0.glue J))
   refine brI (λh120=>?_) λh120=>?_
   ·
    refine brI (λh121=>?_) λh121=>?_
    ·
     intro h;obtain rfl:=oj h;exact X3 [Gt,Gt,Gt,Gt,.ix 0,Gt,Gt,Gt,Gt,Gt,Gt,.ix 1,Gt,Gt,Gt,Gt,Gf,Gf,Gf,.no,.no,.no,.no,.no,.no,.no,.no,Gf,Gt] (o:=Xpf) (k:=wkT [] (X0.glue J))
    refine brI (λh122=>?_) λh122=>?_
    ·
     refine bI λe123 h124=>?_;try have qh124:=Xi h124
     refine bI λv125 h126=>?_;intro h;obtain rfl:=oj h;exact X3 [Gt,Gt,Gt,Gt,.ix 0,Gt,Gt,Gt,Gt,Gt,Gt,.ix 1,Gt,Gt,Gt,Gt,Gt,Gt,Gt,Gt,Gt,Gt,.wrap,Gt,X21.el (X1 e123),Gt,Gt,Gt,X21.pure _ (aB v125),Gt,Gt] (o:=Xpf) (k:=wkT [] (X0.glue J))
    intro h;obtain rfl:=oj h;exact X3 [Gt,Gt,Gt,Gt,.ix 0,Gt,Gt,Gt,Gt,Gt,Gt,.ix 1,Gt,Gt,Gt,Gt,Gt,Gt,Gt,Gf,Gf,Gf,Gf,Gf,Gf,Gf,Gf,Gt,Gf] (o:=Xpf) (k:=wkT [] (X0.glue J))
   refine brI (λh127=>?_) λh127=>?_
   ·
    refine bI λe128 h129=>?_;try have qh129:=Xi h129
    refine bI λv130 h131=>?_;intro h;obtain rfl:=oj h;exact X3 [Gt,Gt,Gt,Gt,.ix 0,Gt,Gt,Gt,Gt,Gf,Gf,Gf,Gf,Gf,Gt,Gf,Gt,Gt,Gt,Gt,Gt,Gt,.wrap,Gt,X21.el (X1 e128),Gt,Gt,Gt,X21.pure _ (aB v130),Gt,Gt] (o:=by repeat' first|apply Ya|exact pcM|exact fq (X5 h118 h119)|exact fq (X5 (X5 h118 h119) rfl)|exact X04) (k:=wkT [] (X0.glue J))
   intro h;obtain rfl:=oj h;exact X3 [Gt,Gt,Gt,Gt,.ix 0,Gt,Gt,Gt,Gt,Gf,Gf,Gf,Gf,Gf,Gt,Gf,Gt,Gt,Gt,Gf,Gf,Gf,Gf,Gf,Gf,Gf,Gf,Gt,Gf] (o:=by repeat' first|apply Ya|exact pcM|exact fq (X5 h118 h119)|exact fq (X5 (X5 h118 h119) rfl)|exact X04) (k:=wkT [] (X0.glue J))
  clear h;revert h102;refine bI λv97 h98=>brI (λh99=>?_) λh99=>?_
  ·
   refine bI λv100 h101=>?_;intro h;obtain rfl:=oj h;exact X3 [.ix 0,.pure _ (aI .i64 v97),Gt,Gt,.ix 1,Gt,Gt,.pure _ (aI .i64 v100),Gt] (k:=wkT [] (X0.glue J))
  intro h;obtain rfl:=oj h;exact X3 [.ix 0,.pure _ (aI .i64 v97),Gf,Gf,Gf,Gf,Gf] (k:=wkT [] (X0.glue J))
instance X01i:PCs Tryz.prog 175 (∀ (a0:(List Xg)) (r:Int),Xc5 a0=some r->X05 Tryz.prog 175 [(Lf (a0.map X1))] (aI .i64 r)):=⟨λa0 r h=>by
 refine X05.sym X9 X0cq (nt:=85) rfl rfl ?_ okM;unfold Xc5 at h;revert h;refine brI (λh1=>λe=>oj e▸X3 [.el (aI .i64 (a0.length:Int)),Bt] (k:=fi)) λh1=>bI λu2 h3=>?_;have qh3:=X0l h3;refine bI λo134 h135=>rnI [.el (aI .i64 (a0.length:Int)),Bf] ?_;intro h;refine wkT [] (X0.cut (Xj5 a0 qh3 a0 0 (by simp) _ h135 ?_ ?_))
 ·
  intro eo134;subst eo134;refine X0.glue ?_;try dsimp only at h
  revert h;exact λe=>oj e▸X3 [] (k:=fi)
 intro eo134;subst eo134;refine X0.glue ?_;try dsimp only at h
 revert h;exact λe=>oj e▸X3 [] (k:=fi)⟩
theorem Xiz {Q:Xp->St->Mu->Prop} {μ:Mu} (Xe:Xv):∀ (n:Nat) (X6v:Int) (o:X7b) (h:X4c Xe n X6v=some o)
  (C0:o=X7b.x0->X0 Tryz.prog 72 0 Q (.exit .ret) [] ⟨fr [(2,(aI .i64 8))],hp ([]),0⟩ μ)
  (C1:o=X7b.x1->X0 Tryz.prog 72 0 Q (.exit (.exit 0)) [] ⟨fr [],hp ([]),0⟩ μ),
  X0 Tryz.prog 72 0 Q (.loop (X0w 0 (Xd Tryz.f109))) [] ⟨fr [(1,(AV.ptr 0 0 0)),(3,(aI .i64 X6v))],hp ([(0,Ob [(Xa false Xe)] 9)]),1⟩ μ:=by
 intro n
 induction n with
 |zero=>intro X6v o h C0 C1;cases h
 |succ n ih =>
  intro X6v o h C0 C1;rw[X4c] at h;refine X0.round ?_;revert h;refine brI (λh54=>?_) λh54=>λe=>X3 [.el (aI .i64 (Xe.Store.length:Int)),Bf] (k:=wkT [] (C1  (oj e).symm));refine bI λXz7 h62=>rnI [.el (aI .i64 (Xe.Store.length:Int)),Bt,.stop 8] ?_;intro h;refine X0.join (s':=⟨fr [(1,(AV.ptr 0 0 0)),(3,(aI .i64 X6v)),(71,(aB Xz7))],hp ([(0,Ob [(Xa false Xe)] 9)]),1⟩) ?_ (λJ=>X0.cut ?_)
  ·
   revert h;refine brI (λh63=>λe=>X3 [Bt] (k:=wkT [] (C0  (oj e).symm))) λh63=>rnI [Bf,.wrap] ?_;intro h;exact wkT [] (ih  _ o h C0 C1)
  clear h;revert h62;refine brI (λh59=>?_) λh59=>?_
  ·
   refine bI λe60 h61=>?_;try have qh61:=Xi h61
   intro h;obtain rfl:=oj h;exact X3 [Gt,Gt,Gt,Gt,.el (X1 e60),Gt,Gt,.ix 1,Gt,Gt,Gt] (k:=wkT [] (X0.glue J))
  intro h;obtain rfl:=oj h;exact X3 [Gf,Gf,Gf,Gf,Gf,Gf,Gf,Gf,Gf] (k:=wkT [] (X0.glue J))
instance X019:PCs Tryz.prog 109 (∀ (a0:Xv) (r:Int),Xc1 a0=some r->X05 Tryz.prog 109 [(Xa false a0)] (aI .i64 r)):=⟨λa0 r h=>by
 refine X05.sym X9 X0dk (nt:=72) rfl rfl ?_ okM;unfold Xc1 at h;revert h;refine bI λXzj h28=>rnI [.stop 1] ?_;intro h;refine X0.join (s':=⟨fr [(1,(AV.ptr 0 0 0)),(45,(aB Xzj))],hp ([(0,Ob [(Xa false a0)] 9)]),1⟩) ?_ (λJ=>X0.cut ?_)
 ·
  revert h;refine brI (λh29=>λe=>oj e▸X3 [Bt] (k:=fi)) λh29=>bI λv30 h31=>brI (λh32=>λe=>oj e▸X3 [Bf,.pure _ (aI .i64 v30),Bt] (k:=fi)) λh32=>bI λo64 h65=>rnI [Bf,.pure _ (aI .i64 v30),Bf] ?_;intro h;refine wkT [] (X0.cut (Xiz a0 _ _ _ h65 ?_ ?_))
  ·
   intro eo64;subst eo64;refine X0.glue ?_;try dsimp only at h
   revert h;exact λe=>oj e▸X3 [] (k:=fi)
  intro eo64;subst eo64;refine X0.glue ?_;try dsimp only at h
  revert h;exact λe=>oj e▸X3 [] (k:=fi)
 clear h;revert h28;refine brI (λh15=>?_) λh15=>?_
 ·
  intro h;obtain rfl:=oj h;exact X3 [Gf,Gf,Gf,Gf,Gf,Gf,Gf,Gf,Gf,Gf,Gf,Gf,Gf,Gf,Gf,Gf,Gf,Gf,Gf,Gf,Gf,Gf,Gf,Gf,Gf] (o:=by repeat' first|apply Ya|exact pcM|exact fq (X6 h15 rfl)|exact fq (X6 (X6 h15 rfl) rfl)|exact fq (X6 (X6 (X6 h15 rfl) rfl) rfl)|exact fq (X6 (X6 (X6 (X6 h15 rfl) rfl) rfl) rfl)|exact fq (X6 (X6 (X6 (X6 (X6 h15 rfl) rfl) rfl) rfl) rfl)|exact fq (X6 (X6 (X6 (X6 (X6 (X6 h15 rfl) rfl) rfl) rfl) rfl) rfl)|exact X04) (k:=wkT [] (X0.glue J))
 refine brI (λh16=>?_) λh16=>?_
 ·
  intro h;obtain rfl:=oj h;exact X3 [Gt,Gt,Gt,Gf,Gf,Gf,Gf,Gf,Gf,Gf,Gf,Gf,Gf,Gf,Gf,Gf,Gf,Gf,Gf,Gf,Gf,Gf,Gf,Gf,Gf] (o:=by repeat' first|apply Ya|exact pcM|exact fq (X5 h15 h16)|exact fq (X6 (X5 h15 h16) rfl)|exact fq (X6 (X6 (X5 h15 h16) rfl) rfl)|exact fq (X6 (X6 (X6 (X5 h15 h16) rfl) rfl) rfl)|exact fq (X6 (X6 (X6 (X6 (X5 h15 h16) rfl) rfl) rfl) rfl)|exact fq (X6 (X6 (X6 (X6 (X6 (X5 h15 h16) rfl) rfl) rfl) rfl) rfl)|exact X04) (k:=wkT [] (X0.glue J))
 refine brI (λh17=>?_) λh17=>?_
 ·
  intro h;obtain rfl:=oj h;exact X3 [Gt,Gt,Gt,Gt,Gt,Gt,X21.el (aI .i64 (a0.Pending.length:Int)),Gt,Gf,Gf,Gf,Gf,Gf,Gf,Gf,Gf,Gf,Gf,Gf,Gf,Gf,Gf,Gf,Gf,Gf,Gf] (o:=by repeat' first|apply Ya|exact pcM|exact fq (X5 h15 h16)|exact fq (X5 (X5 h15 h16) h17)|exact fq (X6 (X5 (X5 h15 h16) h17) rfl)|exact fq (X6 (X6 (X5 (X5 h15 h16) h17) rfl) rfl)|exact fq (X6 (X6 (X6 (X5 (X5 h15 h16) h17) rfl) rfl) rfl)|exact fq (X6 (X6 (X6 (X6 (X5 (X5 h15 h16) h17) rfl) rfl) rfl) rfl)|exact X04) (k:=wkT [] (X0.glue J))
 refine rnI [Gt,Gt,Gt,Gt,Gt,Gt,.el (aI .i64 (a0.Pending.length:Int)),Gt,Gt,Gt,Gt,Gt,.stop 999999] (o:=by repeat' first|apply Ya|exact pcM|exact fq (X5 h15 h16)|exact fq (X5 (X5 h15 h16) h17)|exact X04) ?_;refine brI (λh18=>?_) λh18=>?_
 ·
  intro h;obtain rfl:=oj h;exact X3 [Gf,Gf,Gf,Gf,Gf,Gf,Gf,Gf,Gf,Gf,Gf,Gf,Gf,Gf] (o:=by repeat' first|apply Ya|exact pcM|exact fq (X5 (X5 (X5 h15 h16) h17) h18)|exact fq (X6 (X5 (X5 (X5 h15 h16) h17) h18) rfl)|exact fq (X6 (X6 (X5 (X5 (X5 h15 h16) h17) h18) rfl) rfl)|exact fq (X6 (X6 (X6 (X5 (X5 (X5 h15 h16) h17) h18) rfl) rfl) rfl)|exact X04) (k:=wkT [] (X0.glue J))
 refine brI (λh19=>?_) λh19=>?_
 ·
  intro h;obtain rfl:=oj h;exact X3 [Gt,Gt,Gt,Gt,Gf,Gf,Gf,Gf,Gf,Gf,Gf,Gf,Gf,Gf] (o:=by repeat' first|apply Ya|exact pcM|exact fq (X5 (X5 (X5 h15 h16) h17) h18)|exact fq (X5 (X5 (X5 (X5 h15 h16) h17) h18) h19)|exact fq (X6 (X5 (X5 (X5 (X5 h15 h16) h17) h18) h19) rfl)|exact fq (X6 (X6 (X5 (X5 (X5 (X5 h15 h16) h17) h18) h19) rfl) rfl)|exact X04) (k:=wkT [] (X0.glue J))
 refine bI λv20 h21=>brI (λh22=>?_) λh22=>?_
 ·
  intro h;obtain rfl:=oj h;exact X3 [Gt,Gt,Gt,Gt,Gt,Gt,.pure _ (aB v20),Gt,Gf,Gf,Gf,Gf,Gf,Gf,Gf] (o:=by repeat' first|apply Ya|exact pcM|exact fq (X5 (X5 (X5 h15 h16) h17) h18)|exact fq (X5 (X5 (X5 (X5 h15 h16) h17) h18) h19)|exact fq (X5 (X5 (X5 (X5 (X5 h15 h16) h17) h18) h19) h22)|exact fq (X6 (X5 (X5 (X5 (X5 (X5 h15 h16) h17) h18) h19) h22) rfl)|exact X04) (k:=wkT [] (X0.glue J))
 refine bI λv23 h24=>brI (λh25=>?_) λh25=>?_
 ·
  intro h;obtain rfl:=oj h;exact X3 [Gt,Gt,Gt,Gt,Gt,Gt,.pure _ (aB v20),Gt,Gt,Gt,Gt,.pure _ (aB v23),Gt,Gf,Gf,Gf] (o:=Xty) (k:=wkT [] (X0.glue J))
 refine bI λv26 h27=>?_;intro h;obtain rfl:=oj h;exact X3 [Gt,Gt,Gt,Gt,Gt,Gt,.pure _ (aB v20),Gt,Gt,Gt,Gt,.pure _ (aB v23),Gt,Gt,Gt,.pure _ (aB v26),Gt] (o:=Xty) (k:=wkT [] (X0.glue J))⟩
theorem Xcp {Q:Xp->St->Mu->Prop} {μ:Mu} (Xnw:Int) (y1_2:Bool) (X09:Xt) (Xrs:Int):∀ (n:Nat) (X2i:(List Int)) (Xq6:Int) (X8z:Nb X2i) (o:X9m) (h:X4q Xnw y1_2 X09 Xrs n X2i Xq6=some o)
  (C0:∀ (X1h:(List Int)) (X3d:Nb X1h),o=X9m.x0 X1h->X0 Tryz.prog 61 0 Q (.exit (.exit 2)) [] ⟨fr [(1,(aI .i64 Xnw)),(2,(aB y1_2)),(3,(AV.ptr 0 0 0)),(7,(slE X3d.1 1 (List.map (aI .i64) X1h))),(8,(aI .i64 Xrs))],hp ([(0,Ob [(Xb false X09)] 2)]++opE X3d.1 1 1 (List.map (aI .i64) X1h)),2⟩ μ),
  X0 Tryz.prog 61 0 Q (.loop (X0w 1 (Xd Tryz.f68))) [] ⟨fr [(1,(aI .i64 Xnw)),(2,(aB y1_2)),(3,(AV.ptr 0 0 0)),(7,(slE X8z.1 1 (List.map (aI .i64) X2i))),(8,(aI .i64 Xrs)),(9,(aI .i64 Xq6))],hp ([(0,Ob [(Xb false X09)] 2)]++opE X8z.1 1 1 (List.map (aI .i64) X2i)),2⟩ μ:=by
 intro n
 induction n with
 |zero=>intro X2i Xq6 X8z o h C0;cases h
 |succ n ih =>
  intro X2i Xq6 X8z o h C0;rw[X4q] at h;rcases X8z with ⟨_|_,Xpr⟩
  ·
   refine X0.round ?_;revert h;refine brI (λh284=>?_) λh284=>λe=>X3 [.el (aI .i64 (X09.Channels.length:Int)),Bf] (k:=wkT [] (C0 _  nbF (oj e).symm));refine bI λe285 h286=>?_;try have qh286:=Xi h286
   refine bI λXmb h294=>rnI [.el (aI .i64 (X09.Channels.length:Int)),Bt,.el (X8 e285)] ?_;intro h;refine X0.joinF (λ(q:Nb Xmb)=>⟨fr [(1,(aI .i64 Xnw)),(2,(aB y1_2)),(3,(AV.ptr 0 0 0)),(7,(slE q.1 1 (List.map (aI .i64) Xmb))),(8,(aI .i64 Xrs)),(9,(aI .i64 Xq6))],hp ([(0,Ob [(Xb false X09)] 2)]++opE q.1 1 1 (List.map (aI .i64) Xmb)),2⟩) ?_ (λJ=>X0.cut ?_)
   ·
    rintro Xvf;rcases Xvf with ⟨_|_,Xvp⟩
    ·
     exact X3 [.wrap] (k:=wkT [] (ih  _ _ nbF o h C0))
    obtain rfl:=Xvp rfl;exact X3 [.wrap] (k:=wkT [] (ih  _ _ nbS o h C0))
   clear h;revert h294;refine brI (λh291=>?_) λh291=>?_
   ·
    refine bI λu292 h293=>?_;intro h;obtain rfl:=oj h;exact X3 [Bt,.no] (o:=by repeat' first|apply Ya|exact pcM|(refine X1n h293 rfl ?_;first|(simp<;>omega)|(simp[h284,h291]<;>omega))|(refine X0h h293 (by decide) ?_;first|(simp<;>omega)|(simp[h284,h291]<;>omega))|exact X04) (k:=wkT [(1,4)] (X0.glue (J nbF)))
   intro h;obtain rfl:=oj h;exact X3 [Bf] (k:=wkT [] (X0.glue (J nbF)))
  obtain rfl:=Xpr rfl;refine X0.round ?_;revert h;refine brI (λh295=>?_) λh295=>λe=>X3 [.el (aI .i64 (X09.Channels.length:Int)),Bf] (k:=wkT [] (C0 _  nbS (oj e).symm));refine bI λe296 h297=>?_;try have qh297:=Xi h297
  refine bI λXsm h305=>rnI [.el (aI .i64 (X09.Channels.length:Int)),Bt,.el (X8 e296)] ?_;intro h;refine X0.joinF (λ(q:Nb Xsm)=>⟨fr [(1,(aI .i64 Xnw)),(2,(aB y1_2)),(3,(AV.ptr 0 0 0)),(7,(slE q.1 1 (List.map (aI .i64) Xsm))),(8,(aI .i64 Xrs)),(9,(aI .i64 Xq6))],hp ([(0,Ob [(Xb false X09)] 2)]++opE q.1 1 1 (List.map (aI .i64) Xsm)),2⟩) ?_ (λJ=>X0.cut ?_)
  ·
   rintro Xve;rcases Xve with ⟨_|_,Xvo⟩
   ·
    exact X3 [.wrap] (k:=wkT [] (ih  _ _ nbF o h C0))
   obtain rfl:=Xvo rfl;exact X3 [.wrap] (k:=wkT [] (ih  _ _ nbS o h C0))
  clear h;revert h305;refine brI (λh302=>?_) λh302=>?_
  ·
   refine bI λu303 h304=>?_;intro h;obtain rfl:=oj h;exact X3 [Bt,.no] (o:=by repeat' first|apply Ya|exact pcM|(refine X1n h304 rfl ?_;first|(simp<;>omega)|(simp[h295,h302]<;>omega))|(refine X0h h304 (by decide) ?_;first|(simp<;>omega)|(simp[h295,h302]<;>omega))|exact X04) (k:=wkT [(1,4)] (X0.glue (J nbF)))
  intro h;obtain rfl:=oj h;exact X3 [Bf] (k:=wkT [] (X0.glue (J nbS)))
end Go.Av.Tryz