/- Printed by decomp.py: that the program computes the functions. -/
import Derived.Test.YtkjlgmgfhgamlaaGreatDCert11Z
import Derived.Test.YtkjlgmgfhgamlaaGreatDCert12Z
set_option linter.all false

namespace Go.Av.Tryz
open Go.Proofs Go.D
set_option maxRecDepth 10000
set_option maxHeartbeats 40000000
instance X00z:PCs Tryz.prog 90 (∀ (a0:Xs) (r:Int),Xb3 a0=some r->X0a Tryz.prog 90 [(X7 a0)] (aI .i64 r)):=⟨λa0 r h=>by
 refine X0a.sym X3 fn90 (nt:=31) rfl rfl ?_ okM;unfold Xb3 at h;revert h;refine bI λXz3 h36=>rnI [.stop 1] ?_;intro h;refine X2.join (s':=⟨fr [(30,(aB Xz3))],hp ([]),0⟩) ?_ (λJ=>X2.cut ?_)
 ·
  revert h;exact brI (λh37=>λe=>oj e▸X6 [Bt] (k:=fi)) λh37=>λe=>oj e▸X6 [Bf] (k:=fi)
 clear h;revert h36;refine brI (λh19=>?_) λh19=>?_
 ·
  refine bI λv20 h21=>brI (λh22=>?_) λh22=>?_
  ·
   refine brI (λh23=>?_) λh23=>?_
   ·
    intro h;obtain rfl:=oj h;exact X6 [Gt,Gt,Gt,.pure _ (aB v20),Gt,Gt,Gt,Gt,Gf,Gf,Gf,Gf,Gf,Gf,Gf,Gf,Gf,Gf,Gf,Gf,Gf] (o:=by repeat' first|apply Ya|exact pcM|exact fq (X8 h19 h22)|exact fq (X8 (X8 h19 h22) h23)|exact Xv) (k:=wkT [] (X2.glue J))
   refine brI (λh24=>?_) λh24=>?_
   ·
    refine rnI [Gt,Gt,Gt,.pure _ (aB v20),Gt,Gt,Gt,Gt,Gt,Gt,Gt,Gt,Gt,Gt,Gt,Gt,Gt,.stop 999999] (o:=by repeat' first|apply Ya|exact pcM|exact fq (X8 h19 h22)|exact fq (X8 (X8 h19 h22) h23)|exact Xv) ?_;refine brI (λh25=>?_) λh25=>?_
    ·
     refine bI λv26 h27=>?_;intro h;obtain rfl:=oj h;exact X6 [Gt,Gt,Gt,.pure _ (aB v26),Gt] (o:=by repeat' first|apply Ya|exact pcM|exact fq (X8 h24 h25)|exact fq (X8 (X8 h19 h22) h23)|exact Xv) (k:=wkT [] (X2.glue J))
    intro h;obtain rfl:=oj h;exact X6 [Gf,Gf,Gf,Gt] (o:=by repeat' first|apply Ya|exact pcM|exact fq (X8 h24 h25)|exact fq (X8 (X8 h19 h22) h23)|exact Xv) (k:=wkT [] (X2.glue J))
   intro h;obtain rfl:=oj h;exact X6 [Gt,Gt,Gt,.pure _ (aB v20),Gt,Gt,Gt,Gt,Gt,Gt,Gt,Gt,Gf,Gf,Gf,Gt,Gt,Gf,Gf,Gf,Gt] (o:=by repeat' first|apply Ya|exact pcM|exact fq (X8 h19 h22)|exact fq (X8 (X8 h19 h22) h23)|exact fq (Xb h24 rfl)|exact Xv) (k:=wkT [] (X2.glue J))
  refine brI (λh28=>?_) λh28=>?_
  ·
   refine rnI [Gt,Gt,Gt,.pure _ (aB v20),Gf,Gf,Gf,Gf,Gt,Gt,Gt,Gt,Gt,Gt,Gt,Gt,Gt,.stop 999999] (o:=by repeat' first|apply Ya|exact pcM|exact fq (X8 h19 h22)|exact fq (Xb (X8 h19 h22) rfl)|exact Xv) ?_;refine brI (λh29=>?_) λh29=>?_
   ·
    refine bI λv30 h31=>?_;intro h;obtain rfl:=oj h;exact X6 [Gt,Gt,Gt,.pure _ (aB v30),Gt] (o:=by repeat' first|apply Ya|exact pcM|exact fq (X8 h28 h29)|exact fq (Xb (X8 h19 h22) rfl)|exact Xv) (k:=wkT [] (X2.glue J))
   intro h;obtain rfl:=oj h;exact X6 [Gf,Gf,Gf,Gt] (o:=by repeat' first|apply Ya|exact pcM|exact fq (X8 h28 h29)|exact fq (Xb (X8 h19 h22) rfl)|exact Xv) (k:=wkT [] (X2.glue J))
  intro h;obtain rfl:=oj h;exact X6 [Gt,Gt,Gt,.pure _ (aB v20),Gf,Gf,Gf,Gf,Gt,Gt,Gt,Gt,Gf,Gf,Gf,Gt,Gt,Gf,Gf,Gf,Gt] (o:=by repeat' first|apply Ya|exact pcM|exact fq (X8 h19 h22)|exact fq (Xb (X8 h19 h22) rfl)|exact fq (Xb h28 rfl)|exact Xv) (k:=wkT [] (X2.glue J))
 refine brI (λh32=>?_) λh32=>?_
 ·
  refine rnI [Gf,Gf,Gf,Gf,Gf,Gf,Gf,Gt,Gt,Gt,Gt,Gt,Gt,Gt,Gt,Gt,.stop 999999] (o:=by repeat' first|apply Ya|exact pcM|exact fq (Xb h19 rfl)|exact fq (Xb (Xb h19 rfl) rfl)|exact Xv) ?_;refine brI (λh33=>?_) λh33=>?_
  ·
   refine bI λv34 h35=>?_;intro h;obtain rfl:=oj h;exact X6 [Gt,Gt,Gt,.pure _ (aB v34),Gt] (o:=by repeat' first|apply Ya|exact pcM|exact fq (X8 h32 h33)|exact fq (Xb (Xb h19 rfl) rfl)|exact Xv) (k:=wkT [] (X2.glue J))
  intro h;obtain rfl:=oj h;exact X6 [Gf,Gf,Gf,Gt] (o:=by repeat' first|apply Ya|exact pcM|exact fq (X8 h32 h33)|exact fq (Xb (Xb h19 rfl) rfl)|exact Xv) (k:=wkT [] (X2.glue J))
 intro h;obtain rfl:=oj h;exact X6 [Gf,Gf,Gf,Gf,Gf,Gf,Gf,Gt,Gt,Gt,Gt,Gf,Gf,Gf,Gt,Gt,Gf,Gf,Gf,Gt] (o:=by repeat' first|apply Ya|exact pcM|exact fq (Xb h19 rfl)|exact fq (Xb (Xb h19 rfl) rfl)|exact fq (Xb h32 rfl)|exact Xv) (k:=wkT [] (X2.glue J))⟩
theorem Xi1 {Q:X04->St->Mu->Prop} {μ:Mu} (Xh:Xk):∀ (n:Nat) (X98:Int) (o:X6l) (h:X45 Xh n X98=some o)
  (C0:o=X6l.x0->X2 Tryz.prog 63 0 Q (.exit .ret) [] ⟨fr [(2,(aB false))],hp ([]),0⟩ μ)
  (C1:o=X6l.x1->X2 Tryz.prog 63 0 Q (.exit (.exit 0)) [] ⟨fr [(1,(AV.ptr 0 0 0))],hp ([(0,Ob [(Xa false Xh)] 9)]),1⟩ μ),
  X2 Tryz.prog 63 0 Q (.loop (X2p 0 (Xd Tryz.f56))) [] ⟨fr [(1,(AV.ptr 0 0 0)),(3,(aI .i64 X98))],hp ([(0,Ob [(Xa false Xh)] 9)]),1⟩ μ:=by
 intro n
 induction n with
 |zero=>intro X98 o h C0 C1;cases h
 |succ n ih =>
  intro X98 o h C0 C1;rw[X45] at h;refine X2.round ?_;revert h;refine brI (λh14=>?_) λh14=>λe=>X6 [.el (aI .i64 (Xh.Marks.length:Int)),Bf] (k:=wkT [] (C1  (oj e).symm));refine bI λe15 h16=>?_;try have qh16:=Xm h16
  refine bI λv17 h18=>brI (λh19=>λe=>X6 [.el (aI .i64 (Xh.Marks.length:Int)),Bt,.el (aI .i64 e15),.pure _ (aB v17),Bt] (k:=wkT [] (C0  (oj e).symm))) λh19=>rnI [.el (aI .i64 (Xh.Marks.length:Int)),Bt,.el (aI .i64 e15),.pure _ (aB v17),Bf,.wrap] ?_;intro h;exact wkT [] (ih  _ o h C0 C1)
theorem Xi0 {Q:X04->St->Mu->Prop} {μ:Mu} (X2c:Xk):∀ (n:Nat) (Xpe:Int) (o:X6k) (h:X44 X2c n Xpe=some o)
  (C0:o=X6k.x0->X2 Tryz.prog 63 0 Q (.exit .ret) [] ⟨fr [(2,(aB false))],hp ([]),0⟩ μ)
  (C1:o=X6k.x1->X2 Tryz.prog 63 0 Q (.exit (.exit 2)) [] ⟨fr [(1,(AV.ptr 0 0 0))],hp ([(0,Ob [(Xa false X2c)] 9)]),1⟩ μ),
  X2 Tryz.prog 63 0 Q (.loop (X2p 1 (Xd Tryz.f56))) [] ⟨fr [(1,(AV.ptr 0 0 0)),(4,(aI .i64 Xpe))],hp ([(0,Ob [(Xa false X2c)] 9)]),1⟩ μ:=by
 intro n
 induction n with
 |zero=>intro Xpe o h C0 C1;cases h
 |succ n ih =>
  intro Xpe o h C0 C1;rw[X44] at h;refine X2.round ?_;revert h;refine brI (λh35=>?_) λh35=>λe=>X6 [.el (aI .i64 (X2c.Events.length:Int)),Bf] (k:=wkT [] (C1  (oj e).symm));refine bI λe36 h37=>?_;try have qh37:=Xm h37
  refine bI λv38 h39=>brI (λh40=>λe=>X6 [.el (aI .i64 (X2c.Events.length:Int)),Bt,.el (X7 e36),.pure _ (aI .i64 v38),Bt] (k:=wkT [] (C0  (oj e).symm))) λh40=>rnI [.el (aI .i64 (X2c.Events.length:Int)),Bt,.el (X7 e36),.pure _ (aI .i64 v38),Bf,.wrap] ?_;intro h;exact wkT [] (ih  _ o h C0 C1)
theorem Xhz {Q:X04->St->Mu->Prop} {μ:Mu} (X4j:Xk):∀ (n:Nat) (Xqz:Int) (o:X6j) (h:X43 X4j n Xqz=some o)
  (C0:o=X6j.x0->X2 Tryz.prog 63 0 Q (.exit .ret) [] ⟨fr [(2,(aB false))],hp ([]),0⟩ μ)
  (C1:o=X6j.x1->X2 Tryz.prog 63 0 Q (.exit (.exit 4)) [] ⟨fr [(1,(AV.ptr 0 0 0))],hp ([(0,Ob [(Xa false X4j)] 9)]),1⟩ μ),
  X2 Tryz.prog 63 0 Q (.loop (X2p 2 (Xd Tryz.f56))) [] ⟨fr [(1,(AV.ptr 0 0 0)),(5,(aI .i64 Xqz))],hp ([(0,Ob [(Xa false X4j)] 9)]),1⟩ μ:=by
 intro n
 induction n with
 |zero=>intro Xqz o h C0 C1;cases h
 |succ n ih =>
  intro Xqz o h C0 C1;rw[X43] at h;refine X2.round ?_;revert h;refine brI (λh56=>?_) λh56=>λe=>X6 [.el (aI .i64 (X4j.Rows.length:Int)),Bf] (k:=wkT [] (C1  (oj e).symm));refine bI λe57 h58=>?_;try have qh58:=Xm h58
  refine bI λv59 h60=>brI (λh61=>λe=>X6 [.el (aI .i64 (X4j.Rows.length:Int)),Bt,.el (Xg e57),.pure _ (aB v59),Bt] (k:=wkT [] (C0  (oj e).symm))) λh61=>rnI [.el (aI .i64 (X4j.Rows.length:Int)),Bt,.el (Xg e57),.pure _ (aB v59),Bf,.wrap] ?_;intro h;exact wkT [] (ih  _ o h C0 C1)
theorem Xhy {Q:X04->St->Mu->Prop} {μ:Mu} (X8h:Xk):∀ (n:Nat) (y3_6:Int) (o:X6i) (h:X42 X8h n y3_6=some o)
  (C0:o=X6i.x0->X2 Tryz.prog 63 0 Q (.exit .ret) [] ⟨fr [(2,(aB false))],hp ([]),0⟩ μ)
  (C1:o=X6i.x1->X2 Tryz.prog 63 0 Q (.exit (.exit 6)) [] ⟨fr [],hp ([]),0⟩ μ),
  X2 Tryz.prog 63 0 Q (.loop (X2p 3 (Xd Tryz.f56))) [] ⟨fr [(1,(AV.ptr 0 0 0)),(6,(aI .i64 y3_6))],hp ([(0,Ob [(Xa false X8h)] 9)]),1⟩ μ:=by
 intro n
 induction n with
 |zero=>intro y3_6 o h C0 C1;cases h
 |succ n ih =>
  intro y3_6 o h C0 C1;rw[X42] at h;refine X2.round ?_;revert h;refine brI (λh77=>?_) λh77=>λe=>X6 [.el (aI .i64 (X8h.Late.length:Int)),Bf] (k:=wkT [] (C1  (oj e).symm));refine bI λe78 h79=>?_;try have qh79:=Xm h79
  refine bI λv80 h81=>brI (λh82=>λe=>X6 [.el (aI .i64 (X8h.Late.length:Int)),Bt,.el (X5 e78),.pure _ (aB v80),Bt] (k:=wkT [] (C0  (oj e).symm))) λh82=>rnI [.el (aI .i64 (X8h.Late.length:Int)),Bt,.el (X5 e78),.pure _ (aB v80),Bf,.wrap] ?_;intro h;exact wkT [] (ih  _ o h C0 C1)
instance X00t:PCs Tryz.prog 56 (∀ (a0:Xk) (r:Bool),Xb0 a0=some r->X0a Tryz.prog 56 [(Xa false a0)] (aB r)):=⟨λa0 r h=>by
 refine X0a.sym X3 fn56 (nt:=63) rfl rfl ?_ okM;unfold Xb0 at h;revert h;refine bI λo20 h21=>rnI [] ?_;intro h;refine wkT [] (X2.cut (Xi1 a0 _ _ _ h21 ?_ ?_))
 ·
  intro eo20;subst eo20;refine X2.glue ?_;try dsimp only at h
  revert h;exact λe=>oj e▸X6 [] (k:=fi)
 intro eo20;subst eo20;refine X2.glue ?_;try dsimp only at h
 revert h;refine bI λo41 h42=>rnI [] ?_;intro h;refine wkT [] (X2.cut (Xi0 a0 _ _ _ h42 ?_ ?_))
 ·
  intro eo41;subst eo41;refine X2.glue ?_;try dsimp only at h
  revert h;exact λe=>oj e▸X6 [] (k:=fi)
 intro eo41;subst eo41;refine X2.glue ?_;try dsimp only at h
 revert h;refine bI λo62 h63=>rnI [] ?_;intro h;refine wkT [] (X2.cut (Xhz a0 _ _ _ h63 ?_ ?_))
 ·
  intro eo62;subst eo62;refine X2.glue ?_;try dsimp only at h
  revert h;exact λe=>oj e▸X6 [] (k:=fi)
 intro eo62;subst eo62;refine X2.glue ?_;try dsimp only at h
 revert h;refine bI λo83 h84=>rnI [] ?_;intro h;refine wkT [] (X2.cut (Xhy a0 _ _ _ h84 ?_ ?_))
 ·
  intro eo83;subst eo83;refine X2.glue ?_;try dsimp only at h
  revert h;exact λe=>oj e▸X6 [] (k:=fi)
 intro eo83;subst eo83;refine X2.glue ?_;try dsimp only at h
 revert h;exact λe=>oj e▸X6 [] (k:=fi)⟩
instance X012:PCs Tryz.prog 92 (∀ (a0:Xn) (r:Int),X5o a0=some r->X0a Tryz.prog 92 [(Xw a0)] (aI .i64 r)):=⟨λa0 r h=>by
 refine X0a.sym X3 fn92 (nt:=53) rfl rfl ?_ okM;unfold X5o at h;revert h;refine bI λj2_3 h4=>rnI [] ?_;intro h;refine X2.join (s':=⟨fr [(1,(AV.ptr 0 0 0)),(3,(aB j2_3))],hp ([(0,Ob [(Xw a0)] 4)]),1⟩) ?_ (λJ=>X2.cut ?_)
 ·
  revert h;exact brI (λh5=>λe=>oj e▸X6 [Bt] (k:=fi)) λh5=>brI (λh6=>λe=>oj e▸X6 [Bf,Bt] (k:=fi)) λh6=>brI (λh7=>λe=>oj e▸X6 [Bf,Bf,Bt] (k:=fi)) λh7=>brI (λh8=>λe=>oj e▸X6 [Bf,Bf,Bf,Bt] (k:=fi)) λh8=>λe=>oj e▸X6 [Bf,Bf,Bf,Bf] (k:=fi)
 clear h;revert h4;refine brI (λh3=>?_) λh3=>?_
 ·
  intro h;obtain rfl:=oj h;exact X6 [Bt] (k:=wkT [] (X2.glue J))
 intro h;obtain rfl:=oj h;exact X6 [Bf] (k:=wkT [] (X2.glue J))⟩
instance X02o:PCs Tryz.prog 93 (∀ (a0:X1) (a1:X1) (r:Bool),X8x a0 a1=some r->X0a Tryz.prog 93 [(X0 a0),(X0 a1)] (aB r)):=⟨λa0 a1 r h=>by
 refine X0a.sym X3 fn93 (nt:=38) rfl rfl ?_ okM;unfold X8x at h;revert h;exact brI (λh1=>λe=>oj e▸X6 [Bt] (k:=fi)) λh1=>brI (λh2=>λe=>oj e▸X6 [Bf,Bt] (k:=fi)) λh2=>λe=>oj e▸X6 [Bf,Bf] (k:=fi)⟩
theorem Xi4 {Q:X04->St->Mu->Prop} {μ:Mu} (X0c:(List X1)) (hl:X0c.length<=140737488355328):∀ (xs:List X1) (k:Nat) (hx:X0c.drop k=xs) (o:X6n) (h:X48 X0c xs k  = some o)
  (C0:o=X6n.x0->X2 Tryz.prog 85 0 Q (.exit (.exit 0)) [] ⟨fr [],hp ([]),0⟩ μ)
  (C1:o=X6n.x1->X2 Tryz.prog 85 0 Q (.exit .ret) [] ⟨fr [(2,(aI .i64 8))],hp ([]),0⟩ μ),
  X2 Tryz.prog 85 0 Q (.loop (X2p 0 (Xd Tryz.f57))) [] ⟨fr [(0,(Lf (X0c.map X0))),(3,(aI .i64 (k:Int)))],hp ([]),0⟩ μ:=by
 intro xs
 induction xs with
 |nil =>
  intro k hx  o h C0 C1;have hk:=X1f hx;have hc:decide ((k:Int)<(X0c.length:Int))=false:=Yf om;rw[X48] at h;refine X2.round ?_;revert h;exact λe=>X6 [.el (aI .i64 (X0c.length:Int)),Bf] (k:=wkT [] (C0  (oj e).symm))
 |cons x xs ih =>
  intro k hx  o h C0 C1;obtain⟨hk,hg,hx1⟩:=X0u hx;have hc:decide ((k:Int)<(X0c.length:Int))=true:=Yt om;rw[X48] at h;refine X2.round ?_;revert h;refine bI λXry h102=>rnI [.el (aI .i64 (X0c.length:Int)),Bt,.el (X0 x),.stop 8] ?_;intro h;refine X2.join (s':=⟨fr [(0,(Lf (X0c.map X0))),(3,(aI .i64 (k:Int))),(4,(AV.ptr 0 0 0)),(5,(aB (bif (bif (decide (x.Span.Start >= ((-1100585369600):Int))) then (decide (x.Span.Start<x.Span.End)) else false) then (decide (x.Span.End<=(1100585369600:Int))) else false))),(6,(aB Xry))],hp ([(0,Ob [(X0 x)] 11)]),1⟩) ?_ (λJ=>X2.cut ?_)
  ·
   revert h;refine bI λXsj h132=>rnI [.stop 9] ?_;intro h;refine X2.join (s':=⟨fr [(0,(Lf (X0c.map X0))),(3,(aI .i64 (k:Int))),(84,(aB Xsj))],hp ([]),0⟩) ?_ (λJ=>X2.cut ?_)
   ·
    revert h;refine brI (λh133=>λe=>X6 [Bt] (k:=wkT [] (C1  (oj e).symm))) λh133=>rnI [Bf] ?_;intro h;exact wkT [] (ih (k+1) hx1  o h C0 C1)
   clear h;revert h132;refine brI (λh118=>?_) λh118=>?_
   ·
    intro h;obtain rfl:=oj h;exact X6 [Gf,Gf,Gt,Gf,Gf,Gf,Gf,Gf,Gf,.no,.no,.no,.no,.no,Gf,Gt,Gf,Gf,Gf,.no,.no,.no,.no,.no,.no,.no,.no,Gf,Gt] (k:=wkT [] (X2.glue J))
   refine brI (λh119=>?_) λh119=>?_
   ·
    intro h;obtain rfl:=oj h;exact X6 [Gt,Gt,Gf,Gf,Gf,Gf,Gf,Gf,.no,.no,.no,.no,.no,Gf,Gt,Gf,Gf,Gf,.no,.no,.no,.no,.no,.no,.no,.no,Gf,Gt] (o:=by repeat' first|apply Ya|exact pcM|exact fq (Xb h118 h119)|exact Xv) (k:=wkT [] (X2.glue J))
   refine brI (λh120=>?_) λh120=>?_
   ·
    refine brI (λh121=>?_) λh121=>?_
    ·
     intro h;obtain rfl:=oj h;exact X6 [Gt,Gt,Gt,Gt,.ix 0,Gt,Gt,Gt,Gt,Gt,Gt,.ix 1,Gt,Gt,Gt,Gt,Gf,Gf,Gf,.no,.no,.no,.no,.no,.no,.no,.no,Gf,Gt] (o:=by repeat' first|apply Ya|exact pcM|exact fq (Xb h118 h119)|exact fq (Xb (Xb h118 h119) (X8 h120 h121))|exact Xv) (k:=wkT [] (X2.glue J))
    refine brI (λh122=>?_) λh122=>?_
    ·
     refine bI λe123 h124=>?_;try have qh124:=Xm h124
     refine bI λv125 h126=>?_;intro h;obtain rfl:=oj h;exact X6 [Gt,Gt,Gt,Gt,.ix 0,Gt,Gt,Gt,Gt,Gt,Gt,.ix 1,Gt,Gt,Gt,Gt,Gt,Gt,Gt,Gt,Gt,Gt,.wrap,Gt,X2d.el (X0 e123),Gt,Gt,Gt,X2d.pure _ (aB v125),Gt,Gt] (o:=by repeat' first|apply Ya|exact pcM|exact fq (Xb h118 h119)|exact fq (Xb (Xb h118 h119) (X8 h120 h121))|exact Xv) (k:=wkT [] (X2.glue J))
    intro h;obtain rfl:=oj h;exact X6 [Gt,Gt,Gt,Gt,.ix 0,Gt,Gt,Gt,Gt,Gt,Gt,.ix 1,Gt,Gt,Gt,Gt,Gt,Gt,Gt,Gf,Gf,Gf,Gf,Gf,Gf,Gf,Gf,Gt,Gf] (o:=by repeat' first|apply Ya|exact pcM|exact fq (Xb h118 h119)|exact fq (Xb (Xb h118 h119) (X8 h120 h121))|exact Xv) (k:=wkT [] (X2.glue J))
   refine brI (λh127=>?_) λh127=>?_
   ·
    refine bI λe128 h129=>?_;try have qh129:=Xm h129
    refine bI λv130 h131=>?_;intro h;obtain rfl:=oj h;exact X6 [Gt,Gt,Gt,Gt,.ix 0,Gt,Gt,Gt,Gt,Gf,Gf,Gf,Gf,Gf,Gt,Gf,Gt,Gt,Gt,Gt,Gt,Gt,.wrap,Gt,X2d.el (X0 e128),Gt,Gt,Gt,X2d.pure _ (aB v130),Gt,Gt] (o:=by repeat' first|apply Ya|exact pcM|exact fq (Xb h118 h119)|exact fq (Xb (Xb h118 h119) rfl)|exact Xv) (k:=wkT [] (X2.glue J))
   intro h;obtain rfl:=oj h;exact X6 [Gt,Gt,Gt,Gt,.ix 0,Gt,Gt,Gt,Gt,Gf,Gf,Gf,Gf,Gf,Gt,Gf,Gt,Gt,Gt,Gf,Gf,Gf,Gf,Gf,Gf,Gf,Gf,Gt,Gf] (o:=by repeat' first|apply Ya|exact pcM|exact fq (Xb h118 h119)|exact fq (Xb (Xb h118 h119) rfl)|exact Xv) (k:=wkT [] (X2.glue J))
  clear h;revert h102;refine bI λv97 h98=>brI (λh99=>?_) λh99=>?_
  ·
   refine bI λv100 h101=>?_;intro h;obtain rfl:=oj h;exact X6 [.ix 0,.pure _ (aI .i64 v97),Gt,Gt,.ix 1,Gt,Gt,.pure _ (aI .i64 v100),Gt] (k:=wkT [] (X2.glue J))
  intro h;obtain rfl:=oj h;exact X6 [.ix 0,.pure _ (aI .i64 v97),Gf,Gf,Gf,Gf,Gf] (k:=wkT [] (X2.glue J))
instance X011:PCs Tryz.prog 57 (∀ (a0:(List X1)) (r:Int),X6v a0=some r->X0a Tryz.prog 57 [(Lf (a0.map X0))] (aI .i64 r)):=⟨λa0 r h=>by
 refine X0a.sym X3 fn57 (nt:=85) rfl rfl ?_ okM;unfold X6v at h;revert h;refine brI (λh1=>λe=>oj e▸X6 [.el (aI .i64 (a0.length:Int)),Bt] (k:=fi)) λh1=>bI λu2 h3=>?_;have qh3:=X0v h3;refine bI λo134 h135=>rnI [.el (aI .i64 (a0.length:Int)),Bf] ?_;intro h;refine wkT [] (X2.cut (Xi4 a0 qh3 a0 0 (by simp) _ h135 ?_ ?_))
 ·
  intro eo134;subst eo134;refine X2.glue ?_;try dsimp only at h
  revert h;exact λe=>oj e▸X6 [] (k:=fi)
 intro eo134;subst eo134;refine X2.glue ?_;try dsimp only at h
 revert h;exact λe=>oj e▸X6 [] (k:=fi)⟩
theorem Xi2 {Q:X04->St->Mu->Prop} {μ:Mu} (Xh:Xk):∀ (n:Nat) (X98:Int) (o:X6m) (h:X46 Xh n X98=some o)
  (C0:o=X6m.x0->X2 Tryz.prog 72 0 Q (.exit .ret) [] ⟨fr [(2,(aI .i64 8))],hp ([]),0⟩ μ)
  (C1:o=X6m.x1->X2 Tryz.prog 72 0 Q (.exit (.exit 0)) [] ⟨fr [],hp ([]),0⟩ μ),
  X2 Tryz.prog 72 0 Q (.loop (X2p 0 (Xd Tryz.f26))) [] ⟨fr [(1,(AV.ptr 0 0 0)),(3,(aI .i64 X98))],hp ([(0,Ob [(Xa false Xh)] 9)]),1⟩ μ:=by
 intro n
 induction n with
 |zero=>intro X98 o h C0 C1;cases h
 |succ n ih =>
  intro X98 o h C0 C1;rw[X46] at h;refine X2.round ?_;revert h;refine brI (λh54=>?_) λh54=>λe=>X6 [.el (aI .i64 (Xh.Store.length:Int)),Bf] (k:=wkT [] (C1  (oj e).symm));refine bI λXys h62=>rnI [.el (aI .i64 (Xh.Store.length:Int)),Bt,.stop 8] ?_;intro h;refine X2.join (s':=⟨fr [(1,(AV.ptr 0 0 0)),(3,(aI .i64 X98)),(71,(aB Xys))],hp ([(0,Ob [(Xa false Xh)] 9)]),1⟩) ?_ (λJ=>X2.cut ?_)
  ·
   revert h;refine brI (λh63=>λe=>X6 [Bt] (k:=wkT [] (C0  (oj e).symm))) λh63=>rnI [Bf,.wrap] ?_;intro h;exact wkT [] (ih  _ o h C0 C1)
  clear h;revert h62;refine brI (λh59=>?_) λh59=>?_
  ·
   refine bI λe60 h61=>?_;try have qh61:=Xm h61
   intro h;obtain rfl:=oj h;exact X6 [Gt,Gt,Gt,Gt,.el (X0 e60),Gt,Gt,.ix 1,Gt,Gt,Gt] (k:=wkT [] (X2.glue J))
  intro h;obtain rfl:=oj h;exact X6 [Gf,Gf,Gf,Gf,Gf,Gf,Gf,Gf,Gf] (k:=wkT [] (X2.glue J))
instance X00w:PCs Tryz.prog 26 (∀ (a0:Xk) (r:Int),Xb2 a0=some r->X0a Tryz.prog 26 [(Xa false a0)] (aI .i64 r)):=⟨λa0 r h=>by
 refine X0a.sym X3 fn26 (nt:=72) rfl rfl ?_ okM;unfold Xb2 at h;revert h;refine bI λXz5 h28=>rnI [.stop 1] ?_;intro h;refine X2.join (s':=⟨fr [(1,(AV.ptr 0 0 0)),(45,(aB Xz5))],hp ([(0,Ob [(Xa false a0)] 9)]),1⟩) ?_ (λJ=>X2.cut ?_)
 ·
  revert h;refine brI (λh29=>λe=>oj e▸X6 [Bt] (k:=fi)) λh29=>bI λv30 h31=>brI (λh32=>λe=>oj e▸X6 [Bf,.pure _ (aI .i64 v30),Bt] (k:=fi)) λh32=>bI λo64 h65=>rnI [Bf,.pure _ (aI .i64 v30),Bf] ?_;intro h;refine wkT [] (X2.cut (Xi2 a0 _ _ _ h65 ?_ ?_))
  ·
   intro eo64;subst eo64;refine X2.glue ?_;try dsimp only at h
   revert h;exact λe=>oj e▸X6 [] (k:=fi)
  intro eo64;subst eo64;refine X2.glue ?_;try dsimp only at h
  revert h;exact λe=>oj e▸X6 [] (k:=fi)
 clear h;revert h28;refine brI (λh15=>?_) λh15=>?_
 ·
  intro h;obtain rfl:=oj h;exact X6 [Gf,Gf,Gf,Gf,Gf,Gf,Gf,Gf,Gf,Gf,Gf,Gf,Gf,Gf,Gf,Gf,Gf,Gf,Gf,Gf,Gf,Gf,Gf,Gf,Gf] (o:=by repeat' first|apply Ya|exact pcM|exact fq (X8 h15 rfl)|exact fq (X8 (X8 h15 rfl) rfl)|exact fq (X8 (X8 (X8 h15 rfl) rfl) rfl)|exact fq (X8 (X8 (X8 (X8 h15 rfl) rfl) rfl) rfl)|exact fq (X8 (X8 (X8 (X8 (X8 h15 rfl) rfl) rfl) rfl) rfl)|exact fq (X8 (X8 (X8 (X8 (X8 (X8 h15 rfl) rfl) rfl) rfl) rfl) rfl)|exact Xv) (k:=wkT [] (X2.glue J))
 refine brI (λh16=>?_) λh16=>?_
 ·
  intro h;obtain rfl:=oj h;exact X6 [Gt,Gt,Gt,Gf,Gf,Gf,Gf,Gf,Gf,Gf,Gf,Gf,Gf,Gf,Gf,Gf,Gf,Gf,Gf,Gf,Gf,Gf,Gf,Gf,Gf] (o:=by repeat' first|apply Ya|exact pcM|exact fq (Xb h15 h16)|exact fq (X8 (Xb h15 h16) rfl)|exact fq (X8 (X8 (Xb h15 h16) rfl) rfl)|exact fq (X8 (X8 (X8 (Xb h15 h16) rfl) rfl) rfl)|exact fq (X8 (X8 (X8 (X8 (Xb h15 h16) rfl) rfl) rfl) rfl)|exact fq (X8 (X8 (X8 (X8 (X8 (Xb h15 h16) rfl) rfl) rfl) rfl) rfl)|exact Xv) (k:=wkT [] (X2.glue J))
 refine brI (λh17=>?_) λh17=>?_
 ·
  intro h;obtain rfl:=oj h;exact X6 [Gt,Gt,Gt,Gt,Gt,Gt,X2d.el (aI .i64 (a0.Pending.length:Int)),Gt,Gf,Gf,Gf,Gf,Gf,Gf,Gf,Gf,Gf,Gf,Gf,Gf,Gf,Gf,Gf,Gf,Gf,Gf] (o:=by repeat' first|apply Ya|exact pcM|exact fq (Xb h15 h16)|exact fq (Xb (Xb h15 h16) h17)|exact fq (X8 (Xb (Xb h15 h16) h17) rfl)|exact fq (X8 (X8 (Xb (Xb h15 h16) h17) rfl) rfl)|exact fq (X8 (X8 (X8 (Xb (Xb h15 h16) h17) rfl) rfl) rfl)|exact fq (X8 (X8 (X8 (X8 (Xb (Xb h15 h16) h17) rfl) rfl) rfl) rfl)|exact Xv) (k:=wkT [] (X2.glue J))
 refine rnI [Gt,Gt,Gt,Gt,Gt,Gt,.el (aI .i64 (a0.Pending.length:Int)),Gt,Gt,Gt,Gt,Gt,.stop 999999] (o:=by repeat' first|apply Ya|exact pcM|exact fq (Xb h15 h16)|exact fq (Xb (Xb h15 h16) h17)|exact Xv) ?_;refine brI (λh18=>?_) λh18=>?_
 ·
  intro h;obtain rfl:=oj h;exact X6 [Gf,Gf,Gf,Gf,Gf,Gf,Gf,Gf,Gf,Gf,Gf,Gf,Gf,Gf] (o:=by repeat' first|apply Ya|exact pcM|exact fq (Xb (Xb (Xb h15 h16) h17) h18)|exact fq (X8 (Xb (Xb (Xb h15 h16) h17) h18) rfl)|exact fq (X8 (X8 (Xb (Xb (Xb h15 h16) h17) h18) rfl) rfl)|exact fq (X8 (X8 (X8 (Xb (Xb (Xb h15 h16) h17) h18) rfl) rfl) rfl)|exact Xv) (k:=wkT [] (X2.glue J))
 refine brI (λh19=>?_) λh19=>?_
 ·
  intro h;obtain rfl:=oj h;exact X6 [Gt,Gt,Gt,Gt,Gf,Gf,Gf,Gf,Gf,Gf,Gf,Gf,Gf,Gf] (o:=by repeat' first|apply Ya|exact pcM|exact fq (Xb (Xb (Xb h15 h16) h17) h18)|exact fq (Xb (Xb (Xb (Xb h15 h16) h17) h18) h19)|exact fq (X8 (Xb (Xb (Xb (Xb h15 h16) h17) h18) h19) rfl)|exact fq (X8 (X8 (Xb (Xb (Xb (Xb h15 h16) h17) h18) h19) rfl) rfl)|exact Xv) (k:=wkT [] (X2.glue J))
 refine bI λv20 h21=>brI (λh22=>?_) λh22=>?_
 ·
  intro h;obtain rfl:=oj h;exact X6 [Gt,Gt,Gt,Gt,Gt,Gt,.pure _ (aB v20),Gt,Gf,Gf,Gf,Gf,Gf,Gf,Gf] (o:=by repeat' first|apply Ya|exact pcM|exact fq (Xb (Xb (Xb h15 h16) h17) h18)|exact fq (Xb (Xb (Xb (Xb h15 h16) h17) h18) h19)|exact fq (Xb (Xb (Xb (Xb (Xb h15 h16) h17) h18) h19) h22)|exact fq (X8 (Xb (Xb (Xb (Xb (Xb h15 h16) h17) h18) h19) h22) rfl)|exact Xv) (k:=wkT [] (X2.glue J))
 refine bI λv23 h24=>brI (λh25=>?_) λh25=>?_
 ·
  intro h;obtain rfl:=oj h;exact X6 [Gt,Gt,Gt,Gt,Gt,Gt,.pure _ (aB v20),Gt,Gt,Gt,Gt,.pure _ (aB v23),Gt,Gf,Gf,Gf] (o:=by repeat' first|apply Ya|exact pcM|exact fq (Xb (Xb (Xb h15 h16) h17) h18)|exact fq (Xb (Xb (Xb (Xb h15 h16) h17) h18) h19)|exact fq (Xb (Xb (Xb (Xb (Xb h15 h16) h17) h18) h19) h22)|exact fq (Xb (Xb (Xb (Xb (Xb (Xb h15 h16) h17) h18) h19) h22) h25)|exact Xv) (k:=wkT [] (X2.glue J))
 refine bI λv26 h27=>?_;intro h;obtain rfl:=oj h;exact X6 [Gt,Gt,Gt,Gt,Gt,Gt,.pure _ (aB v20),Gt,Gt,Gt,Gt,.pure _ (aB v23),Gt,Gt,Gt,.pure _ (aB v26),Gt] (o:=by repeat' first|apply Ya|exact pcM|exact fq (Xb (Xb (Xb h15 h16) h17) h18)|exact fq (Xb (Xb (Xb (Xb h15 h16) h17) h18) h19)|exact fq (Xb (Xb (Xb (Xb (Xb h15 h16) h17) h18) h19) h22)|exact fq (Xb (Xb (Xb (Xb (Xb (Xb h15 h16) h17) h18) h19) h22) h25)|exact Xv) (k:=wkT [] (X2.glue J))⟩
instance Xwc:PCs Tryz.prog 106 (∀ (a0:Xo) (r:Bool),X7q a0=some r->X0a Tryz.prog 106 [(X0k a0)] (aB r)):=⟨λa0 r h=>by
 refine X0a.sym X3 X0de (nt:=15) rfl rfl ?_ okM;unfold X7q at h;revert h;exact bI λv1 h2=>λe=>oj e▸X6 [.pure _ (aB v1)] (k:=fi)⟩
instance X00r:PCs Tryz.prog 71 (∀ (a0:Xk) (a1:Int) (a2:Int) (a3:Xo) (r:Int),X8o a0 a1 a2 a3=some r->X0a Tryz.prog 71 [(Xa false a0),(aI .u8 a1),(aI .i64 a2),(X0k a3)] (aI .i64 r)):=⟨λa0 a1 a2 a3 r h=>by
 refine X0a.sym X3 fn71 (nt:=38) rfl rfl ?_ okM;unfold X8o at h;revert h;refine bI λv1 h2=>brI (λh3=>λe=>oj e▸X6 [.pure _ (aI .i64 v1),Bt] (k:=fi)) λh3=>bI λX06g h9=>rnI [.pure _ (aI .i64 v1),Bf,.stop 4] ?_;intro h;refine X2.join (s':=⟨fr [(4,(AV.ptr 0 0 0)),(7,(AV.ptr 1 0 0)),(30,(aB X06g))],hp ([(0,Ob [(Xa false a0)] 9),(1,Ob [(X0k a3)] 10)]),2⟩) ?_ (λJ=>X2.cut ?_)
 ·
  revert h;exact brI (λh10=>λe=>oj e▸X6 [Bt] (k:=fi)) λh10=>bI λv11 h12=>brI (λh13=>λe=>oj e▸X6 [Bf,.pure _ (aB v11),Bt] (k:=fi)) λh13=>brI (λh14=>λe=>oj e▸X6 [Bf,.pure _ (aB v11),Bf,.el (aI .i64 (a0.Pending.length:Int)),Bt] (k:=fi)) λh14=>λe=>oj e▸X6 [Bf,.pure _ (aB v11),Bf,.el (aI .i64 (a0.Pending.length:Int)),Bf] (k:=fi)
 clear h;revert h9;refine brI (λh7=>?_) λh7=>?_
 ·
  intro h;obtain rfl:=oj h;exact X6 [Gf,Gf,Gf,Gf,Gf,Gf,Gf] (o:=by repeat' first|apply Ya|exact pcM|exact fq (X8 h7 rfl)|exact Xv) (k:=wkT [] (X2.glue J))
 refine brI (λh8=>?_) λh8=>?_
 ·
  intro h;obtain rfl:=oj h;exact X6 [Gt,Gt,Gf,Gf,Gf,Gf,Gf] (o:=by repeat' first|apply Ya|exact pcM|exact fq (Xb h7 h8)|exact Xv) (k:=wkT [] (X2.glue J))
 intro h;obtain rfl:=oj h;exact X6 [Gt,Gt,Gt,Gt,Gt,Gt,.el (aI .i64 (a0.Marks.length:Int)),Gt] (o:=by repeat' first|apply Ya|exact pcM|exact fq (Xb h7 h8)|exact Xv) (k:=wkT [] (X2.glue J))⟩
instance Xxs:PCs Tryz.prog 107 (∀ (a0:X1v) (r:Int),X9h a0=some r->X0a Tryz.prog 107 [(X1y a0)] (aI .i64 r)):=⟨λa0 r h=>by
 refine X0a.sym X3 X0dd (nt:=6) rfl rfl ?_ okM;unfold X9h at h;revert h;exact bI λv1 h2=>brI (λh3=>λe=>oj e▸X6 [.pure _ (aB v1),Bt] (k:=fi)) λh3=>λe=>oj e▸X6 [.pure _ (aB v1),Bf] (k:=fi)⟩
instance X014:PCs Tryz.prog 108 (∀ (a0:Int) (a1:Int) (r:Int),X8y a0 a1=some r->X0a Tryz.prog 108 [(aI .i64 a0),(aI .i64 a1)] (aI .i64 r)):=⟨λa0 a1 r h=>by
 refine X0a.sym X3 X0dc (nt:=17) rfl rfl ?_ okM;unfold X8y at h;revert h;exact brI (λh1=>λe=>oj e▸X6 [Bt] (k:=fi)) λh1=>brI (λh2=>λe=>oj e▸X6 [Bf,Bt] (k:=fi)) λh2=>λe=>oj e▸X6 [Bf,Bf] (k:=fi)⟩
instance X01f:PCs Tryz.prog 200 (∀ (a0:Bool) (r:Int),X90 a0=some r->X0a Tryz.prog 200 [(aB a0)] (aI .i64 r)):=⟨λa0 r h=>by
 refine X0a.sym X3 X0bk (nt:=4) rfl rfl ?_ okM;unfold X90 at h;revert h;exact brI (λh1=>λe=>oj e▸X6 [Bt] (k:=fi)) λh1=>λe=>oj e▸X6 [Bf] (k:=fi)⟩
instance X01h:PCs Tryz.prog 202 (∀ (a0:Int) (r:Int),Xdk a0=some r->X0a Tryz.prog 202 [(aI .i64 a0)] (aI .i64 r)):=⟨λa0 r h=>by
 refine X0a.sym X3 X0bi (nt:=7) rfl rfl ?_ okM;unfold Xdk at h;revert h;exact λe=>oj e▸X6 [.wrap,.wrap] (k:=fi)⟩
theorem Xi7 {Q:X04->St->Mu->Prop} {μ:Mu} (X0c:Int):∀ (n:Nat) (X98:Int) (Xjj:Int) (o:X9s) (h:X9b X0c n X98 Xjj=some o)
  (C0:∀ (X71:Int),o=X9s.x0 X71->X2 Tryz.prog 14 0 Q (.exit (.exit 0)) [] ⟨fr [(3,(aI .i64 X71))],hp ([]),0⟩ μ),
  X2 Tryz.prog 14 0 Q (.loop (X2p 0 (Xd Tryz.f201))) [] ⟨fr [(0,(aI .i64 X0c)),(3,(aI .i64 X98)),(4,(aI .i64 Xjj))],hp ([]),0⟩ μ:=by
 intro n
 induction n with
 |zero=>intro X98 Xjj o h C0;cases h
 |succ n ih =>
  intro X98 Xjj o h C0;rw[X9b] at h;refine X2.round ?_;revert h;refine brI (λh4=>?_) λh4=>λe=>X6 [Bf] (k:=wkT [] (C0 _  (oj e).symm));refine rnI [Bt,.wrap,.wrap] ?_;intro h;exact wkT [] (ih  _ _ o h C0)
instance X01e:PCs Tryz.prog 201 (∀ (a0:Int) (r:Int),Xge a0=some r->X0a Tryz.prog 201 [(aI .i64 a0)] (aI .i64 r)):=⟨λa0 r h=>by
 refine X0a.sym X3 X0bj (nt:=14) rfl rfl ?_ okM;unfold Xge at h;revert h;refine bI λo5 h6=>rnI [] ?_;intro h;refine wkT [] (X2.cut (Xi7 a0 _ _ _ _ h6 ?_));intro X71 eo5;subst eo5;refine X2.glue ?_;try dsimp only at h
 revert h;exact λe=>oj e▸X6 [] (k:=fi)⟩
end Go.Av.Tryz