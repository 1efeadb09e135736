/- Printed by decomp.py: that the program computes the functions. -/
import Derived.Test.YtkjlgmgfhgamlaaGreatDCert11Z
set_option linter.all false

namespace Go.Av.Tryz
open Go.Proofs Go.D
set_option maxRecDepth 10000
set_option maxHeartbeats 40000000
instance X016:PCs Tryz.prog 88 (∀ (a0:Xp) (r:Bool),X8t a0=some r->X0b Tryz.prog 88 [(X0n a0)] (aB r)):=⟨λa0 r h=>by
 refine X0b.sym X3 fn88 (nt:=48) rfl rfl ?_ okM;unfold X8t at h;revert h;refine bI λj2_5 h4=>rnI [] ?_;intro h;refine X2.join (s':=⟨fr [(1,(AV.ptr 0 0 0)),(4,(aI .u8 a0.Kind)),(5,(aB j2_5))],hp ([(0,Ob [(X0n a0)] 10)]),1⟩) ?_ (λJ=>X2.cut ?_)
 ·
  revert h;refine brI (λh5=>?_) λh5=>?_
  ·
   refine bI λj9_2 h13=>rnI [Bt,.stop 4] ?_;intro h;refine X2.join (s':=⟨fr [(2,(aB j9_2))],hp ([]),0⟩) ?_ (λJ=>X2.cut ?_)
   ·
    revert h;exact λe=>oj e▸X6 [] (k:=fi)
   clear h;revert h13;refine bI λv10 h11=>brI (λh12=>?_) λh12=>?_
   ·
    intro h;obtain rfl:=oj h;exact X6 [.pure _ (aB v10),Gt,Gt,Gt,Gt,Gt,Gt,Gt] (k:=wkT [] (X2.glue J))
   intro h;obtain rfl:=oj h;exact X6 [.pure _ (aB v10),Gf,Gf,Gf,Gf,Gf,Gf,Gf] (k:=wkT [] (X2.glue J))
  refine brI (λh14=>?_) λh14=>?_
  ·
   refine bI λX07i h22=>rnI [Bf,Bt,.stop 6] ?_;intro h;refine X2.join (s':=⟨fr [(2,(aB X07i))],hp ([]),0⟩) ?_ (λJ=>X2.cut ?_)
   ·
    revert h;exact λe=>oj e▸X6 [] (k:=fi)
   clear h;revert h22;refine bI λv19 h20=>brI (λh21=>?_) λh21=>?_
   ·
    intro h;obtain rfl:=oj h;exact X6 [.pure _ (aB v19),Gt,Gt,Gt,Gt,Gt,Gt,Gt] (k:=wkT [] (X2.glue J))
   intro h;obtain rfl:=oj h;exact X6 [.pure _ (aB v19),Gf,Gf,Gf,Gf,Gf,Gf,Gf] (k:=wkT [] (X2.glue J))
  refine brI (λh23=>?_) λh23=>λe=>oj e▸X6 [Bf,Bf,Bf] (k:=fi);refine bI λX07g h31=>rnI [Bf,Bf,Bt,.stop 8] ?_;intro h;refine X2.join (s':=⟨fr [(2,(aB X07g))],hp ([]),0⟩) ?_ (λJ=>X2.cut ?_)
  ·
   revert h;exact λe=>oj e▸X6 [] (k:=fi)
  clear h;revert h31;refine bI λv28 h29=>brI (λh30=>?_) λh30=>?_
  ·
   intro h;obtain rfl:=oj h;exact X6 [.pure _ (aB v28),Gt,Gt,Gt,Gt,Gt,Gt,Gt] (k:=wkT [] (X2.glue J))
  intro h;obtain rfl:=oj h;exact X6 [.pure _ (aB v28),Gf,Gf,Gf,Gf,Gf,Gf,Gf] (k:=wkT [] (X2.glue J))
 clear h;revert h4;refine brI (λh3=>?_) λh3=>?_
 ·
  intro h;obtain rfl:=oj h;exact X6 [Bt] (k:=wkT [] (X2.glue J))
 intro h;obtain rfl:=oj h;exact X6 [Bf] (k:=wkT [] (X2.glue J))⟩
theorem Xi8 {Q:X03->St->Mu->Prop} {μ:Mu} (X0c:(List X09)) (hl:X0c.length<=140737488355328):∀ (xs:List X09) (k:Nat) (hx:X0c.drop k=xs) (o:X6l) (h:X41 X0c xs k  = some o)
  (C0:o=X6l.x0->X2 Tryz.prog 33 0 Q (.exit (.exit 0)) [] ⟨fr [],hp ([]),0⟩ μ)
  (C1:o=X6l.x1->X2 Tryz.prog 33 0 Q (.exit .ret) [] ⟨fr [(2,(aB false))],hp ([]),0⟩ μ),
  X2 Tryz.prog 33 0 Q (.loop (X2o 0 (Xd Tryz.f55))) [] ⟨fr [(0,(Lf (X0c.map Xc))),(3,(aI .i64 (k:Int)))],hp ([]),0⟩ μ:=by
 intro xs
 induction xs with
 |nil =>
  intro k hx  o h C0 C1;have hk:=X1g hx;have hc:decide ((k:Int)<(X0c.length:Int))=false:=Yf om;rw[X41] at h;refine X2.round ?_;revert h;exact λe=>X6 [.el (aI .i64 (X0c.length:Int)),Bf] (k:=wkT [] (C0  (oj e).symm))
 |cons x xs ih =>
  intro k hx  o h C0 C1;obtain⟨hk,hg,hx1⟩:=X0u hx;have hc:decide ((k:Int)<(X0c.length:Int))=true:=Yt om;rw[X41] at h;refine X2.round ?_;revert h;refine bI λXz5 h35=>rnI [.el (aI .i64 (X0c.length:Int)),Bt,.stop 4] ?_;intro h;refine X2.join (s':=⟨fr [(0,(Lf (X0c.map Xc))),(3,(aI .i64 (k:Int))),(32,(aB Xz5))],hp ([]),0⟩) ?_ (λJ=>X2.cut ?_)
  ·
   revert h;refine brI (λh36=>λe=>X6 [Bt] (k:=wkT [] (C1  (oj e).symm))) λh36=>rnI [Bf] ?_;intro h;exact wkT [] (ih (k+1) hx1  o h C0 C1)
  clear h;revert h35;refine brI (λh31=>?_) λh31=>?_
  ·
   intro h;obtain rfl:=oj h;exact X6 [.el (Xc x),Gf,Gf,Gf,Gf,Gf,Gf,Gf,Gf,Gf,Gf,Gf,Gf,Gf] (o:=by repeat' first|apply Ya|exact pcM|exact fq (X7 h31 rfl)|exact Xu) (k:=wkT [] (X2.glue J))
  refine brI (λh32=>?_) λh32=>?_
  ·
   intro h;obtain rfl:=oj h;exact X6 [.el (Xc x),Gt,Gt,Gt,.el (Xc x),Gt,Gt,Gt,Gf,Gf,Gf,Gf,Gf,Gf,Gf] (o:=by repeat' first|apply Ya|exact pcM|exact fq (Xb h31 h32)|exact Xu) (k:=wkT [] (X2.glue J))
  refine bI λv33 h34=>?_;intro h;obtain rfl:=oj h;exact X6 [.el (Xc x),Gt,Gt,Gt,.el (Xc x),Gt,Gt,Gt,Gt,Gt,Gt,.el (Xc x),Gt,Gt,Gt,.pure _ (aB v33),Gt] (o:=by repeat' first|apply Ya|exact pcM|exact fq (Xb h31 h32)|exact Xu) (k:=wkT [] (X2.glue J))
instance X011:PCs Tryz.prog 55 (∀ (a0:(List X09)) (r:Bool),Xb2 a0=some r->X0b Tryz.prog 55 [(Lf (a0.map Xc))] (aB r)):=⟨λa0 r h=>by
 refine X0b.sym X3 fn55 (nt:=33) rfl rfl ?_ okM;unfold Xb2 at h;revert h;refine bI λu1 h2=>?_;have qh2:=X0v h2;refine bI λo37 h38=>rnI [] ?_;intro h;refine wkT [] (X2.cut (Xi8 a0 qh2 a0 0 (by simp) _ h38 ?_ ?_))
 ·
  intro eo37;subst eo37;refine X2.glue ?_;try dsimp only at h
  revert h;exact λe=>oj e▸X6 [] (k:=fi)
 intro eo37;subst eo37;refine X2.glue ?_;try dsimp only at h
 revert h;exact λe=>oj e▸X6 [] (k:=fi)⟩
instance X013:PCs Tryz.prog 89 (∀ (a0:Int) (r:Bool),Xb4 a0=some r->X0b Tryz.prog 89 [(aI .i64 a0)] (aB r)):=⟨λa0 r h=>by
 refine X0b.sym X3 fn89 (nt:=9) rfl rfl ?_ okM;unfold Xb4 at h;revert h;refine bI λj4_2 h8=>rnI [.stop 1] ?_;intro h;refine X2.join (s':=⟨fr [(2,(aB j4_2))],hp ([]),0⟩) ?_ (λJ=>X2.cut ?_)
 ·
  revert h;exact λe=>oj e▸X6 [] (k:=fi)
 clear h;revert h8;refine brI (λh5=>?_) λh5=>?_
 ·
  intro h;obtain rfl:=oj h;exact X6 [Gf,Gf] (k:=wkT [] (X2.glue J))
 refine bI λv6 h7=>?_;intro h;obtain rfl:=oj h;exact X6 [Gt,Gt,.pure _ (aB v6)] (k:=wkT [] (X2.glue J))⟩
instance X018:PCs Tryz.prog 90 (∀ (a0:X01) (r:Int),Xb6 a0=some r->X0b Tryz.prog 90 [(X8 a0)] (aI .i64 r)):=⟨λa0 r h=>by
 refine X0b.sym X3 fn90 (nt:=31) rfl rfl ?_ okM;unfold Xb6 at h;revert h;refine bI λXzb h36=>rnI [.stop 1] ?_;intro h;refine X2.join (s':=⟨fr [(30,(aB Xzb))],hp ([]),0⟩) ?_ (λJ=>X2.cut ?_)
 ·
  revert h;exact brI (λh37=>λe=>oj e▸X6 [Bt] (k:=fi)) λh37=>λe=>oj e▸X6 [Bf] (k:=fi)
 clear h;revert h36;refine brI (λh19=>?_) λh19=>?_
 ·
  refine bI λv20 h21=>brI (λh22=>?_) λh22=>?_
  ·
   refine brI (λh23=>?_) λh23=>?_
   ·
    intro h;obtain rfl:=oj h;exact X6 [Gt,Gt,Gt,.pure _ (aB v20),Gt,Gt,Gt,Gt,Gf,Gf,Gf,Gf,Gf,Gf,Gf,Gf,Gf,Gf,Gf,Gf,Gf] (o:=by repeat' first|apply Ya|exact pcM|exact fq (X7 h19 h22)|exact fq (X7 (X7 h19 h22) h23)|exact Xu) (k:=wkT [] (X2.glue J))
   refine brI (λh24=>?_) λh24=>?_
   ·
    refine rnI [Gt,Gt,Gt,.pure _ (aB v20),Gt,Gt,Gt,Gt,Gt,Gt,Gt,Gt,Gt,Gt,Gt,Gt,Gt,.stop 999999] (o:=by repeat' first|apply Ya|exact pcM|exact fq (X7 h19 h22)|exact fq (X7 (X7 h19 h22) h23)|exact Xu) ?_;refine brI (λh25=>?_) λh25=>?_
    ·
     refine bI λv26 h27=>?_;intro h;obtain rfl:=oj h;exact X6 [Gt,Gt,Gt,.pure _ (aB v26),Gt] (o:=by repeat' first|apply Ya|exact pcM|exact fq (X7 h24 h25)|exact fq (X7 (X7 h19 h22) h23)|exact Xu) (k:=wkT [] (X2.glue J))
    intro h;obtain rfl:=oj h;exact X6 [Gf,Gf,Gf,Gt] (o:=by repeat' first|apply Ya|exact pcM|exact fq (X7 h24 h25)|exact fq (X7 (X7 h19 h22) h23)|exact Xu) (k:=wkT [] (X2.glue J))
   intro h;obtain rfl:=oj h;exact X6 [Gt,Gt,Gt,.pure _ (aB v20),Gt,Gt,Gt,Gt,Gt,Gt,Gt,Gt,Gf,Gf,Gf,Gt,Gt,Gf,Gf,Gf,Gt] (o:=by repeat' first|apply Ya|exact pcM|exact fq (X7 h19 h22)|exact fq (X7 (X7 h19 h22) h23)|exact fq (Xb h24 rfl)|exact Xu) (k:=wkT [] (X2.glue J))
  refine brI (λh28=>?_) λh28=>?_
  ·
   refine rnI [Gt,Gt,Gt,.pure _ (aB v20),Gf,Gf,Gf,Gf,Gt,Gt,Gt,Gt,Gt,Gt,Gt,Gt,Gt,.stop 999999] (o:=by repeat' first|apply Ya|exact pcM|exact fq (X7 h19 h22)|exact fq (Xb (X7 h19 h22) rfl)|exact Xu) ?_;refine brI (λh29=>?_) λh29=>?_
   ·
    refine bI λv30 h31=>?_;intro h;obtain rfl:=oj h;exact X6 [Gt,Gt,Gt,.pure _ (aB v30),Gt] (o:=by repeat' first|apply Ya|exact pcM|exact fq (X7 h28 h29)|exact fq (Xb (X7 h19 h22) rfl)|exact Xu) (k:=wkT [] (X2.glue J))
   intro h;obtain rfl:=oj h;exact X6 [Gf,Gf,Gf,Gt] (o:=by repeat' first|apply Ya|exact pcM|exact fq (X7 h28 h29)|exact fq (Xb (X7 h19 h22) rfl)|exact Xu) (k:=wkT [] (X2.glue J))
  intro h;obtain rfl:=oj h;exact X6 [Gt,Gt,Gt,.pure _ (aB v20),Gf,Gf,Gf,Gf,Gt,Gt,Gt,Gt,Gf,Gf,Gf,Gt,Gt,Gf,Gf,Gf,Gt] (o:=by repeat' first|apply Ya|exact pcM|exact fq (X7 h19 h22)|exact fq (Xb (X7 h19 h22) rfl)|exact fq (Xb h28 rfl)|exact Xu) (k:=wkT [] (X2.glue J))
 refine brI (λh32=>?_) λh32=>?_
 ·
  refine rnI [Gf,Gf,Gf,Gf,Gf,Gf,Gf,Gt,Gt,Gt,Gt,Gt,Gt,Gt,Gt,Gt,.stop 999999] (o:=by repeat' first|apply Ya|exact pcM|exact fq (Xb h19 rfl)|exact fq (Xb (Xb h19 rfl) rfl)|exact Xu) ?_;refine brI (λh33=>?_) λh33=>?_
  ·
   refine bI λv34 h35=>?_;intro h;obtain rfl:=oj h;exact X6 [Gt,Gt,Gt,.pure _ (aB v34),Gt] (o:=by repeat' first|apply Ya|exact pcM|exact fq (X7 h32 h33)|exact fq (Xb (Xb h19 rfl) rfl)|exact Xu) (k:=wkT [] (X2.glue J))
  intro h;obtain rfl:=oj h;exact X6 [Gf,Gf,Gf,Gt] (o:=by repeat' first|apply Ya|exact pcM|exact fq (X7 h32 h33)|exact fq (Xb (Xb h19 rfl) rfl)|exact Xu) (k:=wkT [] (X2.glue J))
 intro h;obtain rfl:=oj h;exact X6 [Gf,Gf,Gf,Gf,Gf,Gf,Gf,Gt,Gt,Gt,Gt,Gf,Gf,Gf,Gt,Gt,Gf,Gf,Gf,Gt] (o:=by repeat' first|apply Ya|exact pcM|exact fq (Xb h19 rfl)|exact fq (Xb (Xb h19 rfl) rfl)|exact fq (Xb h32 rfl)|exact Xu) (k:=wkT [] (X2.glue J))⟩
theorem Xic {Q:X03->St->Mu->Prop} {μ:Mu} (Xh:Xo):∀ (n:Nat) (X9a:Int) (o:X6p) (h:X45 Xh n X9a=some o)
  (C0:o=X6p.x0->X2 Tryz.prog 63 0 Q (.exit .ret) [] ⟨fr [(2,(aB false))],hp ([]),0⟩ μ)
  (C1:o=X6p.x1->X2 Tryz.prog 63 0 Q (.exit (.exit 0)) [] ⟨fr [(1,(AV.ptr 0 0 0))],hp ([(0,Ob [(Xa false Xh)] 9)]),1⟩ μ),
  X2 Tryz.prog 63 0 Q (.loop (X2o 0 (Xd Tryz.f56))) [] ⟨fr [(1,(AV.ptr 0 0 0)),(3,(aI .i64 X9a))],hp ([(0,Ob [(Xa false Xh)] 9)]),1⟩ μ:=by
 intro n
 induction n with
 |zero=>intro X9a o h C0 C1;cases h
 |succ n ih =>
  intro X9a o h C0 C1;rw[X45] at h;refine X2.round ?_;revert h;refine brI (λh14=>?_) λh14=>λe=>X6 [.el (aI .i64 (Xh.Marks.length:Int)),Bf] (k:=wkT [] (C1  (oj e).symm));refine bI λe15 h16=>?_;try have qh16:=Xl h16
  refine bI λv17 h18=>brI (λh19=>λe=>X6 [.el (aI .i64 (Xh.Marks.length:Int)),Bt,.el (aI .i64 e15),.pure _ (aB v17),Bt] (k:=wkT [] (C0  (oj e).symm))) λh19=>rnI [.el (aI .i64 (Xh.Marks.length:Int)),Bt,.el (aI .i64 e15),.pure _ (aB v17),Bf,.wrap] ?_;intro h;exact wkT [] (ih  _ o h C0 C1)
theorem Xib {Q:X03->St->Mu->Prop} {μ:Mu} (X2c:Xo):∀ (n:Nat) (Xpe:Int) (o:X6o) (h:X44 X2c n Xpe=some o)
  (C0:o=X6o.x0->X2 Tryz.prog 63 0 Q (.exit .ret) [] ⟨fr [(2,(aB false))],hp ([]),0⟩ μ)
  (C1:o=X6o.x1->X2 Tryz.prog 63 0 Q (.exit (.exit 2)) [] ⟨fr [(1,(AV.ptr 0 0 0))],hp ([(0,Ob [(Xa false X2c)] 9)]),1⟩ μ),
  X2 Tryz.prog 63 0 Q (.loop (X2o 1 (Xd Tryz.f56))) [] ⟨fr [(1,(AV.ptr 0 0 0)),(4,(aI .i64 Xpe))],hp ([(0,Ob [(Xa false X2c)] 9)]),1⟩ μ:=by
 intro n
 induction n with
 |zero=>intro Xpe o h C0 C1;cases h
 |succ n ih =>
  intro Xpe o h C0 C1;rw[X44] at h;refine X2.round ?_;revert h;refine brI (λh35=>?_) λh35=>λe=>X6 [.el (aI .i64 (X2c.Events.length:Int)),Bf] (k:=wkT [] (C1  (oj e).symm));refine bI λe36 h37=>?_;try have qh37:=Xl h37
  refine bI λv38 h39=>brI (λh40=>λe=>X6 [.el (aI .i64 (X2c.Events.length:Int)),Bt,.el (X8 e36),.pure _ (aI .i64 v38),Bt] (k:=wkT [] (C0  (oj e).symm))) λh40=>rnI [.el (aI .i64 (X2c.Events.length:Int)),Bt,.el (X8 e36),.pure _ (aI .i64 v38),Bf,.wrap] ?_;intro h;exact wkT [] (ih  _ o h C0 C1)
theorem Xia {Q:X03->St->Mu->Prop} {μ:Mu} (X4k:Xo):∀ (n:Nat) (Xr1:Int) (o:X6n) (h:X43 X4k n Xr1=some o)
  (C0:o=X6n.x0->X2 Tryz.prog 63 0 Q (.exit .ret) [] ⟨fr [(2,(aB false))],hp ([]),0⟩ μ)
  (C1:o=X6n.x1->X2 Tryz.prog 63 0 Q (.exit (.exit 4)) [] ⟨fr [(1,(AV.ptr 0 0 0))],hp ([(0,Ob [(Xa false X4k)] 9)]),1⟩ μ),
  X2 Tryz.prog 63 0 Q (.loop (X2o 2 (Xd Tryz.f56))) [] ⟨fr [(1,(AV.ptr 0 0 0)),(5,(aI .i64 Xr1))],hp ([(0,Ob [(Xa false X4k)] 9)]),1⟩ μ:=by
 intro n
 induction n with
 |zero=>intro Xr1 o h C0 C1;cases h
 |succ n ih =>
  intro Xr1 o h C0 C1;rw[X43] at h;refine X2.round ?_;revert h;refine brI (λh56=>?_) λh56=>λe=>X6 [.el (aI .i64 (X4k.Rows.length:Int)),Bf] (k:=wkT [] (C1  (oj e).symm));refine bI λe57 h58=>?_;try have qh58:=Xl h58
  refine bI λv59 h60=>brI (λh61=>λe=>X6 [.el (aI .i64 (X4k.Rows.length:Int)),Bt,.el (Xf e57),.pure _ (aB v59),Bt] (k:=wkT [] (C0  (oj e).symm))) λh61=>rnI [.el (aI .i64 (X4k.Rows.length:Int)),Bt,.el (Xf e57),.pure _ (aB v59),Bf,.wrap] ?_;intro h;exact wkT [] (ih  _ o h C0 C1)
theorem Xi9 {Q:X03->St->Mu->Prop} {μ:Mu} (X8j:Xo):∀ (n:Nat) (y3_6:Int) (o:X6m) (h:X42 X8j n y3_6=some o)
  (C0:o=X6m.x0->X2 Tryz.prog 63 0 Q (.exit .ret) [] ⟨fr [(2,(aB false))],hp ([]),0⟩ μ)
  (C1:o=X6m.x1->X2 Tryz.prog 63 0 Q (.exit (.exit 6)) [] ⟨fr [],hp ([]),0⟩ μ),
  X2 Tryz.prog 63 0 Q (.loop (X2o 3 (Xd Tryz.f56))) [] ⟨fr [(1,(AV.ptr 0 0 0)),(6,(aI .i64 y3_6))],hp ([(0,Ob [(Xa false X8j)] 9)]),1⟩ μ:=by
 intro n
 induction n with
 |zero=>intro y3_6 o h C0 C1;cases h
 |succ n ih =>
  intro y3_6 o h C0 C1;rw[X42] at h;refine X2.round ?_;revert h;refine brI (λh77=>?_) λh77=>λe=>X6 [.el (aI .i64 (X8j.Late.length:Int)),Bf] (k:=wkT [] (C1  (oj e).symm));refine bI λe78 h79=>?_;try have qh79:=Xl h79
  refine bI λv80 h81=>brI (λh82=>λe=>X6 [.el (aI .i64 (X8j.Late.length:Int)),Bt,.el (X5 e78),.pure _ (aB v80),Bt] (k:=wkT [] (C0  (oj e).symm))) λh82=>rnI [.el (aI .i64 (X8j.Late.length:Int)),Bt,.el (X5 e78),.pure _ (aB v80),Bf,.wrap] ?_;intro h;exact wkT [] (ih  _ o h C0 C1)
instance X012:PCs Tryz.prog 56 (∀ (a0:Xo) (r:Bool),Xb3 a0=some r->X0b Tryz.prog 56 [(Xa false a0)] (aB r)):=⟨λa0 r h=>by
 refine X0b.sym X3 fn56 (nt:=63) rfl rfl ?_ okM;unfold Xb3 at h;revert h;refine bI λo20 h21=>rnI [] ?_;intro h;refine wkT [] (X2.cut (Xic a0 _ _ _ h21 ?_ ?_))
 ·
  intro eo20;subst eo20;refine X2.glue ?_;try dsimp only at h
  revert h;exact λe=>oj e▸X6 [] (k:=fi)
 intro eo20;subst eo20;refine X2.glue ?_;try dsimp only at h
 revert h;refine bI λo41 h42=>rnI [] ?_;intro h;refine wkT [] (X2.cut (Xib a0 _ _ _ h42 ?_ ?_))
 ·
  intro eo41;subst eo41;refine X2.glue ?_;try dsimp only at h
  revert h;exact λe=>oj e▸X6 [] (k:=fi)
 intro eo41;subst eo41;refine X2.glue ?_;try dsimp only at h
 revert h;refine bI λo62 h63=>rnI [] ?_;intro h;refine wkT [] (X2.cut (Xia a0 _ _ _ h63 ?_ ?_))
 ·
  intro eo62;subst eo62;refine X2.glue ?_;try dsimp only at h
  revert h;exact λe=>oj e▸X6 [] (k:=fi)
 intro eo62;subst eo62;refine X2.glue ?_;try dsimp only at h
 revert h;refine bI λo83 h84=>rnI [] ?_;intro h;refine wkT [] (X2.cut (Xi9 a0 _ _ _ h84 ?_ ?_))
 ·
  intro eo83;subst eo83;refine X2.glue ?_;try dsimp only at h
  revert h;exact λe=>oj e▸X6 [] (k:=fi)
 intro eo83;subst eo83;refine X2.glue ?_;try dsimp only at h
 revert h;exact λe=>oj e▸X6 [] (k:=fi)⟩
instance X01b:PCs Tryz.prog 92 (∀ (a0:Xm) (r:Int),X5q a0=some r->X0b Tryz.prog 92 [(Xv a0)] (aI .i64 r)):=⟨λa0 r h=>by
 refine X0b.sym X3 fn92 (nt:=53) rfl rfl ?_ okM;unfold X5q at h;revert h;refine bI λj2_3 h4=>rnI [] ?_;intro h;refine X2.join (s':=⟨fr [(1,(AV.ptr 0 0 0)),(3,(aB j2_3))],hp ([(0,Ob [(Xv a0)] 4)]),1⟩) ?_ (λJ=>X2.cut ?_)
 ·
  revert h;exact brI (λh5=>λe=>oj e▸X6 [Bt] (k:=fi)) λh5=>brI (λh6=>λe=>oj e▸X6 [Bf,Bt] (k:=fi)) λh6=>brI (λh7=>λe=>oj e▸X6 [Bf,Bf,Bt] (k:=fi)) λh7=>brI (λh8=>λe=>oj e▸X6 [Bf,Bf,Bf,Bt] (k:=fi)) λh8=>λe=>oj e▸X6 [Bf,Bf,Bf,Bf] (k:=fi)
 clear h;revert h4;refine brI (λh3=>?_) λh3=>?_
 ·
  intro h;obtain rfl:=oj h;exact X6 [Bt] (k:=wkT [] (X2.glue J))
 intro h;obtain rfl:=oj h;exact X6 [Bf] (k:=wkT [] (X2.glue J))⟩
instance X02w:PCs Tryz.prog 93 (∀ (a0:X1) (a1:X1) (r:Bool),X8z a0 a1=some r->X0b Tryz.prog 93 [(X0 a0),(X0 a1)] (aB r)):=⟨λa0 a1 r h=>by
 refine X0b.sym X3 fn93 (nt:=38) rfl rfl ?_ okM;unfold X8z at h;revert h;exact brI (λh1=>λe=>oj e▸X6 [Bt] (k:=fi)) λh1=>brI (λh2=>λe=>oj e▸X6 [Bf,Bt] (k:=fi)) λh2=>λe=>oj e▸X6 [Bf,Bf] (k:=fi)⟩
theorem Xif {Q:X03->St->Mu->Prop} {μ:Mu} (X0c:(List X1)) (hl:X0c.length<=140737488355328):∀ (xs:List X1) (k:Nat) (hx:X0c.drop k=xs) (o:X6r) (h:X48 X0c xs k  = some o)
  (C0:o=X6r.x0->X2 Tryz.prog 85 0 Q (.exit (.exit 0)) [] ⟨fr [],hp ([]),0⟩ μ)
  (C1:o=X6r.x1->X2 Tryz.prog 85 0 Q (.exit .ret) [] ⟨fr [(2,(aI .i64 8))],hp ([]),0⟩ μ),
  X2 Tryz.prog 85 0 Q (.loop (X2o 0 (Xd Tryz.f57))) [] ⟨fr [(0,(Lf (X0c.map X0))),(3,(aI .i64 (k:Int)))],hp ([]),0⟩ μ:=by
 intro xs
 induction xs with
 |nil =>
  intro k hx  o h C0 C1;have hk:=X1g hx;have hc:decide ((k:Int)<(X0c.length:Int))=false:=Yf om;rw[X48] at h;refine X2.round ?_;revert h;exact λe=>X6 [.el (aI .i64 (X0c.length:Int)),Bf] (k:=wkT [] (C0  (oj e).symm))
 |cons x xs ih =>
  intro k hx  o h C0 C1;obtain⟨hk,hg,hx1⟩:=X0u hx;have hc:decide ((k:Int)<(X0c.length:Int))=true:=Yt om;rw[X48] at h;refine X2.round ?_;revert h;refine bI λXry h102=>rnI [.el (aI .i64 (X0c.length:Int)),Bt,.el (X0 x),.stop 8] ?_;intro h;refine X2.join (s':=⟨fr [(0,(Lf (X0c.map X0))),(3,(aI .i64 (k:Int))),(4,(AV.ptr 0 0 0)),(5,(aB (bif (bif (decide (x.Span.Start >= ((-1100585369600):Int))) then (decide (x.Span.Start<x.Span.End)) else false) then (decide (x.Span.End<=(1100585369600:Int))) else false))),(6,(aB Xry))],hp ([(0,Ob [(X0 x)] 11)]),1⟩) ?_ (λJ=>X2.cut ?_)
  ·
   revert h;refine bI λXsk h132=>rnI [.stop 9] ?_;intro h;refine X2.join (s':=⟨fr [(0,(Lf (X0c.map X0))),(3,(aI .i64 (k:Int))),(84,(aB Xsk))],hp ([]),0⟩) ?_ (λJ=>X2.cut ?_)
   ·
    revert h;refine brI (λh133=>λe=>X6 [Bt] (k:=wkT [] (C1  (oj e).symm))) λh133=>rnI [Bf] ?_;intro h;exact wkT [] (ih (k+1) hx1  o h C0 C1)
   clear h;revert h132;refine brI (λh118=>?_) λh118=>?_
   ·
    intro h;obtain rfl:=oj h;exact X6 [Gf,Gf,Gt,Gf,Gf,Gf,Gf,Gf,Gf,.no,.no,.no,.no,.no,Gf,Gt,Gf,Gf,Gf,.no,.no,.no,.no,.no,.no,.no,.no,Gf,Gt] (k:=wkT [] (X2.glue J))
   refine brI (λh119=>?_) λh119=>?_
   ·
    intro h;obtain rfl:=oj h;exact X6 [Gt,Gt,Gf,Gf,Gf,Gf,Gf,Gf,.no,.no,.no,.no,.no,Gf,Gt,Gf,Gf,Gf,.no,.no,.no,.no,.no,.no,.no,.no,Gf,Gt] (o:=by repeat' first|apply Ya|exact pcM|exact fq (Xb h118 h119)|exact Xu) (k:=wkT [] (X2.glue J))
   refine brI (λh120=>?_) λh120=>?_
   ·
    refine brI (λh121=>?_) λh121=>?_
    ·
     intro h;obtain rfl:=oj h;exact X6 [Gt,Gt,Gt,Gt,.ix 0,Gt,Gt,Gt,Gt,Gt,Gt,.ix 1,Gt,Gt,Gt,Gt,Gf,Gf,Gf,.no,.no,.no,.no,.no,.no,.no,.no,Gf,Gt] (o:=by repeat' first|apply Ya|exact pcM|exact fq (Xb h118 h119)|exact fq (Xb (Xb h118 h119) (X7 h120 h121))|exact Xu) (k:=wkT [] (X2.glue J))
    refine brI (λh122=>?_) λh122=>?_
    ·
     refine bI λe123 h124=>?_;try have qh124:=Xl h124
     refine bI λv125 h126=>?_;intro h;obtain rfl:=oj h;exact X6 [Gt,Gt,Gt,Gt,.ix 0,Gt,Gt,Gt,Gt,Gt,Gt,.ix 1,Gt,Gt,Gt,Gt,Gt,Gt,Gt,Gt,Gt,Gt,.wrap,Gt,X2d.el (X0 e123),Gt,Gt,Gt,X2d.pure _ (aB v125),Gt,Gt] (o:=by repeat' first|apply Ya|exact pcM|exact fq (Xb h118 h119)|exact fq (Xb (Xb h118 h119) (X7 h120 h121))|exact Xu) (k:=wkT [] (X2.glue J))
    intro h;obtain rfl:=oj h;exact X6 [Gt,Gt,Gt,Gt,.ix 0,Gt,Gt,Gt,Gt,Gt,Gt,.ix 1,Gt,Gt,Gt,Gt,Gt,Gt,Gt,Gf,Gf,Gf,Gf,Gf,Gf,Gf,Gf,Gt,Gf] (o:=by repeat' first|apply Ya|exact pcM|exact fq (Xb h118 h119)|exact fq (Xb (Xb h118 h119) (X7 h120 h121))|exact Xu) (k:=wkT [] (X2.glue J))
   refine brI (λh127=>?_) λh127=>?_
   ·
    refine bI λe128 h129=>?_;try have qh129:=Xl h129
    refine bI λv130 h131=>?_;intro h;obtain rfl:=oj h;exact X6 [Gt,Gt,Gt,Gt,.ix 0,Gt,Gt,Gt,Gt,Gf,Gf,Gf,Gf,Gf,Gt,Gf,Gt,Gt,Gt,Gt,Gt,Gt,.wrap,Gt,X2d.el (X0 e128),Gt,Gt,Gt,X2d.pure _ (aB v130),Gt,Gt] (o:=by repeat' first|apply Ya|exact pcM|exact fq (Xb h118 h119)|exact fq (Xb (Xb h118 h119) rfl)|exact Xu) (k:=wkT [] (X2.glue J))
   intro h;obtain rfl:=oj h;exact X6 [Gt,Gt,Gt,Gt,.ix 0,Gt,Gt,Gt,Gt,Gf,Gf,Gf,Gf,Gf,Gt,Gf,Gt,Gt,Gt,Gf,Gf,Gf,Gf,Gf,Gf,Gf,Gf,Gt,Gf] (o:=by repeat' first|apply Ya|exact pcM|exact fq (Xb h118 h119)|exact fq (Xb (Xb h118 h119) rfl)|exact Xu) (k:=wkT [] (X2.glue J))
  clear h;revert h102;refine bI λv97 h98=>brI (λh99=>?_) λh99=>?_
  ·
   refine bI λv100 h101=>?_;intro h;obtain rfl:=oj h;exact X6 [.ix 0,.pure _ (aI .i64 v97),Gt,Gt,.ix 1,Gt,Gt,.pure _ (aI .i64 v100),Gt] (k:=wkT [] (X2.glue J))
  intro h;obtain rfl:=oj h;exact X6 [.ix 0,.pure _ (aI .i64 v97),Gf,Gf,Gf,Gf,Gf] (k:=wkT [] (X2.glue J))
instance X01a:PCs Tryz.prog 57 (∀ (a0:(List X1)) (r:Int),X70 a0=some r->X0b Tryz.prog 57 [(Lf (a0.map X0))] (aI .i64 r)):=⟨λa0 r h=>by
 refine X0b.sym X3 fn57 (nt:=85) rfl rfl ?_ okM;unfold X70 at h;revert h;refine brI (λh1=>λe=>oj e▸X6 [.el (aI .i64 (a0.length:Int)),Bt] (k:=fi)) λh1=>bI λu2 h3=>?_;have qh3:=X0v h3;refine bI λo134 h135=>rnI [.el (aI .i64 (a0.length:Int)),Bf] ?_;intro h;refine wkT [] (X2.cut (Xif a0 qh3 a0 0 (by simp) _ h135 ?_ ?_))
 ·
  intro eo134;subst eo134;refine X2.glue ?_;try dsimp only at h
  revert h;exact λe=>oj e▸X6 [] (k:=fi)
 intro eo134;subst eo134;refine X2.glue ?_;try dsimp only at h
 revert h;exact λe=>oj e▸X6 [] (k:=fi)⟩
theorem Xid {Q:X03->St->Mu->Prop} {μ:Mu} (Xh:Xo):∀ (n:Nat) (X9a:Int) (o:X6q) (h:X46 Xh n X9a=some o)
  (C0:o=X6q.x0->X2 Tryz.prog 72 0 Q (.exit .ret) [] ⟨fr [(2,(aI .i64 8))],hp ([]),0⟩ μ)
  (C1:o=X6q.x1->X2 Tryz.prog 72 0 Q (.exit (.exit 0)) [] ⟨fr [],hp ([]),0⟩ μ),
  X2 Tryz.prog 72 0 Q (.loop (X2o 0 (Xd Tryz.f26))) [] ⟨fr [(1,(AV.ptr 0 0 0)),(3,(aI .i64 X9a))],hp ([(0,Ob [(Xa false Xh)] 9)]),1⟩ μ:=by
 intro n
 induction n with
 |zero=>intro X9a o h C0 C1;cases h
 |succ n ih =>
  intro X9a o h C0 C1;rw[X46] at h;refine X2.round ?_;revert h;refine brI (λh54=>?_) λh54=>λe=>X6 [.el (aI .i64 (Xh.Store.length:Int)),Bf] (k:=wkT [] (C1  (oj e).symm));refine bI λXz0 h62=>rnI [.el (aI .i64 (Xh.Store.length:Int)),Bt,.stop 8] ?_;intro h;refine X2.join (s':=⟨fr [(1,(AV.ptr 0 0 0)),(3,(aI .i64 X9a)),(71,(aB Xz0))],hp ([(0,Ob [(Xa false Xh)] 9)]),1⟩) ?_ (λJ=>X2.cut ?_)
  ·
   revert h;refine brI (λh63=>λe=>X6 [Bt] (k:=wkT [] (C0  (oj e).symm))) λh63=>rnI [Bf,.wrap] ?_;intro h;exact wkT [] (ih  _ o h C0 C1)
  clear h;revert h62;refine brI (λh59=>?_) λh59=>?_
  ·
   refine bI λe60 h61=>?_;try have qh61:=Xl h61
   intro h;obtain rfl:=oj h;exact X6 [Gt,Gt,Gt,Gt,.el (X0 e60),Gt,Gt,.ix 1,Gt,Gt,Gt] (k:=wkT [] (X2.glue J))
  intro h;obtain rfl:=oj h;exact X6 [Gf,Gf,Gf,Gf,Gf,Gf,Gf,Gf,Gf] (k:=wkT [] (X2.glue J))
end Go.Av.Tryz