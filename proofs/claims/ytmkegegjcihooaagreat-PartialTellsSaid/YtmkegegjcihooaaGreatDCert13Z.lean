/- Printed by decomp.py: that the program computes the functions. -/
import Derived.Test.YtmkegegjcihooaaGreatDCert12Z
set_option linter.all false

namespace Go.Av.Tryz
open Go.Proofs Go.D
set_option maxRecDepth 100000
set_option maxHeartbeats 40000000
instance X01c:PCs Tryz.prog 108 (∀ (a0:Xo) (r:Bool),X9q a0=some r->X05 Tryz.prog 108 [(Xw a0)] (aB r)):=⟨λa0 r h=>by
 refine X05.sym X9 X0dl (nt:=48) rfl rfl ?_ okM;unfold X9q at h;revert h;refine bI λj2_5 h4=>rnI [] ?_;intro h;refine X0.join (s':=⟨fr [(1,(AV.ptr 0 0 0)),(4,(aI .u8 a0.Kind)),(5,(aB j2_5))],hp ([(0,Ob [(Xw a0)] 10)]),1⟩) ?_ (λJ=>X0.cut ?_)
 ·
  revert h;refine brI (λh5=>?_) λh5=>?_
  ·
   refine bI λj9_2 h13=>rnI [Bt,.stop 4] ?_;intro h;refine X0.join (s':=⟨fr [(2,(aB j9_2))],hp ([]),0⟩) ?_ (λJ=>X0.cut ?_)
   ·
    revert h;exact λe=>oj e▸X3 [] (k:=fi)
   clear h;revert h13;refine bI λv10 h11=>brI (λh12=>?_) λh12=>?_
   ·
    intro h;obtain rfl:=oj h;exact X3 [.pure _ (aB v10),Gt,Gt,Gt,Gt,Gt,Gt,Gt] (k:=wkT [] (X0.glue J))
   intro h;obtain rfl:=oj h;exact X3 [.pure _ (aB v10),Gf,Gf,Gf,Gf,Gf,Gf,Gf] (k:=wkT [] (X0.glue J))
  refine brI (λh14=>?_) λh14=>?_
  ·
   refine bI λX07y h22=>rnI [Bf,Bt,.stop 6] ?_;intro h;refine X0.join (s':=⟨fr [(2,(aB X07y))],hp ([]),0⟩) ?_ (λJ=>X0.cut ?_)
   ·
    revert h;exact λe=>oj e▸X3 [] (k:=fi)
   clear h;revert h22;refine bI λv19 h20=>brI (λh21=>?_) λh21=>?_
   ·
    intro h;obtain rfl:=oj h;exact X3 [.pure _ (aB v19),Gt,Gt,Gt,Gt,Gt,Gt,Gt] (k:=wkT [] (X0.glue J))
   intro h;obtain rfl:=oj h;exact X3 [.pure _ (aB v19),Gf,Gf,Gf,Gf,Gf,Gf,Gf] (k:=wkT [] (X0.glue J))
  refine brI (λh23=>?_) λh23=>λe=>oj e▸X3 [Bf,Bf,Bf] (k:=fi);refine bI λX07v h31=>rnI [Bf,Bf,Bt,.stop 8] ?_;intro h;refine X0.join (s':=⟨fr [(2,(aB X07v))],hp ([]),0⟩) ?_ (λJ=>X0.cut ?_)
  ·
   revert h;exact λe=>oj e▸X3 [] (k:=fi)
  clear h;revert h31;refine bI λv28 h29=>brI (λh30=>?_) λh30=>?_
  ·
   intro h;obtain rfl:=oj h;exact X3 [.pure _ (aB v28),Gt,Gt,Gt,Gt,Gt,Gt,Gt] (k:=wkT [] (X0.glue J))
  intro h;obtain rfl:=oj h;exact X3 [.pure _ (aB v28),Gf,Gf,Gf,Gf,Gf,Gf,Gf] (k:=wkT [] (X0.glue J))
 clear h;revert h4;refine brI (λh3=>?_) λh3=>?_
 ·
  intro h;obtain rfl:=oj h;exact X3 [Bt] (k:=wkT [] (X0.glue J))
 intro h;obtain rfl:=oj h;exact X3 [Bf] (k:=wkT [] (X0.glue J))⟩
theorem Xj0 {Q:Xp->St->Mu->Prop} {μ:Mu} (Xe:X0e):∀ (n:Nat) (X6v:Int) (o:X7c) (h:X5q Xe n X6v=some o)
  (C0:o=X7c.x0->X0 Tryz.prog 34 0 Q (.exit .ret) [] ⟨fr [(2,(aI .i64 8))],hp ([]),0⟩ μ)
  (C1:o=X7c.x1->X0 Tryz.prog 34 0 Q (.exit (.exit 0)) [] ⟨fr [],hp ([]),0⟩ μ),
  X0 Tryz.prog 34 0 Q (.loop (X0w 0 (Xd Tryz.f63))) [] ⟨fr [(1,(AV.ptr 0 0 0)),(3,(aI .i64 X6v))],hp ([(0,Ob [(Xq false Xe)] 2)]),1⟩ μ:=by
 intro n
 induction n with
 |zero=>intro X6v o h C0 C1;cases h
 |succ n ih =>
  intro X6v o h C0 C1;rw[X5q] at h;refine X0.round ?_;revert h;refine brI (λh21=>?_) λh21=>λe=>X3 [.el (aI .i64 (Xe.List.length:Int)),Bf] (k:=wkT [] (C1  (oj e).symm));refine bI λe22 h23=>?_;try have qh23:=Xi h23
  refine bI λv24 h25=>brI (λh26=>λe=>X3 [.el (aI .i64 (Xe.List.length:Int)),Bt,.el (Xw e22),.pure _ (aB v24),Bt] (k:=wkT [] (C0  (oj e).symm))) λh26=>rnI [.el (aI .i64 (Xe.List.length:Int)),Bt,.el (Xw e22),.pure _ (aB v24),Bf,.wrap] ?_;intro h;exact wkT [] (ih  _ o h C0 C1)
instance X01b:PCs Tryz.prog 63 (∀ (a0:X0e) (r:Int),X9p a0=some r->X05 Tryz.prog 63 [(Xq false a0)] (aI .i64 r)):=⟨λa0 r h=>by
 refine X05.sym X9 fn63 (nt:=34) rfl rfl ?_ okM;unfold X9p at h;revert h;refine bI λX07m h6=>rnI [.stop 1] ?_;intro h;refine X0.join (s':=⟨fr [(1,(AV.ptr 0 0 0)),(19,(aB X07m))],hp ([(0,Ob [(Xq false a0)] 2)]),1⟩) ?_ (λJ=>X0.cut ?_)
 ·
  revert h;refine brI (λh7=>λe=>oj e▸X3 [Bt] (k:=fi)) λh7=>bI λo27 h28=>rnI [Bf] ?_;intro h;refine wkT [] (X0.cut (Xj0 a0 _ _ _ h28 ?_ ?_))
  ·
   intro eo27;subst eo27;refine X0.glue ?_;try dsimp only at h
   revert h;exact λe=>oj e▸X3 [] (k:=fi)
  intro eo27;subst eo27;refine X0.glue ?_;try dsimp only at h
  revert h;exact λe=>oj e▸X3 [] (k:=fi)
 clear h;revert h6;refine brI (λh4=>?_) λh4=>?_
 ·
  intro h;obtain rfl:=oj h;exact X3 [Gf,Gf,Gf,Gf,Gf,Gf,Gf,Gf,Gf] (o:=by repeat' first|apply Ya|exact pcM|exact fq (X6 h4 rfl)|exact X04) (k:=wkT [] (X0.glue J))
 refine brI (λh5=>?_) λh5=>?_
 ·
  intro h;obtain rfl:=oj h;exact X3 [Gt,Gt,Gt,Gf,Gf,Gf,Gf,Gf,Gf] (o:=by repeat' first|apply Ya|exact pcM|exact fq (X5 h4 h5)|exact X04) (k:=wkT [] (X0.glue J))
 intro h;obtain rfl:=oj h;exact X3 [Gt,Gt,Gt,Gt,Gt,Gt,.el (aI .i64 (a0.List.length:Int)),Gt,Gt,Gt] (o:=by repeat' first|apply Ya|exact pcM|exact fq (X5 h4 h5)|exact X04) (k:=wkT [] (X0.glue J))⟩
instance X02w:PCs Tryz.prog 172 (∀ (a0:Xv) (r:Bool),Xdk a0=some r->X05 Tryz.prog 172 [(Xa false a0)] (aB r)):=⟨λa0 r h=>by
 refine X05.sym X9 X0ct (nt:=69) rfl rfl ?_ okM;unfold Xdk at h;revert h;refine brI (λh1=>?_) λh1=>?_
 ·
  refine bI λj6_2 h11=>rnI [Bt,.stop 19] ?_;intro h;refine X0.join (s':=⟨fr [(2,(aB j6_2))],hp ([]),0⟩) ?_ (λJ=>X0.cut ?_)
  ·
   revert h;exact λe=>oj e▸X3 [] (k:=fi)
  clear h;revert h11;refine brI (λh7=>?_) λh7=>?_
  ·
   refine brI (λh8=>?_) λh8=>?_
   ·
    refine rnI [.el (aI .i64 (a0.Marks.length:Int)),Gt,Gt,Gt,.el (aI .i64 (a0.Store.length:Int)),Gt,Gt,Gt,Gt,Gt,.el (aI .i64 (a0.Events.length:Int)),Gt,Gt,.stop 999999] (o:=by repeat' first|apply Ya|exact pcM|exact fq (X6 h7 h8)|exact X04) ?_;refine brI (λh9=>?_) λh9=>?_
    ·
     refine brI (λh10=>?_) λh10=>?_
     ·
      intro h;obtain rfl:=oj h;exact X3 [Gt,Gt,Gt,.el (aI .i64 (a0.Rows.length:Int)),Gt,Gt,Gt,Gt,Gt,.el (aI .i64 (a0.Late.length:Int)),Gt,Gt] (o:=by repeat' first|apply Ya|exact pcM|exact fq (X6 (X6 h7 h8) h9)|exact fq (X6 (X6 (X6 h7 h8) h9) h10)|exact X04) (k:=wkT [] (X0.glue J))
     intro h;obtain rfl:=oj h;exact X3 [Gt,Gt,Gt,.el (aI .i64 (a0.Rows.length:Int)),Gt,Gt,Gf,Gf,Gf,Gf,Gf] (o:=by repeat' first|apply Ya|exact pcM|exact fq (X6 (X6 h7 h8) h9)|exact fq (X6 (X6 (X6 h7 h8) h9) h10)|exact X04) (k:=wkT [] (X0.glue J))
    intro h;obtain rfl:=oj h;exact X3 [Gf,Gf,Gf,Gf,Gf,Gf,Gf,Gf,Gf,Gf] (o:=by repeat' first|apply Ya|exact pcM|exact fq (X6 (X6 h7 h8) h9)|exact fq (X5 (X6 (X6 h7 h8) h9) rfl)|exact X04) (k:=wkT [] (X0.glue J))
   intro h;obtain rfl:=oj h;exact X3 [.el (aI .i64 (a0.Marks.length:Int)),Gt,Gt,Gt,.el (aI .i64 (a0.Store.length:Int)),Gt,Gt,Gf,Gf,Gf,Gf,Gf,Gf,Gf,Gf,Gf,Gf,Gf,Gf,Gf,Gf,Gf] (o:=by repeat' first|apply Ya|exact pcM|exact fq (X6 h7 h8)|exact fq (X5 (X6 h7 h8) rfl)|exact fq (X5 (X5 (X6 h7 h8) rfl) rfl)|exact X04) (k:=wkT [] (X0.glue J))
  intro h;obtain rfl:=oj h;exact X3 [.el (aI .i64 (a0.Marks.length:Int)),Gf,Gf,Gf,Gf,Gf,Gf,Gf,Gf,Gf,Gf,Gf,Gf,Gf,Gf,Gf,Gf,Gf,Gf,Gf,Gf] (o:=by repeat' first|apply Ya|exact pcM|exact fq (X5 h7 rfl)|exact fq (X5 (X5 h7 rfl) rfl)|exact fq (X5 (X5 (X5 h7 rfl) rfl) rfl)|exact X04) (k:=wkT [] (X0.glue J))
 refine brI (λh12=>?_) λh12=>?_
 ·
  refine bI λX07z h22=>rnI [Bf,Bt,.stop 19] ?_;intro h;refine X0.join (s':=⟨fr [(2,(aB X07z))],hp ([]),0⟩) ?_ (λJ=>X0.cut ?_)
  ·
   revert h;exact λe=>oj e▸X3 [] (k:=fi)
  clear h;revert h22;refine brI (λh18=>?_) λh18=>?_
  ·
   refine brI (λh19=>?_) λh19=>?_
   ·
    refine rnI [.el (aI .i64 (a0.Marks.length:Int)),Gt,Gt,Gt,.el (aI .i64 (a0.Store.length:Int)),Gt,Gt,Gt,Gt,Gt,.el (aI .i64 (a0.Events.length:Int)),Gt,Gt,.stop 999999] (o:=by repeat' first|apply Ya|exact pcM|exact fq (X6 h18 h19)|exact X04) ?_;refine brI (λh20=>?_) λh20=>?_
    ·
     refine brI (λh21=>?_) λh21=>?_
     ·
      intro h;obtain rfl:=oj h;exact X3 [Gt,Gt,Gt,.el (aI .i64 (a0.Rows.length:Int)),Gt,Gt,Gt,Gt,Gt,.el (aI .i64 (a0.Late.length:Int)),Gt,Gt] (o:=by repeat' first|apply Ya|exact pcM|exact fq (X6 (X6 h18 h19) h20)|exact fq (X6 (X6 (X6 h18 h19) h20) h21)|exact X04) (k:=wkT [] (X0.glue J))
     intro h;obtain rfl:=oj h;exact X3 [Gt,Gt,Gt,.el (aI .i64 (a0.Rows.length:Int)),Gt,Gt,Gf,Gf,Gf,Gf,Gf] (o:=by repeat' first|apply Ya|exact pcM|exact fq (X6 (X6 h18 h19) h20)|exact fq (X6 (X6 (X6 h18 h19) h20) h21)|exact X04) (k:=wkT [] (X0.glue J))
    intro h;obtain rfl:=oj h;exact X3 [Gf,Gf,Gf,Gf,Gf,Gf,Gf,Gf,Gf,Gf] (o:=by repeat' first|apply Ya|exact pcM|exact fq (X6 (X6 h18 h19) h20)|exact fq (X5 (X6 (X6 h18 h19) h20) rfl)|exact X04) (k:=wkT [] (X0.glue J))
   intro h;obtain rfl:=oj h;exact X3 [.el (aI .i64 (a0.Marks.length:Int)),Gt,Gt,Gt,.el (aI .i64 (a0.Store.length:Int)),Gt,Gt,Gf,Gf,Gf,Gf,Gf,Gf,Gf,Gf,Gf,Gf,Gf,Gf,Gf,Gf,Gf] (o:=by repeat' first|apply Ya|exact pcM|exact fq (X6 h18 h19)|exact fq (X5 (X6 h18 h19) rfl)|exact fq (X5 (X5 (X6 h18 h19) rfl) rfl)|exact X04) (k:=wkT [] (X0.glue J))
  intro h;obtain rfl:=oj h;exact X3 [.el (aI .i64 (a0.Marks.length:Int)),Gf,Gf,Gf,Gf,Gf,Gf,Gf,Gf,Gf,Gf,Gf,Gf,Gf,Gf,Gf,Gf,Gf,Gf,Gf,Gf] (o:=by repeat' first|apply Ya|exact pcM|exact fq (X5 h18 rfl)|exact fq (X5 (X5 h18 rfl) rfl)|exact fq (X5 (X5 (X5 h18 rfl) rfl) rfl)|exact X04) (k:=wkT [] (X0.glue J))
 refine brI (λh23=>?_) λh23=>?_
 ·
  refine bI λX07u h33=>rnI [Bf,Bf,Bt,.stop 19] ?_;intro h;refine X0.join (s':=⟨fr [(2,(aB X07u))],hp ([]),0⟩) ?_ (λJ=>X0.cut ?_)
  ·
   revert h;exact λe=>oj e▸X3 [] (k:=fi)
  clear h;revert h33;refine brI (λh29=>?_) λh29=>?_
  ·
   refine brI (λh30=>?_) λh30=>?_
   ·
    refine rnI [.el (aI .i64 (a0.Marks.length:Int)),Gt,Gt,Gt,.el (aI .i64 (a0.Store.length:Int)),Gt,Gt,Gt,Gt,Gt,.el (aI .i64 (a0.Events.length:Int)),Gt,Gt,.stop 999999] (o:=by repeat' first|apply Ya|exact pcM|exact fq (X6 h29 h30)|exact X04) ?_;refine brI (λh31=>?_) λh31=>?_
    ·
     refine brI (λh32=>?_) λh32=>?_
     ·
      intro h;obtain rfl:=oj h;exact X3 [Gt,Gt,Gt,.el (aI .i64 (a0.Rows.length:Int)),Gt,Gt,Gt,Gt,Gt,.el (aI .i64 (a0.Late.length:Int)),Gt,Gt] (o:=by repeat' first|apply Ya|exact pcM|exact fq (X6 (X6 h29 h30) h31)|exact fq (X6 (X6 (X6 h29 h30) h31) h32)|exact X04) (k:=wkT [] (X0.glue J))
     intro h;obtain rfl:=oj h;exact X3 [Gt,Gt,Gt,.el (aI .i64 (a0.Rows.length:Int)),Gt,Gt,Gf,Gf,Gf,Gf,Gf] (o:=by repeat' first|apply Ya|exact pcM|exact fq (X6 (X6 h29 h30) h31)|exact fq (X6 (X6 (X6 h29 h30) h31) h32)|exact X04) (k:=wkT [] (X0.glue J))
    intro h;obtain rfl:=oj h;exact X3 [Gf,Gf,Gf,Gf,Gf,Gf,Gf,Gf,Gf,Gf] (o:=by repeat' first|apply Ya|exact pcM|exact fq (X6 (X6 h29 h30) h31)|exact fq (X5 (X6 (X6 h29 h30) h31) rfl)|exact X04) (k:=wkT [] (X0.glue J))
   intro h;obtain rfl:=oj h;exact X3 [.el (aI .i64 (a0.Marks.length:Int)),Gt,Gt,Gt,.el (aI .i64 (a0.Store.length:Int)),Gt,Gt,Gf,Gf,Gf,Gf,Gf,Gf,Gf,Gf,Gf,Gf,Gf,Gf,Gf,Gf,Gf] (o:=by repeat' first|apply Ya|exact pcM|exact fq (X6 h29 h30)|exact fq (X5 (X6 h29 h30) rfl)|exact fq (X5 (X5 (X6 h29 h30) rfl) rfl)|exact X04) (k:=wkT [] (X0.glue J))
  intro h;obtain rfl:=oj h;exact X3 [.el (aI .i64 (a0.Marks.length:Int)),Gf,Gf,Gf,Gf,Gf,Gf,Gf,Gf,Gf,Gf,Gf,Gf,Gf,Gf,Gf,Gf,Gf,Gf,Gf,Gf] (o:=by repeat' first|apply Ya|exact pcM|exact fq (X5 h29 rfl)|exact fq (X5 (X5 h29 rfl) rfl)|exact fq (X5 (X5 (X5 h29 rfl) rfl) rfl)|exact X04) (k:=wkT [] (X0.glue J))
 refine brI (λh34=>?_) λh34=>?_
 ·
  refine bI λX07n h44=>rnI [Bf,Bf,Bf,Bt,.el (aI .i64 (a0.Marks.length:Int)),.el (aI .i64 (a0.Store.length:Int)),.stop 19] ?_;intro h;refine X0.join (s':=⟨fr [(2,(aB X07n))],hp ([]),0⟩) ?_ (λJ=>X0.cut ?_)
  ·
   revert h;exact λe=>oj e▸X3 [] (k:=fi)
  clear h;revert h44;refine brI (λh40=>?_) λh40=>?_
  ·
   refine brI (λh41=>?_) λh41=>?_
   ·
    refine rnI [.el (aI .i64 (a0.Marks.length:Int)),Gt,Gt,Gt,.el (aI .i64 (a0.Store.length:Int)),Gt,Gt,Gt,Gt,Gt,.el (aI .i64 (a0.Events.length:Int)),Gt,Gt,.stop 999999] (o:=by repeat' first|apply Ya|exact pcM|exact fq (X6 h40 h41)|exact X04) ?_;refine brI (λh42=>?_) λh42=>?_
    ·
     refine brI (λh43=>?_) λh43=>?_
     ·
      intro h;obtain rfl:=oj h;exact X3 [Gt,Gt,Gt,.el (aI .i64 (a0.Rows.length:Int)),Gt,Gt,Gt,Gt,Gt,.el (aI .i64 (a0.Late.length:Int)),Gt,Gt] (o:=by repeat' first|apply Ya|exact pcM|exact fq (X6 (X6 h40 h41) h42)|exact fq (X6 (X6 (X6 h40 h41) h42) h43)|exact X04) (k:=wkT [] (X0.glue J))
     intro h;obtain rfl:=oj h;exact X3 [Gt,Gt,Gt,.el (aI .i64 (a0.Rows.length:Int)),Gt,Gt,Gf,Gf,Gf,Gf,Gf] (o:=by repeat' first|apply Ya|exact pcM|exact fq (X6 (X6 h40 h41) h42)|exact fq (X6 (X6 (X6 h40 h41) h42) h43)|exact X04) (k:=wkT [] (X0.glue J))
    intro h;obtain rfl:=oj h;exact X3 [Gf,Gf,Gf,Gf,Gf,Gf,Gf,Gf,Gf,Gf] (o:=by repeat' first|apply Ya|exact pcM|exact fq (X6 (X6 h40 h41) h42)|exact fq (X5 (X6 (X6 h40 h41) h42) rfl)|exact X04) (k:=wkT [] (X0.glue J))
   intro h;obtain rfl:=oj h;exact X3 [.el (aI .i64 (a0.Marks.length:Int)),Gt,Gt,Gt,.el (aI .i64 (a0.Store.length:Int)),Gt,Gt,Gf,Gf,Gf,Gf,Gf,Gf,Gf,Gf,Gf,Gf,Gf,Gf,Gf,Gf,Gf] (o:=by repeat' first|apply Ya|exact pcM|exact fq (X6 h40 h41)|exact fq (X5 (X6 h40 h41) rfl)|exact fq (X5 (X5 (X6 h40 h41) rfl) rfl)|exact X04) (k:=wkT [] (X0.glue J))
  intro h;obtain rfl:=oj h;exact X3 [.el (aI .i64 (a0.Marks.length:Int)),Gf,Gf,Gf,Gf,Gf,Gf,Gf,Gf,Gf,Gf,Gf,Gf,Gf,Gf,Gf,Gf,Gf,Gf,Gf,Gf] (o:=by repeat' first|apply Ya|exact pcM|exact fq (X5 h40 rfl)|exact fq (X5 (X5 h40 rfl) rfl)|exact fq (X5 (X5 (X5 h40 rfl) rfl) rfl)|exact X04) (k:=wkT [] (X0.glue J))
 refine brI (λh45=>?_) λh45=>?_
 ·
  refine bI λX078 h55=>rnI [Bf,Bf,Bf,Bf,Bt,.el (aI .i64 (a0.Store.length:Int)),.stop 19] ?_;intro h;refine X0.join (s':=⟨fr [(2,(aB X078))],hp ([]),0⟩) ?_ (λJ=>X0.cut ?_)
  ·
   revert h;exact λe=>oj e▸X3 [] (k:=fi)
  clear h;revert h55;refine brI (λh51=>?_) λh51=>?_
  ·
   refine brI (λh52=>?_) λh52=>?_
   ·
    refine rnI [.el (aI .i64 (a0.Marks.length:Int)),Gt,Gt,Gt,.el (aI .i64 (a0.Store.length:Int)),Gt,Gt,Gt,Gt,Gt,.el (aI .i64 (a0.Events.length:Int)),Gt,Gt,.stop 999999] (o:=by repeat' first|apply Ya|exact pcM|exact fq (X6 h51 h52)|exact X04) ?_;refine brI (λh53=>?_) λh53=>?_
    ·
     refine brI (λh54=>?_) λh54=>?_
     ·
      intro h;obtain rfl:=oj h;exact X3 [Gt,Gt,Gt,.el (aI .i64 (a0.Rows.length:Int)),Gt,Gt,Gt,Gt,Gt,.el (aI .i64 (a0.Late.length:Int)),Gt,Gt] (o:=by repeat' first|apply Ya|exact pcM|exact fq (X6 (X6 h51 h52) h53)|exact fq (X6 (X6 (X6 h51 h52) h53) h54)|exact X04) (k:=wkT [] (X0.glue J))
     intro h;obtain rfl:=oj h;exact X3 [Gt,Gt,Gt,.el (aI .i64 (a0.Rows.length:Int)),Gt,Gt,Gf,Gf,Gf,Gf,Gf] (o:=by repeat' first|apply Ya|exact pcM|exact fq (X6 (X6 h51 h52) h53)|exact fq (X6 (X6 (X6 h51 h52) h53) h54)|exact X04) (k:=wkT [] (X0.glue J))
    intro h;obtain rfl:=oj h;exact X3 [Gf,Gf,Gf,Gf,Gf,Gf,Gf,Gf,Gf,Gf] (o:=by repeat' first|apply Ya|exact pcM|exact fq (X6 (X6 h51 h52) h53)|exact fq (X5 (X6 (X6 h51 h52) h53) rfl)|exact X04) (k:=wkT [] (X0.glue J))
   intro h;obtain rfl:=oj h;exact X3 [.el (aI .i64 (a0.Marks.length:Int)),Gt,Gt,Gt,.el (aI .i64 (a0.Store.length:Int)),Gt,Gt,Gf,Gf,Gf,Gf,Gf,Gf,Gf,Gf,Gf,Gf,Gf,Gf,Gf,Gf,Gf] (o:=by repeat' first|apply Ya|exact pcM|exact fq (X6 h51 h52)|exact fq (X5 (X6 h51 h52) rfl)|exact fq (X5 (X5 (X6 h51 h52) rfl) rfl)|exact X04) (k:=wkT [] (X0.glue J))
  intro h;obtain rfl:=oj h;exact X3 [.el (aI .i64 (a0.Marks.length:Int)),Gf,Gf,Gf,Gf,Gf,Gf,Gf,Gf,Gf,Gf,Gf,Gf,Gf,Gf,Gf,Gf,Gf,Gf,Gf,Gf] (o:=by repeat' first|apply Ya|exact pcM|exact fq (X5 h51 rfl)|exact fq (X5 (X5 h51 rfl) rfl)|exact fq (X5 (X5 (X5 h51 rfl) rfl) rfl)|exact X04) (k:=wkT [] (X0.glue J))
 refine brI (λh56=>?_) λh56=>?_
 ·
  refine bI λX076 h66=>rnI [Bf,Bf,Bf,Bf,Bf,Bt,.stop 19] ?_;intro h;refine X0.join (s':=⟨fr [(2,(aB X076))],hp ([]),0⟩) ?_ (λJ=>X0.cut ?_)
  ·
   revert h;exact λe=>oj e▸X3 [] (k:=fi)
  clear h;revert h66;refine brI (λh62=>?_) λh62=>?_
  ·
   refine brI (λh63=>?_) λh63=>?_
   ·
    refine rnI [.el (aI .i64 (a0.Marks.length:Int)),Gt,Gt,Gt,.el (aI .i64 (a0.Store.length:Int)),Gt,Gt,Gt,Gt,Gt,.el (aI .i64 (a0.Events.length:Int)),Gt,Gt,.stop 999999] (o:=by repeat' first|apply Ya|exact pcM|exact fq (X6 h62 h63)|exact X04) ?_;refine brI (λh64=>?_) λh64=>?_
    ·
     refine brI (λh65=>?_) λh65=>?_
     ·
      intro h;obtain rfl:=oj h;exact X3 [Gt,Gt,Gt,.el (aI .i64 (a0.Rows.length:Int)),Gt,Gt,Gt,Gt,Gt,.el (aI .i64 (a0.Late.length:Int)),Gt,Gt] (o:=by repeat' first|apply Ya|exact pcM|exact fq (X6 (X6 h62 h63) h64)|exact fq (X6 (X6 (X6 h62 h63) h64) h65)|exact X04) (k:=wkT [] (X0.glue J))
     intro h;obtain rfl:=oj h;exact X3 [Gt,Gt,Gt,.el (aI .i64 (a0.Rows.length:Int)),Gt,Gt,Gf,Gf,Gf,Gf,Gf] (o:=by repeat' first|apply Ya|exact pcM|exact fq (X6 (X6 h62 h63) h64)|exact fq (X6 (X6 (X6 h62 h63) h64) h65)|exact X04) (k:=wkT [] (X0.glue J))
    intro h;obtain rfl:=oj h;exact X3 [Gf,Gf,Gf,Gf,Gf,Gf,Gf,Gf,Gf,Gf] (o:=by repeat' first|apply Ya|exact pcM|exact fq (X6 (X6 h62 h63) h64)|exact fq (X5 (X6 (X6 h62 h63) h64) rfl)|exact X04) (k:=wkT [] (X0.glue J))
   intro h;obtain rfl:=oj h;exact X3 [.el (aI .i64 (a0.Marks.length:Int)),Gt,Gt,Gt,.el (aI .i64 (a0.Store.length:Int)),Gt,Gt,Gf,Gf,Gf,Gf,Gf,Gf,Gf,Gf,Gf,Gf,Gf,Gf,Gf,Gf,Gf] (o:=by repeat' first|apply Ya|exact pcM|exact fq (X6 h62 h63)|exact fq (X5 (X6 h62 h63) rfl)|exact fq (X5 (X5 (X6 h62 h63) rfl) rfl)|exact X04) (k:=wkT [] (X0.glue J))
  intro h;obtain rfl:=oj h;exact X3 [.el (aI .i64 (a0.Marks.length:Int)),Gf,Gf,Gf,Gf,Gf,Gf,Gf,Gf,Gf,Gf,Gf,Gf,Gf,Gf,Gf,Gf,Gf,Gf,Gf,Gf] (o:=by repeat' first|apply Ya|exact pcM|exact fq (X5 h62 rfl)|exact fq (X5 (X5 h62 rfl) rfl)|exact fq (X5 (X5 (X5 h62 rfl) rfl) rfl)|exact X04) (k:=wkT [] (X0.glue J))
 refine brI (λh67=>?_) λh67=>λe=>oj e▸X3 [Bf,Bf,Bf,Bf,Bf,Bf,Bf] (k:=fi);refine bI λX075 h77=>rnI [Bf,Bf,Bf,Bf,Bf,Bf,Bt,.stop 19] ?_;intro h;refine X0.join (s':=⟨fr [(2,(aB X075))],hp ([]),0⟩) ?_ (λJ=>X0.cut ?_)
 ·
  revert h;exact λe=>oj e▸X3 [] (k:=fi)
 clear h;revert h77;refine brI (λh73=>?_) λh73=>?_
 ·
  refine brI (λh74=>?_) λh74=>?_
  ·
   refine rnI [.el (aI .i64 (a0.Marks.length:Int)),Gt,Gt,Gt,.el (aI .i64 (a0.Store.length:Int)),Gt,Gt,Gt,Gt,Gt,.el (aI .i64 (a0.Events.length:Int)),Gt,Gt,.stop 999999] (o:=by repeat' first|apply Ya|exact pcM|exact fq (X6 h73 h74)|exact X04) ?_;refine brI (λh75=>?_) λh75=>?_
   ·
    refine brI (λh76=>?_) λh76=>?_
    ·
     intro h;obtain rfl:=oj h;exact X3 [Gt,Gt,Gt,.el (aI .i64 (a0.Rows.length:Int)),Gt,Gt,Gt,Gt,Gt,.el (aI .i64 (a0.Late.length:Int)),Gt,Gt] (o:=by repeat' first|apply Ya|exact pcM|exact fq (X6 (X6 h73 h74) h75)|exact fq (X6 (X6 (X6 h73 h74) h75) h76)|exact X04) (k:=wkT [] (X0.glue J))
    intro h;obtain rfl:=oj h;exact X3 [Gt,Gt,Gt,.el (aI .i64 (a0.Rows.length:Int)),Gt,Gt,Gf,Gf,Gf,Gf,Gf] (o:=by repeat' first|apply Ya|exact pcM|exact fq (X6 (X6 h73 h74) h75)|exact fq (X6 (X6 (X6 h73 h74) h75) h76)|exact X04) (k:=wkT [] (X0.glue J))
   intro h;obtain rfl:=oj h;exact X3 [Gf,Gf,Gf,Gf,Gf,Gf,Gf,Gf,Gf,Gf] (o:=by repeat' first|apply Ya|exact pcM|exact fq (X6 (X6 h73 h74) h75)|exact fq (X5 (X6 (X6 h73 h74) h75) rfl)|exact X04) (k:=wkT [] (X0.glue J))
  intro h;obtain rfl:=oj h;exact X3 [.el (aI .i64 (a0.Marks.length:Int)),Gt,Gt,Gt,.el (aI .i64 (a0.Store.length:Int)),Gt,Gt,Gf,Gf,Gf,Gf,Gf,Gf,Gf,Gf,Gf,Gf,Gf,Gf,Gf,Gf,Gf] (o:=by repeat' first|apply Ya|exact pcM|exact fq (X6 h73 h74)|exact fq (X5 (X6 h73 h74) rfl)|exact fq (X5 (X5 (X6 h73 h74) rfl) rfl)|exact X04) (k:=wkT [] (X0.glue J))
 intro h;obtain rfl:=oj h;exact X3 [.el (aI .i64 (a0.Marks.length:Int)),Gf,Gf,Gf,Gf,Gf,Gf,Gf,Gf,Gf,Gf,Gf,Gf,Gf,Gf,Gf,Gf,Gf,Gf,Gf,Gf] (o:=by repeat' first|apply Ya|exact pcM|exact fq (X5 h73 rfl)|exact fq (X5 (X5 h73 rfl) rfl)|exact fq (X5 (X5 (X5 h73 rfl) rfl) rfl)|exact X04) (k:=wkT [] (X0.glue J))⟩
theorem Xiu {Q:Xp->St->Mu->Prop} {μ:Mu} (X08:(List X3i)) (hl:X08.length<=140737488355328):∀ (xs:List X3i) (k:Nat) (hx:X08.drop k=xs) (o:X76) (h:X47 X08 xs k  = some o)
  (C0:o=X76.x0->X0 Tryz.prog 33 0 Q (.exit (.exit 0)) [] ⟨fr [],hp ([]),0⟩ μ)
  (C1:o=X76.x1->X0 Tryz.prog 33 0 Q (.exit .ret) [] ⟨fr [(2,(aB false))],hp ([]),0⟩ μ),
  X0 Tryz.prog 33 0 Q (.loop (X0w 0 (Xd Tryz.f173))) [] ⟨fr [(0,(Lf (X08.map X0i))),(3,(aI .i64 (k:Int)))],hp ([]),0⟩ μ:=by
 intro xs
 induction xs with
 |nil =>
  intro k hx  o h C0 C1;have hk:=X06 hx;have hc:decide ((k:Int)<(X08.length:Int))=false:=Yf om;rw[X47] at h;refine X0.round ?_;revert h;exact λe=>X3 [.el (aI .i64 (X08.length:Int)),Bf] (k:=wkT [] (C0  (oj e).symm))
 |cons x xs ih =>
  intro k hx  o h C0 C1;obtain⟨hk,hg,hx1⟩:=Xy hx;have hc:decide ((k:Int)<(X08.length:Int))=true:=Yt om;rw[X47] at h;refine X0.round ?_;revert h;refine bI λXzb h35=>rnI [.el (aI .i64 (X08.length:Int)),Bt,.stop 4] ?_;intro h;refine X0.join (s':=⟨fr [(0,(Lf (X08.map X0i))),(3,(aI .i64 (k:Int))),(32,(aB Xzb))],hp ([]),0⟩) ?_ (λJ=>X0.cut ?_)
  ·
   revert h;refine brI (λh36=>λe=>X3 [Bt] (k:=wkT [] (C1  (oj e).symm))) λh36=>rnI [Bf] ?_;intro h;exact wkT [] (ih (k+1) hx1  o h C0 C1)
  clear h;revert h35;refine brI (λh31=>?_) λh31=>?_
  ·
   intro h;obtain rfl:=oj h;exact X3 [.el (X0i x),Gf,Gf,Gf,Gf,Gf,Gf,Gf,Gf,Gf,Gf,Gf,Gf,Gf] (o:=by repeat' first|apply Ya|exact pcM|exact fq (X6 h31 rfl)|exact X04) (k:=wkT [] (X0.glue J))
  refine brI (λh32=>?_) λh32=>?_
  ·
   intro h;obtain rfl:=oj h;exact X3 [.el (X0i x),Gt,Gt,Gt,.el (X0i x),Gt,Gt,Gt,Gf,Gf,Gf,Gf,Gf,Gf,Gf] (o:=by repeat' first|apply Ya|exact pcM|exact fq (X5 h31 h32)|exact X04) (k:=wkT [] (X0.glue J))
  refine bI λv33 h34=>?_;intro h;obtain rfl:=oj h;exact X3 [.el (X0i x),Gt,Gt,Gt,.el (X0i x),Gt,Gt,Gt,Gt,Gt,Gt,.el (X0i x),Gt,Gt,Gt,.pure _ (aB v33),Gt] (o:=by repeat' first|apply Ya|exact pcM|exact fq (X5 h31 h32)|exact X04) (k:=wkT [] (X0.glue J))
instance X015:PCs Tryz.prog 173 (∀ (a0:(List X3i)) (r:Bool),Xbx a0=some r->X05 Tryz.prog 173 [(Lf (a0.map X0i))] (aB r)):=⟨λa0 r h=>by
 refine X05.sym X9 X0cs (nt:=33) rfl rfl ?_ okM;unfold Xbx at h;revert h;refine bI λu1 h2=>?_;have qh2:=X0l h2;refine bI λo37 h38=>rnI [] ?_;intro h;refine wkT [] (X0.cut (Xiu a0 qh2 a0 0 (by simp) _ h38 ?_ ?_))
 ·
  intro eo37;subst eo37;refine X0.glue ?_;try dsimp only at h
  revert h;exact λe=>oj e▸X3 [] (k:=fi)
 intro eo37;subst eo37;refine X0.glue ?_;try dsimp only at h
 revert h;exact λe=>oj e▸X3 [] (k:=fi)⟩
instance X017:PCs Tryz.prog 225 (∀ (a0:Int) (r:Bool),Xbz a0=some r->X05 Tryz.prog 225 [(aI .i64 a0)] (aB r)):=⟨λa0 r h=>by
 refine X05.sym X9 X0cd (nt:=9) rfl rfl ?_ okM;unfold Xbz at h;revert h;refine bI λj4_2 h8=>rnI [.stop 1] ?_;intro h;refine X0.join (s':=⟨fr [(2,(aB j4_2))],hp ([]),0⟩) ?_ (λJ=>X0.cut ?_)
 ·
  revert h;exact λe=>oj e▸X3 [] (k:=fi)
 clear h;revert h8;refine brI (λh5=>?_) λh5=>?_
 ·
  intro h;obtain rfl:=oj h;exact X3 [Gf,Gf] (k:=wkT [] (X0.glue J))
 refine bI λv6 h7=>?_;intro h;obtain rfl:=oj h;exact X3 [Gt,Gt,.pure _ (aB v6)] (k:=wkT [] (X0.glue J))⟩
end Go.Av.Tryz