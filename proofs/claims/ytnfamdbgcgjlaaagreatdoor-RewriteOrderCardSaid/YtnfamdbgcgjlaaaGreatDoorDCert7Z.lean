/- Printed by decomp.py: that the program computes the functions. -/
import Derived.Test.YtnfamdbgcgjlaaaGreatDoorDCert6Z
set_option linter.all false

namespace Go.Av.Tryz
open Go.Proofs Go.D
set_option maxRecDepth 10000
set_option maxHeartbeats 40000000
theorem Xb7 {Q:Xi->St->Mu->Prop}  {rb rD:Nat} {rr:Loop} (rh1:rr.state=.ready) (rh2:rr.pending=none) (rh3:rr.params=(rfB 0 (X3 Tryz.f64)).1) (rh4:rr.assign=(rfB 0 (X3 Tryz.f64)).2.1) (rh5:rr.body=(rfB 0 (X3 Tryz.f64)).2.2) (Xr:(List X1)) (Xdb:(List X1)) (X9g:Int) (X6m:(List Bool)) (Xe7:(List X1)) (Xhf:Nb Xdb):∀ (n:Nat) (Xft:(List Xb)) (X4f:(List Int)) (o:X5c) (h:Xq Xr Xdb X9g X6m Xe7 n Xft X4f=some o)
  (C0:∀ (Xau:(List X1)) (X8l:(List Xb)) (Xab:Nb Xau),o=X5c.x0 Xau X8l->X4 Tryz.prog 69 8 Q (.exit (.exit 0)) [] ⟨fr [],hp ([(0,Ob [(Lf (Xr.map X0))] 1),(1,Ob [(slE Xab.1 8 (Xau.map X0))] 1),(2,Ob [(aI .i64 X9g)] 1),(3,Ob [(Lt (X6m.map aB))] 1),(5,Ob [(AV.ref 9 0 (X8l.length))] 1),(6,Ob [(Lf (Xe7.map X0))] 1),(7,Ob [(AV.fn 90 [(AV.ptr 5 0 0)])] 1),(9,Ob (List.map (X5 true) X8l) 2)]++opE Xab.1 8 5 (Xau.map X0)),10⟩ [(rb,MuE.loop rr 70 8 (fr [(1,(AV.ptr 0 0 0)),(2,(AV.ptr 1 0 0)),(3,(AV.ptr 2 0 0)),(4,(AV.ptr 3 0 0)),(6,(AV.ptr 5 0 0)),(26,(AV.fn 118 [(AV.ptr 6 0 0),(AV.ptr 7 0 0)]))])),(rD,MuE.blk (Go.Obj.deferred (some [])))]),
  X4 Tryz.prog 69 8 Q (.loop (X7j 0 (X3 Tryz.f118))) [] ⟨fr [(0,(AV.sc (.func (.yield rb) #[] #[]))),(1,(AV.ptr 6 0 0)),(2,(AV.ptr 7 0 0)),(4,(AV.ref 10 0 (X4f.length)))],hp ([(0,Ob [(Lf (Xr.map X0))] 1),(1,Ob [(slE Xhf.1 8 (Xdb.map X0))] 1),(2,Ob [(aI .i64 X9g)] 1),(3,Ob [(Lt (X6m.map aB))] 1),(5,Ob [(AV.ref 9 0 (Xft.length))] 1),(6,Ob [(Lf (Xe7.map X0))] 1),(7,Ob [(AV.fn 90 [(AV.ptr 5 0 0)])] 1),(9,Ob (List.map (X5 true) Xft) 2),(10,Ob (List.map (aI .i64) X4f) 1)]++opE Xhf.1 8 5 (Xdb.map X0)),11⟩ [(rb,MuE.loop rr 70 8 (fr [(1,(AV.ptr 0 0 0)),(2,(AV.ptr 1 0 0)),(3,(AV.ptr 2 0 0)),(4,(AV.ptr 3 0 0)),(6,(AV.ptr 5 0 0)),(26,(AV.fn 118 [(AV.ptr 6 0 0),(AV.ptr 7 0 0)]))])),(rD,MuE.blk (Go.Obj.deferred (some [])))]:=by
 intro n
 induction n with
 |zero=>intro Xft X4f o h C0;cases h
 |succ n ih =>
  intro Xft X4f o h C0;rw[Xq] at h;rcases Xhf with ⟨_|_,Xtc⟩
  ·
   refine X4.round ?_;revert h;refine brI (λh207=>?_) λh207=>λe=>Xd [.el (aI .i64 (X4f.length:Int)),Bf] (k:=wkT [] (C0 _ _  nbF (oj e).symm));refine bI λe208 h209=>?_;try have qh209:=Xm h209
   refine bI λm210 h211=>?_;obtain⟨qah211,qbh211,qch211,qh211⟩:=X33 h211;have qlh211:=X5o h211;refine bI λX9s h241=>rnI [.el (aI .i64 (X4f.length:Int)),Bt,.el (aI .i64 (X4f.length:Int)),.wrap,.el (aI .i64 e208),.ld (aI .i64 e208),.el (aI .i64 (X4f.length:Int)),.wrap,.via (.ref 10 0 (m210.length))] (o:=by repeat' first|apply Ya|exact pcM|(simp at qah211 qbh211 qch211 ⊢;omega)|(simp at qah211 qbh211 qch211 qlh211 ⊢;omega)|(simp;done)|exact Xu) ?_;intro h;refine X4.joinOp (s':=⟨fr [(0,(AV.sc (.func (.yield rb) #[] #[]))),(1,(AV.ptr 6 0 0)),(2,(AV.ptr 7 0 0)),(4,(AV.ref 10 0 (m210.length))),(5,(aI .i64 e208)),(28,(aB true))],hp ([(0,Ob [(Lf (Xr.map X0))] 1),(1,Ob [(AV.ref 8 0 (Xdb.length))] 1),(2,Ob [(aI .i64 X9g)] 1),(3,Ob [(Lt (X6m.map aB))] 1),(5,Ob [(AV.ref 9 0 (X9s.length))] 1),(6,Ob [(Lf (Xe7.map X0))] 1),(7,Ob [(AV.fn 90 [(AV.ptr 5 0 0)])] 1),(8,Ob (Xdb.map X0) 5),(9,Ob (List.map (X5 true) X9s) 2),(10,Ob (List.map (aI .i64) X4f) 1)]),11⟩) ?_ (λJ=>?_)
   ·
    refine X34 [Bf] (o:=by repeat' first|apply Ya|exact pcM|(simp at qah211 qbh211 qch211 ⊢;omega)|(simp at qah211 qbh211 qch211 qlh211 ⊢;omega)|(simp;done)|exact Xu) ?_;refine X4.inline X7 fn90 rfl rfl rfl rfl rfl trivial trivial rfl rfl ?_;revert h;refine bI λe244 h245=>?_;try have qh245:=Xm h245
    refine rnI [.el (X5 true e244),.ld (X5 true e244)] (o:=by repeat' first|apply Ya|exact pcM|(simp at qah211 qbh211 qch211 ⊢;omega)|(simp at qah211 qbh211 qch211 qlh211 ⊢;omega)|(simp;done)|exact Xu) ?_;intro h;refine X4.back (by intro id h;cases h) rfl ?_;revert h;refine brI (λh246=>?_) λh246=>?_
    ·
     refine rnI [Bt] (o:=by repeat' first|apply Ya|exact pcM|(simp at qah211 qbh211 qch211 ⊢;omega)|(simp at qah211 qbh211 qch211 qlh211 ⊢;omega)|(simp;done)|exact Xu) ?_;intro h;refine X4.trunc 10 (List.map (aI .i64) m210) rfl (X24 (f:=(aI .i64)) qh211) ?_;exact wkT [] (ih  _ _ o h C0)
    refine bI λe247 h248=>?_;try have qh248:=Xm h248
    refine bI λv249 h250=>brI (λh251=>?_) λh251=>?_
    ·
     refine bI λu252 h253=>rnI [Bf,.el (X0 e247),.pure _ (AV.tup [(aI .i64 v249.1),(aI .i64 v249.2)]),Bt,.el (X0 e247),.trunc 10 (List.map (aI .i64) m210),.no] (o:=by repeat' first|apply Ya|exact pcM|(simp at qah211 qbh211 qch211 ⊢;omega)|(simp at qah211 qbh211 qch211 qlh211 ⊢;omega)|(simp;done)|(refine X20 h253 rfl ?_;first|(simp<;>omega)|(simp[h207,h246,h251]<;>omega))|(refine X0p h253 (by decide) ?_;first|(simp<;>omega)|(simp[h207,h246,h251]<;>omega))|exact(X24 (f:=(aI .i64)) qh211)|exact Xu) ?_;intro h;exact wkT [(10,12)] (ih  _ _ o h C0)
    refine brI (λh254=>?_) λh254=>?_
    ·
     refine rnI [Bf,.el (X0 e247),.pure _ (AV.tup [(aI .i64 v249.1),(aI .i64 v249.2)]),Bf,Bt,.stop 11] (o:=by repeat' first|apply Ya|exact pcM|(simp at qah211 qbh211 qch211 ⊢;omega)|(simp at qah211 qbh211 qch211 qlh211 ⊢;omega)|(simp;done)|exact Xu) ?_;intro h;refine X4.trunc 10 (List.map (aI .i64) m210) rfl (X24 (f:=(aI .i64)) qh211) ?_;revert h;refine bI λu255 h256=>rnI [.el (X0 e247),.el (X0 e247),.no] (o:=by repeat' first|apply Ya|exact pcM|(simp at qah211 qbh211 qch211 ⊢;omega)|(simp at qah211 qbh211 qch211 qlh211 ⊢;omega)|(simp;done)|(refine X20 h256 rfl ?_;first|(simp<;>omega)|(simp[h207,h246,h251,h254]<;>omega))|(refine X0p h256 (by decide) ?_;first|(simp<;>omega)|(simp[h207,h246,h251,h254]<;>omega))|exact Xu) ?_;intro h;exact wkT [(10,23)] (ih  _ _ o h C0)
    refine rnI [Bf,.el (X0 e247),.pure _ (AV.tup [(aI .i64 v249.1),(aI .i64 v249.2)]),Bf,Bf] (o:=by repeat' first|apply Ya|exact pcM|(simp at qah211 qbh211 qch211 ⊢;omega)|(simp at qah211 qbh211 qch211 qlh211 ⊢;omega)|(simp;done)|exact Xu) ?_;intro h;refine X4.trunc 10 (List.map (aI .i64) m210) rfl (X24 (f:=(aI .i64)) qh211) ?_;exact wkT [] (ih  _ _ o h C0)
   clear h;revert h241;intro h;refine X4.yield rfl rfl rfl rfl rfl trivial trivial (.head _) rh1 rh2 rh3 rh4 rh5 rfl rfl ?_;refine X34 [] (o:=by repeat' first|apply Ya|exact pcM|(simp at qah211 qbh211 qch211 ⊢;omega)|(simp at qah211 qbh211 qch211 qlh211 ⊢;omega)|(simp;done)|exact Xu) ?_;refine X4.asg ?_;revert h;refine bI λv227 h228=>brI (λh229=>?_) λh229=>?_
   ·
    intro h;cases h
   refine bI λv230 h231=>rnI [.pure _ (AV.tup [(Lt (v227.1.map X0)),(aI .i64 v227.2)]),Bf,.pure _ (AV.tup [(aI .i64 v230.1),(aB v230.2.1),(aI .i64 v230.2.2)])] (o:=by repeat' first|apply Ya|exact pcM|(simp at qah211 qbh211 qch211 ⊢;omega)|(simp at qah211 qbh211 qch211 qlh211 ⊢;omega)|(simp;done)|exact Xu) ?_;refine brI (λh232=>?_) λh232=>?_
   ·
    refine bI λe233 h234=>?_;try have qh234:=Xm h234
    refine bI λe235 h236=>?_;try have qh236:=Xm h236
    refine bI λv237 h238=>bI λe239 h240=>?_;try have qh240:=Xm h240
    intro h;obtain rfl:=oj h;refine X34 [Bt,.el (aB e233),.el (X0 e235),.pure _ (X5 true v237),.el (X5 true e239),.ld (X5 true e239)] (o:=by repeat' first|apply Ya|exact pcM|(simp at qah211 qbh211 qch211 ⊢;omega)|(simp at qah211 qbh211 qch211 qlh211 ⊢;omega)|(simp;done)|exact(List.getElem?_set_self (by have hq:=X61 h240;simp;omega)).trans rfl|exact Xu) ?_;refine X4.rndEnd ?_;exact wkT [] (J)
   intro h;obtain rfl:=oj h;refine X34 [Bf] (o:=by repeat' first|apply Ya|exact pcM|(simp at qah211 qbh211 qch211 ⊢;omega)|(simp at qah211 qbh211 qch211 qlh211 ⊢;omega)|(simp;done)|exact Xu) ?_;refine X4.rndEnd ?_;exact wkT [] (J)
  obtain rfl:=Xtc rfl;refine X4.round ?_;revert h;refine brI (λh257=>?_) λh257=>λe=>Xd [.el (aI .i64 (X4f.length:Int)),Bf] (k:=wkT [] (C0 _ _  nbS (oj e).symm));refine bI λe258 h259=>?_;try have qh259:=Xm h259
  refine bI λm260 h261=>?_;obtain⟨qah261,qbh261,qch261,qh261⟩:=X33 h261;have qlh261:=X5o h261;refine bI λXp4 h291=>rnI [.el (aI .i64 (X4f.length:Int)),Bt,.el (aI .i64 (X4f.length:Int)),.wrap,.el (aI .i64 e258),.ld (aI .i64 e258),.el (aI .i64 (X4f.length:Int)),.wrap,.via (.ref 10 0 (m260.length))] (o:=by repeat' first|apply Ya|exact pcM|(simp at qah261 qbh261 qch261 ⊢;omega)|(simp at qah261 qbh261 qch261 qlh261 ⊢;omega)|(simp;done)|exact Xu) ?_;intro h;refine X4.joinOp (s':=⟨fr [(0,(AV.sc (.func (.yield rb) #[] #[]))),(1,(AV.ptr 6 0 0)),(2,(AV.ptr 7 0 0)),(4,(AV.ref 10 0 (m260.length))),(5,(aI .i64 e258)),(28,(aB true))],hp ([(0,Ob [(Lf (Xr.map X0))] 1),(1,Ob [AV.nils] 1),(2,Ob [(aI .i64 X9g)] 1),(3,Ob [(Lt (X6m.map aB))] 1),(5,Ob [(AV.ref 9 0 (Xp4.length))] 1),(6,Ob [(Lf (Xe7.map X0))] 1),(7,Ob [(AV.fn 90 [(AV.ptr 5 0 0)])] 1),(9,Ob (List.map (X5 true) Xp4) 2),(10,Ob (List.map (aI .i64) X4f) 1)]),11⟩) ?_ (λJ=>?_)
  ·
   refine X34 [Bf] (o:=by repeat' first|apply Ya|exact pcM|(simp at qah261 qbh261 qch261 ⊢;omega)|(simp at qah261 qbh261 qch261 qlh261 ⊢;omega)|(simp;done)|exact Xu) ?_;refine X4.inline X7 fn90 rfl rfl rfl rfl rfl trivial trivial rfl rfl ?_;revert h;refine bI λe294 h295=>?_;try have qh295:=Xm h295
   refine rnI [.el (X5 true e294),.ld (X5 true e294)] (o:=by repeat' first|apply Ya|exact pcM|(simp at qah261 qbh261 qch261 ⊢;omega)|(simp at qah261 qbh261 qch261 qlh261 ⊢;omega)|(simp;done)|exact Xu) ?_;intro h;refine X4.back (by intro id h;cases h) rfl ?_;revert h;refine brI (λh296=>?_) λh296=>?_
   ·
    refine rnI [Bt] (o:=by repeat' first|apply Ya|exact pcM|(simp at qah261 qbh261 qch261 ⊢;omega)|(simp at qah261 qbh261 qch261 qlh261 ⊢;omega)|(simp;done)|exact Xu) ?_;intro h;refine X4.trunc 10 (List.map (aI .i64) m260) rfl (X24 (f:=(aI .i64)) qh261) ?_;exact wkT [] (ih  _ _ o h C0)
   refine bI λe297 h298=>?_;try have qh298:=Xm h298
   refine bI λv299 h300=>brI (λh301=>?_) λh301=>?_
   ·
    refine bI λu302 h303=>rnI [Bf,.el (X0 e297),.pure _ (AV.tup [(aI .i64 v299.1),(aI .i64 v299.2)]),Bt,.el (X0 e297),.trunc 10 (List.map (aI .i64) m260),.no] (o:=by repeat' first|apply Ya|exact pcM|(simp at qah261 qbh261 qch261 ⊢;omega)|(simp at qah261 qbh261 qch261 qlh261 ⊢;omega)|(simp;done)|(refine X20 h303 rfl ?_;first|(simp<;>omega)|(simp[h257,h296,h301]<;>omega))|(refine X0p h303 (by decide) ?_;first|(simp<;>omega)|(simp[h257,h296,h301]<;>omega))|exact(X24 (f:=(aI .i64)) qh261)|exact Xu) ?_;intro h;exact wkT [(10,12)] (ih  _ _ o h C0)
   refine brI (λh304=>?_) λh304=>?_
   ·
    refine rnI [Bf,.el (X0 e297),.pure _ (AV.tup [(aI .i64 v299.1),(aI .i64 v299.2)]),Bf,Bt,.stop 11] (o:=by repeat' first|apply Ya|exact pcM|(simp at qah261 qbh261 qch261 ⊢;omega)|(simp at qah261 qbh261 qch261 qlh261 ⊢;omega)|(simp;done)|exact Xu) ?_;intro h;refine X4.trunc 10 (List.map (aI .i64) m260) rfl (X24 (f:=(aI .i64)) qh261) ?_;revert h;refine bI λu305 h306=>rnI [.el (X0 e297),.el (X0 e297),.no] (o:=by repeat' first|apply Ya|exact pcM|(simp at qah261 qbh261 qch261 ⊢;omega)|(simp at qah261 qbh261 qch261 qlh261 ⊢;omega)|(simp;done)|(refine X20 h306 rfl ?_;first|(simp<;>omega)|(simp[h257,h296,h301,h304]<;>omega))|(refine X0p h306 (by decide) ?_;first|(simp<;>omega)|(simp[h257,h296,h301,h304]<;>omega))|exact Xu) ?_;intro h;exact wkT [(10,23)] (ih  _ _ o h C0)
   refine rnI [Bf,.el (X0 e297),.pure _ (AV.tup [(aI .i64 v299.1),(aI .i64 v299.2)]),Bf,Bf] (o:=by repeat' first|apply Ya|exact pcM|(simp at qah261 qbh261 qch261 ⊢;omega)|(simp at qah261 qbh261 qch261 qlh261 ⊢;omega)|(simp;done)|exact Xu) ?_;intro h;refine X4.trunc 10 (List.map (aI .i64) m260) rfl (X24 (f:=(aI .i64)) qh261) ?_;exact wkT [] (ih  _ _ o h C0)
  clear h;revert h291;intro h;refine X4.yield rfl rfl rfl rfl rfl trivial trivial (.head _) rh1 rh2 rh3 rh4 rh5 rfl rfl ?_;refine X34 [] (o:=by repeat' first|apply Ya|exact pcM|(simp at qah261 qbh261 qch261 ⊢;omega)|(simp at qah261 qbh261 qch261 qlh261 ⊢;omega)|(simp;done)|exact Xu) ?_;refine X4.asg ?_;revert h;refine bI λv277 h278=>brI (λh279=>?_) λh279=>?_
  ·
   intro h;cases h
  refine bI λv280 h281=>rnI [.pure _ (AV.tup [(Lt (v277.1.map X0)),(aI .i64 v277.2)]),Bf,.pure _ (AV.tup [(aI .i64 v280.1),(aB v280.2.1),(aI .i64 v280.2.2)])] (o:=by repeat' first|apply Ya|exact pcM|(simp at qah261 qbh261 qch261 ⊢;omega)|(simp at qah261 qbh261 qch261 qlh261 ⊢;omega)|(simp;done)|exact Xu) ?_;refine brI (λh282=>?_) λh282=>?_
  ·
   refine bI λe283 h284=>?_;try have qh284:=Xm h284
   refine bI λe285 h286=>?_;try have qh286:=Xm h286
   refine bI λv287 h288=>bI λe289 h290=>?_;try have qh290:=Xm h290
   intro h;obtain rfl:=oj h;refine X34 [Bt,.el (aB e283),.el (X0 e285),.pure _ (X5 true v287),.el (X5 true e289),.ld (X5 true e289)] (o:=by repeat' first|apply Ya|exact pcM|(simp at qah261 qbh261 qch261 ⊢;omega)|(simp at qah261 qbh261 qch261 qlh261 ⊢;omega)|(simp;done)|exact(List.getElem?_set_self (by have hq:=X61 h290;simp;omega)).trans rfl|exact Xu) ?_;refine X4.rndEnd ?_;exact wkT [] (J)
  intro h;obtain rfl:=oj h;refine X34 [Bf] (o:=by repeat' first|apply Ya|exact pcM|(simp at qah261 qbh261 qch261 ⊢;omega)|(simp at qah261 qbh261 qch261 qlh261 ⊢;omega)|(simp;done)|exact Xu) ?_;refine X4.rndEnd ?_;exact wkT [] (J)
instance Xtl:PCs Tryz.prog 64 (∀ (a0:(List X1)) (r:(List X1)×Int),X38 a0=some r->X06 Tryz.prog 64 [(Lf (a0.map X0))] (AV.tup [(Lt (r.1.map X0)),(aI .i64 r.2)])):=⟨λa0 r h=>by
 refine X06.sym X7 fn64 (nt:=70) rfl rfl ?_ okM;unfold X38 at h;revert h;refine bI λv1 h2=>brI (λh3=>λe=>oj e▸Xd [.pure _ (AV.tup [(Lt (v1.1.map aB)),(aI .i64 v1.2)]),Bt] (k:=fi)) λh3=>bI λu4 h5=>?_;have qh5:=Xoo h5;refine rnI [.pure _ (AV.tup [(Lt (v1.1.map aB)),(aI .i64 v1.2)]),Bf,.el (aI .i64 (a0.length:Int))] (o:=by repeat' first|apply Ya|exact pcM|exact(Int.le_trans qh5.2.2 (by decide))|exact om|exact Xu) ?_;intro h;refine X4.inline X7 fn89 rfl rfl rfl rfl rfl trivial trivial rfl rfl ?_;refine X34 [] ?_;refine X4.back (by intro id h;cases h) rfl ?_;refine X34 [] ?_;refine X4.denil 4 (List.map (X5 true) (List.replicate (Int.toNat (a0.length:Int)) (Xb.mk ([]:List X1) false))) rfl (by rw[List.map_replicate,List.map_replicate];rfl) ?_;refine X4.keepL [1,2,3,4,6,26] ?_;refine X4.rangeFunc rfl trivial X05b rfl rfl rfl ?_;intro rb rD rr rh1 rh2 rh3 rh4 rh5;revert h;refine bI λo307 h308=>rnI [.el (aI .i64 (a0.length:Int)),.wrap] ?_;intro h;refine wkT [(9,4),(10,8)] (X4.cut (Xb7 rh1 rh2 rh3 rh4 rh5 a0 ([]:List X1) 0 v1.1 a0 nbS _ _ _ _ h308 ?_));intro Xau X8l Xab eo307;subst eo307;refine X4.glue ?_;try dsimp only at h
 rcases Xab with ⟨_|_,Xmp⟩<;>(try obtain rfl:=Xmp rfl);all_goals
  refine X34 [] ?_;refine X4.rfEnd (by intro id h;cases h) ?_;revert h;exact bI λv309 h310=>λe=>oj e▸Xd [.el (aI .i64 (a0.length:Int)),.wrap,.pure [(Lf (a0.map X0)),(Lf (List.map (X5 false) X8l)),(aI .i64 (IntKind.i64.wrap ((a0.length:Int) - 1)))] (AV.tup [(Lt (v309.1.map X0)),(aI .i64 v309.2)])] (o:=by repeat' first|apply Ya|exact pcM|exact(X2v.lent (Xg8 FU _ _ _ _ h310) (cc (X48 (X18 X11 a0)) (cc (Xqa (f:=(X5 true)) (g:=(X5 false)) (l:=X8l) rfl (by first|rfl|(simp;done)|(simp;rfl)|(simp[h3];done)|(simp[h3];rfl)) (by first|rfl|(simp;done)|(simp;omega)|(simp[h3];done)|(simp[h3];omega)) (λ_=>rfl) (λx=>X7t X1q)) (cc (Xvm (by first|rfl|(simp[*];done))) cn))) (Xux (X12 (X6c (X18 X11 _)) (X12 .sc X6l))))|exact Xu) (k:=fi)⟩
instance Xrp:PCs Tryz.prog 36 (∀ (a0:Xa) (r:Xa×Int),X5z a0=some r->X06 Tryz.prog 36 [(X8 false a0)] (AV.tup [(X8 false r.1),(aI .i64 r.2)])):=⟨λa0 r h=>by
 refine X06.sym X7 fn36 (nt:=52) rfl rfl ?_ okM;unfold X5z at h;revert h;refine bI λv1 h2=>brI (λh3=>λe=>oj e▸Xd [.pure _ (AV.tup [(aI .i64 v1.1),(aI .i64 v1.2)]),Bt] (k:=fi)) λh3=>bI λXis h15=>rnI [.pure _ (AV.tup [(aI .i64 v1.1),(aI .i64 v1.2)]),Bf] ?_;intro h;refine X4.joinOpF (λ(q:Nb Xis)=>⟨fr [(1,(AV.ptr 0 0 0)),(2,(AV.ptr 1 0 0)),(21,(slE q.1 2 (List.map (aI .i64) Xis)))],hp ([(0,Ob [(X8 false a0)] 10),(1,Ob [(X8 true (Xa.mk 0 ([]:List X1) ([]:List Int) false ([]:List X1) (Xk.mk 0 0 0) false 0))] 10)]++opE q.1 2 1 (List.map (aI .i64) Xis)),3⟩) ?_ (λJ=>?_)
 ·
  rintro Xsr;rcases Xsr with ⟨_|_,Xtd⟩<;>(try obtain rfl:=Xtd rfl);all_goals
   refine X34 [] ?_;refine X4.round ?_;revert h;refine brI (λh16=>?_) λh16=>?_
   ·
    refine rnI [Bt,.el ((AV.ptr 0 0 1)),.el (aI .i64 (a0.Arg.length:Int)),Bt] ?_;intro h;refine X4.round ?_;revert h;refine brI (λh17=>?_) λh17=>?_
    ·
     refine rnI [Bt,.el ((AV.ptr 0 0 4)),.el (aI .i64 (a0.Where.length:Int)),Bt] ?_;intro h;refine X4.round ?_;revert h;exact λe=>oj e▸Xd [Bf] (k:=fi)
    refine bI λv18 h19=>rnI [Bt,.el ((AV.ptr 0 0 4)),.el (aI .i64 (a0.Where.length:Int)),Bf,.pure _ (AV.tup [(Lt (v18.1.map X0)),(aI .i64 v18.2)])] ?_;refine brI (λh20=>λe=>oj e▸Xd [Bt] (k:=fi)) λh20=>rnI [Bf] ?_;intro h;refine X4.round ?_;revert h;exact λe=>oj e▸Xd [Bf] (k:=fi)
   refine bI λv21 h22=>rnI [Bt,.el ((AV.ptr 0 0 1)),.el (aI .i64 (a0.Arg.length:Int)),Bf,.pure _ (AV.tup [(Lt (v21.1.map X0)),(aI .i64 v21.2)])] ?_;refine brI (λh23=>λe=>oj e▸Xd [Bt] (k:=fi)) λh23=>rnI [Bf] ?_;intro h;refine X4.round ?_;revert h;refine brI (λh24=>?_) λh24=>?_
   ·
    refine rnI [Bt,.el ((AV.ptr 0 0 4)),.el (aI .i64 (a0.Where.length:Int)),Bt] ?_;intro h;refine X4.round ?_;revert h;exact λe=>oj e▸Xd [Bf] (k:=fi)
   refine bI λv25 h26=>rnI [Bt,.el ((AV.ptr 0 0 4)),.el (aI .i64 (a0.Where.length:Int)),Bf,.pure _ (AV.tup [(Lt (v25.1.map X0)),(aI .i64 v25.2)])] ?_;refine brI (λh27=>λe=>oj e▸Xd [Bt] (k:=fi)) λh27=>rnI [Bf] ?_;intro h;refine X4.round ?_;revert h;exact λe=>oj e▸Xd [Bf] (k:=fi)
 clear h;revert h15;intro h;refine X4.inline X7 fn63 rfl rfl rfl rfl rfl trivial trivial rfl rfl ?_;revert h;refine brI (λq=>?_) λq=>?_
 ·
  intro h;have h10:a0.Sources=[]:=List.isEmpty_iff.1 q;refine X34 [] ?_;refine X4.eqNil X7 (may:=true) rfl rfl rfl rfl rfl rfl trivial (by simp[X6d, *]) λb11 qb11=>?_;cases b11
  ·
   obtain rfl:=oj h;refine X34 [Bf,.ne false] ?_;refine X4.back (by intro id h;cases h) rfl ?_;refine X4.denil 1 [AV.agg [(aI .u8 0),(Lt (List.map X0 ([]:List X1))),(Lt (List.map (aI .i64) ([]:List Int))),(aB false),(Lt (List.map X0 ([]:List X1))),(aI .u8 0),(aI .i64 0),(aI .i64 0),(aB false),(aI .u8 0)]] rfl rfl ?_;exact wkT [] ((J nbS))
  obtain rfl:=oj h;refine X34 [Bt] ?_;refine X4.back (by intro id h;cases h) rfl ?_;refine X4.denil 1 [AV.agg [(aI .u8 0),(Lt (List.map X0 ([]:List X1))),(Lt (List.map (aI .i64) ([]:List Int))),(aB false),(Lt (List.map X0 ([]:List X1))),(aI .u8 0),(aI .i64 0),(aI .i64 0),(aB false),(aI .u8 0)]] rfl rfl ?_;exact wkT [] ((J nbS))
 intro h;have h10:¬ (a0.Sources=[]):=(λe=>by rw[e] at q;cases q);refine X34 [] ?_;refine X4.eqNil X7 (may:=false) rfl rfl rfl rfl rfl rfl trivial (by simp[X6d, *]) λb12 qb12=>?_;obtain rfl:=qb12 rfl;revert h;refine bI λu13 h14=>?_;intro h;obtain rfl:=oj h;refine X34 [Bf,.via (Lt (List.map (aI .i64) a0.Sources))] (o:=by repeat' first|apply Ya|exact pcM|(refine X20 h14 rfl ?_;first|(simp<;>omega)|(simp[h3,h10]<;>omega))|(refine X0p h14 (by decide) ?_;first|(simp<;>omega)|(simp[h3,h10]<;>omega))|exact Xu) ?_;refine X4.back (by intro id h;cases h) rfl ?_;refine X4.denil 1 [AV.agg [(aI .u8 0),(Lt (List.map X0 ([]:List X1))),(Lt (List.map (aI .i64) ([]:List Int))),(aB false),(Lt (List.map X0 ([]:List X1))),(aI .u8 0),(aI .i64 0),(aI .i64 0),(aB false),(aI .u8 0)]] rfl rfl ?_;exact wkT [(2,3)] ((J nbF))⟩
instance Xo4:PCs Tryz.prog 19 (∀ (a0:Xa) (a1:Int) (r:Xa×Int),X6a a0 a1=some r->X06 Tryz.prog 19 [(X8 false a0),(aI .i64 a1)] (AV.tup [(X8 false r.1),(aI .i64 r.2)])):=⟨λa0 a1 r h=>by
 refine X06.sym X7 fn19 (nt:=62) rfl rfl ?_ okM;unfold X6a at h;revert h;refine bI λv1 h2=>brI (λh3=>bI λv4 h5=>λe=>oj e▸Xd [.pure _ (X8 true v1),Bt,.pure _ (AV.tup [(X8 false v4.1),(aI .i64 v4.2)])] (k:=fi)) λh3=>?_;refine brI (λh6=>?_) λh6=>?_
 ·
  refine brI (λh7=>λe=>oj e▸Xd [.pure _ (X8 true v1),Bf,Bt,.el (aI .i64 (a0.Where.length:Int)),Bt] (k:=fi)) λh7=>bI λv8 h9=>rnI [.pure _ (X8 true v1),Bf,Bt,.el (aI .i64 (a0.Where.length:Int)),Bf,.pure _ (AV.tup [(aI .i64 v8.1),(aB v8.2.1),(aI .i64 v8.2.2)])] ?_;refine brI (λh10=>λe=>oj e▸Xd [Bt] (k:=fi)) λh10=>bI λXpb h14=>rnI [Bf] ?_;intro h;refine X4.join (s':=⟨fr [(4,(AV.ptr 0 0 0)),(6,(AV.ptr 1 0 0))],hp ([(0,Ob [(X8 true (Xa.mk 0 ([]:List X1) ([]:List Int) false ([]:List X1) (Xk.mk 0 0 0) false 0))] 10),(1,Ob [(X8 true Xpb)] 10)]),2⟩) ?_ (λJ=>X4.cut ?_)
  ·
   revert h;exact λe=>oj e▸Xd [] (k:=fi)
  clear h;revert h14;refine brI (λh13=>?_) λh13=>?_
  ·
   intro h;obtain rfl:=oj h;refine X34 [Bt] ?_;refine X4.denil 1 [AV.agg [(aI .u8 0),(Lt (List.map X0 ([]:List X1))),(Lt (List.map (aI .i64) ([]:List Int))),(aB false),(Lt (List.map X0 ([]:List X1))),(aI .u8 0),(aI .i64 0),(aI .i64 0),(aB false),(aI .u8 0)]] rfl rfl ?_;refine X4.denil 2 [AV.agg [(aI .u8 v1.Agg),(Lt (v1.Arg.map X0)),(Lt (List.map (aI .i64) v1.Sources)),(aB v1.Join),(Lt (List.map X0 ([]:List X1))),(aI .u8 v1.Window.Kind),(aI .i64 v1.Window.Size),(aI .i64 v1.Window.Every),(aB v1.ByKey),(aI .u8 v1.Late)]] rfl rfl ?_;exact wkT [(0,1),(1,2)] (X4.glue J)
  intro h;obtain rfl:=oj h;refine X34 [Bf] ?_;refine X4.denil 1 [AV.agg [(aI .u8 0),(Lt (List.map X0 ([]:List X1))),(Lt (List.map (aI .i64) ([]:List Int))),(aB false),(Lt (List.map X0 ([]:List X1))),(aI .u8 0),(aI .i64 0),(aI .i64 0),(aB false),(aI .u8 0)]] rfl rfl ?_;exact wkT [(0,1),(1,2)] (X4.glue J)
 refine bI λXp8 h20=>rnI [.pure _ (X8 true v1),Bf,Bf] ?_;intro h;refine X4.join (s':=⟨fr [(4,(AV.ptr 0 0 0)),(6,(AV.ptr 1 0 0))],hp ([(0,Ob [(X8 true (Xa.mk 0 ([]:List X1) ([]:List Int) false ([]:List X1) (Xk.mk 0 0 0) false 0))] 10),(1,Ob [(X8 true Xp8)] 10)]),2⟩) ?_ (λJ=>X4.cut ?_)
 ·
  revert h;exact λe=>oj e▸Xd [] (k:=fi)
 clear h;revert h20;refine brI (λh18=>?_) λh18=>?_
 ·
  refine brI (λh19=>?_) λh19=>?_
  ·
   intro h;obtain rfl:=oj h;refine X34 [Bt,Bt] ?_;refine X4.denil 1 [AV.agg [(aI .u8 0),(Lt (List.map X0 ([]:List X1))),(Lt (List.map (aI .i64) ([]:List Int))),(aB false),(Lt (List.map X0 ([]:List X1))),(aI .u8 0),(aI .i64 0),(aI .i64 0),(aB false),(aI .u8 0)]] rfl rfl ?_;exact wkT [(0,1),(1,2)] (X4.glue J)
  intro h;obtain rfl:=oj h;refine X34 [Bt,Bf] ?_;refine X4.denil 1 [AV.agg [(aI .u8 0),(Lt (List.map X0 ([]:List X1))),(Lt (List.map (aI .i64) ([]:List Int))),(aB false),(Lt (List.map X0 ([]:List X1))),(aI .u8 0),(aI .i64 0),(aI .i64 0),(aB false),(aI .u8 0)]] rfl rfl ?_;exact wkT [(0,1),(1,2)] (X4.glue J)
 intro h;obtain rfl:=oj h;refine X34 [Bf] ?_;refine X4.denil 1 [AV.agg [(aI .u8 0),(Lt (List.map X0 ([]:List X1))),(Lt (List.map (aI .i64) ([]:List Int))),(aB false),(Lt (List.map X0 ([]:List X1))),(aI .u8 0),(aI .i64 0),(aI .i64 0),(aB false),(aI .u8 0)]] rfl rfl ?_;exact wkT [(0,1),(1,2)] (X4.glue J)⟩
theorem X6n {Q:Xi->St->Mu->Prop} {μ:Mu} (X0l:(List X1)) (X87:(List X1)) (hl:X0l.length<=140737488355328):∀ (xs:List X1) (k:Nat) (hx:X0l.drop k=xs) (o:X1k) (h:X0c X0l X87 xs k  = some o)
  (C0:o=X1k.x0->X4 Tryz.prog 26 0 Q (.exit (.exit 0)) [] ⟨fr [],hp ([]),0⟩ μ)
  (C1:o=X1k.x1->X4 Tryz.prog 26 0 Q (.exit .ret) [] ⟨fr [(4,(aB false))],hp ([]),0⟩ μ),
  X4 Tryz.prog 26 0 Q (.loop (X7j 0 (X3 Tryz.f38))) [] ⟨fr [(0,(Lf (X0l.map X0))),(1,(Lf (X87.map X0))),(12,(aI .i64 (X0l.length:Int))),(13,(aI .i64 (k:Int)))],hp ([]),0⟩ μ:=by
 intro xs
 induction xs with
 |nil =>
  intro k hx  o h C0 C1;have hk:=drop_nil hx;have hc:decide ((k:Int)<(X0l.length:Int))=false:=Yf om;rw[X0c] at h;refine X4.round ?_;revert h;exact λe=>Xd [Bf] (k:=wkT [] (C0  (oj e).symm))
 |cons x xs ih =>
  intro k hx  o h C0 C1;obtain⟨hk,hg,hx1⟩:=drop_cons hx;have hc:decide ((k:Int)<(X0l.length:Int))=true:=Yt om;rw[X0c] at h;refine X4.round ?_;revert h;refine bI λe11 h12=>?_;try have qh12:=Xm h12
  refine brI (λh13=>λe=>Xd [Bt,.el (X0 x),.el (X0 e11),Bt] (k:=wkT [] (C1  (oj e).symm))) λh13=>rnI [Bt,.el (X0 x),.el (X0 e11),Bf] ?_;intro h;exact wkT [] (ih (k+1) hx1  o h C0 C1)
instance Xfv:PCs Tryz.prog 38 (∀ (a0:(List X1)) (a1:(List X1)) (r:Bool),X19 a0 a1=some r->X06 Tryz.prog 38 [(Lf (a0.map X0)),(Lf (a1.map X0))] (aB r)):=⟨λa0 a1 r h=>by
 refine X06.sym X7 fn38 (nt:=26) rfl rfl ?_ okM;unfold X19 at h;revert h;refine brI (λh1=>λe=>oj e▸Xd [.el (aI .i64 (a0.length:Int)),.el (aI .i64 (a1.length:Int)),Bt] (k:=fi)) λh1=>bI λu2 h3=>?_;have qh3:=X1x h3;refine bI λo14 h15=>rnI [.el (aI .i64 (a0.length:Int)),.el (aI .i64 (a1.length:Int)),Bf,.el (aI .i64 (a0.length:Int))] ?_;intro h;refine wkT [] (X4.cut (X6n a0 a1 qh3 a0 0 (by simp) _ h15 ?_ ?_))
 ·
  intro eo14;subst eo14;refine X4.glue ?_;try dsimp only at h
  revert h;exact λe=>oj e▸Xd [] (k:=fi)
 intro eo14;subst eo14;refine X4.glue ?_;try dsimp only at h
 revert h;exact λe=>oj e▸Xd [] (k:=fi)⟩
instance Xo3:PCs Tryz.prog 20 (∀ (a0:Xa) (a1:Xa) (r:Bool),X69 a0 a1=some r->X06 Tryz.prog 20 [(X8 false a0),(X8 false a1)] (aB r)):=⟨λa0 a1 r h=>by
 refine X06.sym X7 fn20 (nt:=24) rfl rfl ?_ okM;unfold X69 at h;revert h;refine bI λj7_4 h14=>rnI [.stop 1] ?_;intro h;refine X4.join (s':=⟨fr [(4,(aB j7_4))],hp ([]),0⟩) ?_ (λJ=>X4.cut ?_)
 ·
  revert h;exact λe=>oj e▸Xd [] (k:=fi)
 clear h;revert h14;refine bI λv8 h9=>brI (λh10=>?_) λh10=>?_
 ·
  refine bI λv11 h12=>brI (λh13=>?_) λh13=>?_
  ·
   intro h;obtain rfl:=oj h;exact Xd [.pure _ (aB v8),Gt,Gt,Gt,Gt,Gt,.pure _ (aB v11),Gt,Gt,Gt,Gt,Gt] (o:=by repeat' first|apply Ya|exact pcM|exact fq (X6 h10 h13)|exact Xu) (k:=wkT [] (X4.glue J))
  intro h;obtain rfl:=oj h;exact Xd [.pure _ (aB v8),Gt,Gt,Gt,Gt,Gt,.pure _ (aB v11),Gf,Gf,Gf,Gf,Gf] (o:=by repeat' first|apply Ya|exact pcM|exact fq (X6 h10 h13)|exact Xu) (k:=wkT [] (X4.glue J))
 intro h;obtain rfl:=oj h;exact Xd [.pure _ (aB v8),Gf,Gf,Gf,Gf,Gf,Gf,Gf,Gf,Gf,Gf] (o:=by repeat' first|apply Ya|exact pcM|exact fq (X9 h10 rfl)|exact Xu) (k:=wkT [] (X4.glue J))⟩
instance Xnb:PCs Tryz.prog 9 (∀ (a0:Xa) (a1:Int) (r:Xa×Bool×Int),Xn a0 a1=some r->X06 Tryz.prog 9 [(X8 false a0),(aI .i64 a1)] (AV.tup [(X8 false r.1),(aB r.2.1),(aI .i64 r.2.2)])):=⟨λa0 a1 r h=>by
 refine X06.sym X7 fn9 (nt:=42) rfl rfl ?_ okM;unfold Xn at h;revert h;exact bI λv1 h2=>brI (λh3=>λe=>oj e▸Xd [.pure _ (AV.tup [(aI .i64 v1.1),(aI .i64 v1.2)]),Bt] (k:=fi)) λh3=>brI (λh4=>λe=>oj e▸Xd [.pure _ (AV.tup [(aI .i64 v1.1),(aI .i64 v1.2)]),Bf,Bt] (k:=fi)) λh4=>bI λv5 h6=>brI (λh7=>λe=>oj e▸Xd [.pure _ (AV.tup [(aI .i64 v1.1),(aI .i64 v1.2)]),Bf,Bf,.pure _ (AV.tup [(X8 false v5.1),(aI .i64 v5.2)]),Bt] (k:=fi)) λh7=>bI λv8 h9=>λe=>oj e▸Xd [.pure _ (AV.tup [(aI .i64 v1.1),(aI .i64 v1.2)]),Bf,Bf,.pure _ (AV.tup [(X8 false v5.1),(aI .i64 v5.2)]),Bf,.pure _ (aB v8)] (k:=fi)⟩
end Go.Av.Tryz