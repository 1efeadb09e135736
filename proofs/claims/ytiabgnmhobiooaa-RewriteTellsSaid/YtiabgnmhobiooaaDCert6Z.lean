/- Printed by decomp.py: that the program computes the functions. -/
import Derived.Test.YtiabgnmhobiooaaDCert5Z
set_option linter.all false

namespace Go.Av.Try
open Go.Proofs Go.D
set_option maxRecDepth 10000
set_option maxHeartbeats 40000000
theorem Xa9 {Q:Xr->St->Mu->Prop}  {rb rD:Nat} {rr:Loop} (rh1:rr.state=.ready) (rh2:rr.pending=none) (rh3:rr.params=(rfB 0 (Xe Try.f37)).1) (rh4:rr.assign=(rfB 0 (Xe Try.f37)).2.1) (rh5:rr.body=(rfB 0 (Xe Try.f37)).2.2) (Xi:(List X1)) (Xc3:(List X1)) (X8u:Int) (X6b:(List Bool)) (Xct:(List X1)) (Xfi:Nb Xc3):∀ (n:Nat) (Xe1:(List X9)) (X40:(List Int)) (o:X4z) (h:Xn Xi Xc3 X8u X6b Xct n Xe1 X40=some o)
  (C0:∀ (X9z:(List X1)) (X86:(List X9)) (X9k:Nb X9z),o=X4z.x0 X9z X86->X4 Try.prog 69 8 Q (.exit (.exit 0)) [] ⟨fr [],hp ([(0,Ob [(Lf (Xi.map X0))] 1),(1,Ob [(slE X9k.1 8 (X9z.map X0))] 1),(2,Ob [(aI .i64 X8u)] 1),(3,Ob [(Lt (X6b.map aB))] 1),(5,Ob [(AV.ref 9 0 (X86.length))] 1),(6,Ob [(Lf (Xct.map X0))] 1),(7,Ob [(AV.fn 55 [(AV.ptr 5 0 0)])] 1),(9,Ob (List.map (X6 true) X86) 2)]++opE X9k.1 8 5 (X9z.map X0)),10⟩ [(rb,MuE.loop rr 70 8 (fr [(1,(AV.ptr 0 0 0)),(2,(AV.ptr 1 0 0)),(3,(AV.ptr 2 0 0)),(4,(AV.ptr 3 0 0)),(6,(AV.ptr 5 0 0)),(26,(AV.fn 71 [(AV.ptr 6 0 0),(AV.ptr 7 0 0)]))])),(rD,MuE.blk (Go.Obj.deferred (some [])))]),
  X4 Try.prog 69 8 Q (.loop (X5l 0 (Xe Try.f71))) [] ⟨fr [(0,(AV.sc (.func (.yield rb) #[] #[]))),(1,(AV.ptr 6 0 0)),(2,(AV.ptr 7 0 0)),(4,(AV.ref 10 0 (X40.length)))],hp ([(0,Ob [(Lf (Xi.map X0))] 1),(1,Ob [(slE Xfi.1 8 (Xc3.map X0))] 1),(2,Ob [(aI .i64 X8u)] 1),(3,Ob [(Lt (X6b.map aB))] 1),(5,Ob [(AV.ref 9 0 (Xe1.length))] 1),(6,Ob [(Lf (Xct.map X0))] 1),(7,Ob [(AV.fn 55 [(AV.ptr 5 0 0)])] 1),(9,Ob (List.map (X6 true) Xe1) 2),(10,Ob (List.map (aI .i64) X40) 1)]++opE Xfi.1 8 5 (Xc3.map X0)),11⟩ [(rb,MuE.loop rr 70 8 (fr [(1,(AV.ptr 0 0 0)),(2,(AV.ptr 1 0 0)),(3,(AV.ptr 2 0 0)),(4,(AV.ptr 3 0 0)),(6,(AV.ptr 5 0 0)),(26,(AV.fn 71 [(AV.ptr 6 0 0),(AV.ptr 7 0 0)]))])),(rD,MuE.blk (Go.Obj.deferred (some [])))]:=by
 intro n
 induction n with
 |zero=>intro Xe1 X40 o h C0;cases h
 |succ n ih =>
  intro Xe1 X40 o h C0;rw[Xn] at h;rcases Xfi with ⟨_|_,Xq2⟩
  ·
   refine X4.round ?_;revert h;refine brI (λh207=>?_) λh207=>λe=>Xa [.el (aI .i64 (X40.length:Int)),Bf] (k:=wkT [] (C0 _ _  nbF (oj e).symm));refine bI λe208 h209=>?_;try have qh209:=Xf h209
   refine bI λm210 h211=>?_;obtain⟨qah211,qbh211,qch211,qh211⟩:=X2t h211;have qlh211:=X5a h211;refine bI λX93 h241=>rnI [.el (aI .i64 (X40.length:Int)),Bt,.el (aI .i64 (X40.length:Int)),.wrap,.el (aI .i64 e208),.ld (aI .i64 e208),.el (aI .i64 (X40.length:Int)),.wrap,.via (.ref 10 0 (m210.length))] (o:=by repeat' first|apply Ya|exact pcM|(simp at qah211 qbh211 qch211 ⊢;omega)|(simp at qah211 qbh211 qch211 qlh211 ⊢;omega)|(simp;done)|exact Xy) ?_;intro h;refine X4.joinOp (s':=⟨fr [(0,(AV.sc (.func (.yield rb) #[] #[]))),(1,(AV.ptr 6 0 0)),(2,(AV.ptr 7 0 0)),(4,(AV.ref 10 0 (m210.length))),(5,(aI .i64 e208)),(28,(aB true))],hp ([(0,Ob [(Lf (Xi.map X0))] 1),(1,Ob [(AV.ref 8 0 (Xc3.length))] 1),(2,Ob [(aI .i64 X8u)] 1),(3,Ob [(Lt (X6b.map aB))] 1),(5,Ob [(AV.ref 9 0 (X93.length))] 1),(6,Ob [(Lf (Xct.map X0))] 1),(7,Ob [(AV.fn 55 [(AV.ptr 5 0 0)])] 1),(8,Ob (Xc3.map X0) 5),(9,Ob (List.map (X6 true) X93) 2),(10,Ob (List.map (aI .i64) X40) 1)]),11⟩) ?_ (λJ=>?_)
   ·
    refine X29 [Bf] (o:=by repeat' first|apply Ya|exact pcM|(simp at qah211 qbh211 qch211 ⊢;omega)|(simp at qah211 qbh211 qch211 qlh211 ⊢;omega)|(simp;done)|exact Xy) ?_;refine X4.inline X8 Xw5 rfl rfl rfl rfl rfl trivial trivial rfl rfl ?_;revert h;refine bI λe244 h245=>?_;try have qh245:=Xf h245
    refine rnI [.el (X6 true e244),.ld (X6 true e244)] (o:=by repeat' first|apply Ya|exact pcM|(simp at qah211 qbh211 qch211 ⊢;omega)|(simp at qah211 qbh211 qch211 qlh211 ⊢;omega)|(simp;done)|exact Xy) ?_;intro h;refine X4.back (by intro id h;cases h) rfl ?_;revert h;refine brI (λh246=>?_) λh246=>?_
    ·
     refine rnI [Bt] (o:=by repeat' first|apply Ya|exact pcM|(simp at qah211 qbh211 qch211 ⊢;omega)|(simp at qah211 qbh211 qch211 qlh211 ⊢;omega)|(simp;done)|exact Xy) ?_;intro h;refine X4.trunc 10 (List.map (aI .i64) m210) rfl (X1w (f:=(aI .i64)) qh211) ?_;exact wkT [] (ih  _ _ o h C0)
    refine bI λe247 h248=>?_;try have qh248:=Xf h248
    refine bI λv249 h250=>brI (λh251=>?_) λh251=>?_
    ·
     refine bI λu252 h253=>rnI [Bf,.el (X0 e247),.pure _ (AV.tup [(aI .i64 v249.1),(aI .i64 v249.2)]),Bt,.el (X0 e247),.trunc 10 (List.map (aI .i64) m210),.no] (o:=by repeat' first|apply Ya|exact pcM|(simp at qah211 qbh211 qch211 ⊢;omega)|(simp at qah211 qbh211 qch211 qlh211 ⊢;omega)|(simp;done)|(refine X0s h253 rfl ?_;first|(simp<;>omega)|(simp[h207,h246,h251]<;>omega))|(refine Xw h253 (by decide) ?_;first|(simp<;>omega)|(simp[h207,h246,h251]<;>omega))|exact(X1w (f:=(aI .i64)) qh211)|exact Xy) ?_;intro h;exact wkT [(10,12)] (ih  _ _ o h C0)
    refine brI (λh254=>?_) λh254=>?_
    ·
     refine rnI [Bf,.el (X0 e247),.pure _ (AV.tup [(aI .i64 v249.1),(aI .i64 v249.2)]),Bf,Bt,.stop 11] (o:=by repeat' first|apply Ya|exact pcM|(simp at qah211 qbh211 qch211 ⊢;omega)|(simp at qah211 qbh211 qch211 qlh211 ⊢;omega)|(simp;done)|exact Xy) ?_;intro h;refine X4.trunc 10 (List.map (aI .i64) m210) rfl (X1w (f:=(aI .i64)) qh211) ?_;revert h;refine bI λu255 h256=>rnI [.el (X0 e247),.el (X0 e247),.no] (o:=by repeat' first|apply Ya|exact pcM|(simp at qah211 qbh211 qch211 ⊢;omega)|(simp at qah211 qbh211 qch211 qlh211 ⊢;omega)|(simp;done)|(refine X0s h256 rfl ?_;first|(simp<;>omega)|(simp[h207,h246,h251,h254]<;>omega))|(refine Xw h256 (by decide) ?_;first|(simp<;>omega)|(simp[h207,h246,h251,h254]<;>omega))|exact Xy) ?_;intro h;exact wkT [(10,23)] (ih  _ _ o h C0)
    refine rnI [Bf,.el (X0 e247),.pure _ (AV.tup [(aI .i64 v249.1),(aI .i64 v249.2)]),Bf,Bf] (o:=by repeat' first|apply Ya|exact pcM|(simp at qah211 qbh211 qch211 ⊢;omega)|(simp at qah211 qbh211 qch211 qlh211 ⊢;omega)|(simp;done)|exact Xy) ?_;intro h;refine X4.trunc 10 (List.map (aI .i64) m210) rfl (X1w (f:=(aI .i64)) qh211) ?_;exact wkT [] (ih  _ _ o h C0)
   clear h;revert h241;intro h;refine X4.yield rfl rfl rfl rfl rfl trivial trivial (.head _) rh1 rh2 rh3 rh4 rh5 rfl rfl ?_;refine X29 [] (o:=by repeat' first|apply Ya|exact pcM|(simp at qah211 qbh211 qch211 ⊢;omega)|(simp at qah211 qbh211 qch211 qlh211 ⊢;omega)|(simp;done)|exact Xy) ?_;refine X4.asg ?_;revert h;refine bI λv227 h228=>brI (λh229=>?_) λh229=>?_
   ·
    intro h;cases h
   refine bI λv230 h231=>rnI [.pure _ (AV.tup [(Lt (v227.1.map X0)),(aI .i64 v227.2)]),Bf,.pure _ (AV.tup [(aI .i64 v230.1),(aB v230.2.1),(aI .i64 v230.2.2)])] (o:=by repeat' first|apply Ya|exact pcM|(simp at qah211 qbh211 qch211 ⊢;omega)|(simp at qah211 qbh211 qch211 qlh211 ⊢;omega)|(simp;done)|exact Xy) ?_;refine brI (λh232=>?_) λh232=>?_
   ·
    refine bI λe233 h234=>?_;try have qh234:=Xf h234
    refine bI λe235 h236=>?_;try have qh236:=Xf h236
    refine bI λv237 h238=>bI λe239 h240=>?_;try have qh240:=Xf h240
    intro h;obtain rfl:=oj h;refine X29 [Bt,.el (aB e233),.el (X0 e235),.pure _ (X6 true v237),.el (X6 true e239),.ld (X6 true e239)] (o:=by repeat' first|apply Ya|exact pcM|(simp at qah211 qbh211 qch211 ⊢;omega)|(simp at qah211 qbh211 qch211 qlh211 ⊢;omega)|(simp;done)|exact(List.getElem?_set_self (by have hq:=X5p h240;simp;omega)).trans rfl|exact Xy) ?_;refine X4.rndEnd ?_;exact wkT [] (J)
   intro h;obtain rfl:=oj h;refine X29 [Bf] (o:=by repeat' first|apply Ya|exact pcM|(simp at qah211 qbh211 qch211 ⊢;omega)|(simp at qah211 qbh211 qch211 qlh211 ⊢;omega)|(simp;done)|exact Xy) ?_;refine X4.rndEnd ?_;exact wkT [] (J)
  obtain rfl:=Xq2 rfl;refine X4.round ?_;revert h;refine brI (λh257=>?_) λh257=>λe=>Xa [.el (aI .i64 (X40.length:Int)),Bf] (k:=wkT [] (C0 _ _  nbS (oj e).symm));refine bI λe258 h259=>?_;try have qh259:=Xf h259
  refine bI λm260 h261=>?_;obtain⟨qah261,qbh261,qch261,qh261⟩:=X2t h261;have qlh261:=X5a h261;refine bI λXme h291=>rnI [.el (aI .i64 (X40.length:Int)),Bt,.el (aI .i64 (X40.length:Int)),.wrap,.el (aI .i64 e258),.ld (aI .i64 e258),.el (aI .i64 (X40.length:Int)),.wrap,.via (.ref 10 0 (m260.length))] (o:=by repeat' first|apply Ya|exact pcM|(simp at qah261 qbh261 qch261 ⊢;omega)|(simp at qah261 qbh261 qch261 qlh261 ⊢;omega)|(simp;done)|exact Xy) ?_;intro h;refine X4.joinOp (s':=⟨fr [(0,(AV.sc (.func (.yield rb) #[] #[]))),(1,(AV.ptr 6 0 0)),(2,(AV.ptr 7 0 0)),(4,(AV.ref 10 0 (m260.length))),(5,(aI .i64 e258)),(28,(aB true))],hp ([(0,Ob [(Lf (Xi.map X0))] 1),(1,Ob [AV.nils] 1),(2,Ob [(aI .i64 X8u)] 1),(3,Ob [(Lt (X6b.map aB))] 1),(5,Ob [(AV.ref 9 0 (Xme.length))] 1),(6,Ob [(Lf (Xct.map X0))] 1),(7,Ob [(AV.fn 55 [(AV.ptr 5 0 0)])] 1),(9,Ob (List.map (X6 true) Xme) 2),(10,Ob (List.map (aI .i64) X40) 1)]),11⟩) ?_ (λJ=>?_)
  ·
   refine X29 [Bf] (o:=by repeat' first|apply Ya|exact pcM|(simp at qah261 qbh261 qch261 ⊢;omega)|(simp at qah261 qbh261 qch261 qlh261 ⊢;omega)|(simp;done)|exact Xy) ?_;refine X4.inline X8 Xw5 rfl rfl rfl rfl rfl trivial trivial rfl rfl ?_;revert h;refine bI λe294 h295=>?_;try have qh295:=Xf h295
   refine rnI [.el (X6 true e294),.ld (X6 true e294)] (o:=by repeat' first|apply Ya|exact pcM|(simp at qah261 qbh261 qch261 ⊢;omega)|(simp at qah261 qbh261 qch261 qlh261 ⊢;omega)|(simp;done)|exact Xy) ?_;intro h;refine X4.back (by intro id h;cases h) rfl ?_;revert h;refine brI (λh296=>?_) λh296=>?_
   ·
    refine rnI [Bt] (o:=by repeat' first|apply Ya|exact pcM|(simp at qah261 qbh261 qch261 ⊢;omega)|(simp at qah261 qbh261 qch261 qlh261 ⊢;omega)|(simp;done)|exact Xy) ?_;intro h;refine X4.trunc 10 (List.map (aI .i64) m260) rfl (X1w (f:=(aI .i64)) qh261) ?_;exact wkT [] (ih  _ _ o h C0)
   refine bI λe297 h298=>?_;try have qh298:=Xf h298
   refine bI λv299 h300=>brI (λh301=>?_) λh301=>?_
   ·
    refine bI λu302 h303=>rnI [Bf,.el (X0 e297),.pure _ (AV.tup [(aI .i64 v299.1),(aI .i64 v299.2)]),Bt,.el (X0 e297),.trunc 10 (List.map (aI .i64) m260),.no] (o:=by repeat' first|apply Ya|exact pcM|(simp at qah261 qbh261 qch261 ⊢;omega)|(simp at qah261 qbh261 qch261 qlh261 ⊢;omega)|(simp;done)|(refine X0s h303 rfl ?_;first|(simp<;>omega)|(simp[h257,h296,h301]<;>omega))|(refine Xw h303 (by decide) ?_;first|(simp<;>omega)|(simp[h257,h296,h301]<;>omega))|exact(X1w (f:=(aI .i64)) qh261)|exact Xy) ?_;intro h;exact wkT [(10,12)] (ih  _ _ o h C0)
   refine brI (λh304=>?_) λh304=>?_
   ·
    refine rnI [Bf,.el (X0 e297),.pure _ (AV.tup [(aI .i64 v299.1),(aI .i64 v299.2)]),Bf,Bt,.stop 11] (o:=by repeat' first|apply Ya|exact pcM|(simp at qah261 qbh261 qch261 ⊢;omega)|(simp at qah261 qbh261 qch261 qlh261 ⊢;omega)|(simp;done)|exact Xy) ?_;intro h;refine X4.trunc 10 (List.map (aI .i64) m260) rfl (X1w (f:=(aI .i64)) qh261) ?_;revert h;refine bI λu305 h306=>rnI [.el (X0 e297),.el (X0 e297),.no] (o:=by repeat' first|apply Ya|exact pcM|(simp at qah261 qbh261 qch261 ⊢;omega)|(simp at qah261 qbh261 qch261 qlh261 ⊢;omega)|(simp;done)|(refine X0s h306 rfl ?_;first|(simp<;>omega)|(simp[h257,h296,h301,h304]<;>omega))|(refine Xw h306 (by decide) ?_;first|(simp<;>omega)|(simp[h257,h296,h301,h304]<;>omega))|exact Xy) ?_;intro h;exact wkT [(10,23)] (ih  _ _ o h C0)
   refine rnI [Bf,.el (X0 e297),.pure _ (AV.tup [(aI .i64 v299.1),(aI .i64 v299.2)]),Bf,Bf] (o:=by repeat' first|apply Ya|exact pcM|(simp at qah261 qbh261 qch261 ⊢;omega)|(simp at qah261 qbh261 qch261 qlh261 ⊢;omega)|(simp;done)|exact Xy) ?_;intro h;refine X4.trunc 10 (List.map (aI .i64) m260) rfl (X1w (f:=(aI .i64)) qh261) ?_;exact wkT [] (ih  _ _ o h C0)
  clear h;revert h291;intro h;refine X4.yield rfl rfl rfl rfl rfl trivial trivial (.head _) rh1 rh2 rh3 rh4 rh5 rfl rfl ?_;refine X29 [] (o:=by repeat' first|apply Ya|exact pcM|(simp at qah261 qbh261 qch261 ⊢;omega)|(simp at qah261 qbh261 qch261 qlh261 ⊢;omega)|(simp;done)|exact Xy) ?_;refine X4.asg ?_;revert h;refine bI λv277 h278=>brI (λh279=>?_) λh279=>?_
  ·
   intro h;cases h
  refine bI λv280 h281=>rnI [.pure _ (AV.tup [(Lt (v277.1.map X0)),(aI .i64 v277.2)]),Bf,.pure _ (AV.tup [(aI .i64 v280.1),(aB v280.2.1),(aI .i64 v280.2.2)])] (o:=by repeat' first|apply Ya|exact pcM|(simp at qah261 qbh261 qch261 ⊢;omega)|(simp at qah261 qbh261 qch261 qlh261 ⊢;omega)|(simp;done)|exact Xy) ?_;refine brI (λh282=>?_) λh282=>?_
  ·
   refine bI λe283 h284=>?_;try have qh284:=Xf h284
   refine bI λe285 h286=>?_;try have qh286:=Xf h286
   refine bI λv287 h288=>bI λe289 h290=>?_;try have qh290:=Xf h290
   intro h;obtain rfl:=oj h;refine X29 [Bt,.el (aB e283),.el (X0 e285),.pure _ (X6 true v287),.el (X6 true e289),.ld (X6 true e289)] (o:=by repeat' first|apply Ya|exact pcM|(simp at qah261 qbh261 qch261 ⊢;omega)|(simp at qah261 qbh261 qch261 qlh261 ⊢;omega)|(simp;done)|exact(List.getElem?_set_self (by have hq:=X5p h290;simp;omega)).trans rfl|exact Xy) ?_;refine X4.rndEnd ?_;exact wkT [] (J)
  intro h;obtain rfl:=oj h;refine X29 [Bf] (o:=by repeat' first|apply Ya|exact pcM|(simp at qah261 qbh261 qch261 ⊢;omega)|(simp at qah261 qbh261 qch261 qlh261 ⊢;omega)|(simp;done)|exact Xy) ?_;refine X4.rndEnd ?_;exact wkT [] (J)
instance Xq8:PCs Try.prog 37 (∀ (a0:(List X1)) (r:(List X1)×Int),X2z a0=some r->X0f Try.prog 37 [(Lf (a0.map X0))] (AV.tup [(Lt (r.1.map X0)),(aI .i64 r.2)])):=⟨λa0 r h=>by
 refine X0f.sym X8 Xy2 (nt:=70) rfl rfl ?_ okM;unfold X2z at h;revert h;refine bI λv1 h2=>brI (λh3=>λe=>oj e▸Xa [.pure _ (AV.tup [(Lt (v1.1.map aB)),(aI .i64 v1.2)]),Bt] (k:=fi)) λh3=>bI λu4 h5=>?_;have qh5:=Xm2 h5;refine rnI [.pure _ (AV.tup [(Lt (v1.1.map aB)),(aI .i64 v1.2)]),Bf,.el (aI .i64 (a0.length:Int))] (o:=by repeat' first|apply Ya|exact pcM|exact(Int.le_trans qh5.2.2 (by decide))|exact om|exact Xy) ?_;intro h;refine X4.inline X8 Xxl rfl rfl rfl rfl rfl trivial trivial rfl rfl ?_;refine X29 [] ?_;refine X4.back (by intro id h;cases h) rfl ?_;refine X29 [] ?_;refine X4.denil 4 (List.map (X6 true) (List.replicate (Int.toNat (a0.length:Int)) (X9.mk ([]:List X1) false))) rfl (by rw[List.map_replicate,List.map_replicate];rfl) ?_;refine X4.keepL [1,2,3,4,6,26] ?_;refine X4.rangeFunc rfl trivial Xx5 rfl rfl rfl ?_;intro rb rD rr rh1 rh2 rh3 rh4 rh5;revert h;refine bI λo307 h308=>rnI [.el (aI .i64 (a0.length:Int)),.wrap] ?_;intro h;refine wkT [(9,4),(10,8)] (X4.cut (Xa9 rh1 rh2 rh3 rh4 rh5 a0 ([]:List X1) 0 v1.1 a0 nbS _ _ _ _ h308 ?_));intro X9z X86 X9k eo307;subst eo307;refine X4.glue ?_;try dsimp only at h
 rcases X9k with ⟨_|_,Xk8⟩<;>(try obtain rfl:=Xk8 rfl);all_goals
  refine X29 [] ?_;refine X4.rfEnd (by intro id h;cases h) ?_;revert h;exact bI λv309 h310=>λe=>oj e▸Xa [.el (aI .i64 (a0.length:Int)),.wrap,.pure [(Lf (a0.map X0)),(Lf (List.map (X6 false) X86)),(aI .i64 (IntKind.i64.wrap ((a0.length:Int) - 1)))] (AV.tup [(Lt (v309.1.map X0)),(aI .i64 v309.2)])] (o:=by repeat' first|apply Ya|exact pcM|exact(X2j.lent (Xeh FU _ _ _ _ h310) (cc (X1m (X0c Xz a0)) (cc (Xnf (f:=(X6 true)) (g:=(X6 false)) (l:=X86) rfl (by first|rfl|(simp;done)|(simp;rfl)|(simp[h3];done)|(simp[h3];rfl)) (by first|rfl|(simp;done)|(simp;omega)|(simp[h3];done)|(simp[h3];omega)) (λ_=>rfl) (λx=>X7g X1h)) (cc (Xjr (by first|rfl|(simp[*];done))) cn))) (Xqy (X0q (X5x (X0c Xz _)) (X0q .sc X61))))|exact Xy) (k:=fi)⟩
instance Xol:PCs Try.prog 23 (∀ (a0:X2) (r:X2×Int),X5n a0=some r->X0f Try.prog 23 [(X7 false a0)] (AV.tup [(X7 false r.1),(aI .i64 r.2)])):=⟨λa0 r h=>by
 refine X0f.sym X8 Xye (nt:=52) rfl rfl ?_ okM;unfold X5n at h;revert h;refine bI λv1 h2=>brI (λh3=>λe=>oj e▸Xa [.pure _ (AV.tup [(aI .i64 v1.1),(aI .i64 v1.2)]),Bt] (k:=fi)) λh3=>bI λXgp h15=>rnI [.pure _ (AV.tup [(aI .i64 v1.1),(aI .i64 v1.2)]),Bf] ?_;intro h;refine X4.joinOpF (λ(q:Nb Xgp)=>⟨fr [(1,(AV.ptr 0 0 0)),(2,(AV.ptr 1 0 0)),(21,(slE q.1 2 (List.map (aI .i64) Xgp)))],hp ([(0,Ob [(X7 false a0)] 10),(1,Ob [(X7 true (X2.mk 0 ([]:List X1) ([]:List Int) false ([]:List X1) (X3.mk 0 0 0) false 0))] 10)]++opE q.1 2 1 (List.map (aI .i64) Xgp)),3⟩) ?_ (λJ=>?_)
 ·
  rintro Xpl;rcases Xpl with ⟨_|_,Xq3⟩<;>(try obtain rfl:=Xq3 rfl);all_goals
   refine X29 [] ?_;refine X4.round ?_;revert h;refine brI (λh16=>?_) λh16=>?_
   ·
    refine rnI [Bt,.el ((AV.ptr 0 0 1)),.el (aI .i64 (a0.Arg.length:Int)),Bt] ?_;intro h;refine X4.round ?_;revert h;refine brI (λh17=>?_) λh17=>?_
    ·
     refine rnI [Bt,.el ((AV.ptr 0 0 4)),.el (aI .i64 (a0.Where.length:Int)),Bt] ?_;intro h;refine X4.round ?_;revert h;exact λe=>oj e▸Xa [Bf] (k:=fi)
    refine bI λv18 h19=>rnI [Bt,.el ((AV.ptr 0 0 4)),.el (aI .i64 (a0.Where.length:Int)),Bf,.pure _ (AV.tup [(Lt (v18.1.map X0)),(aI .i64 v18.2)])] ?_;refine brI (λh20=>λe=>oj e▸Xa [Bt] (k:=fi)) λh20=>rnI [Bf] ?_;intro h;refine X4.round ?_;revert h;exact λe=>oj e▸Xa [Bf] (k:=fi)
   refine bI λv21 h22=>rnI [Bt,.el ((AV.ptr 0 0 1)),.el (aI .i64 (a0.Arg.length:Int)),Bf,.pure _ (AV.tup [(Lt (v21.1.map X0)),(aI .i64 v21.2)])] ?_;refine brI (λh23=>λe=>oj e▸Xa [Bt] (k:=fi)) λh23=>rnI [Bf] ?_;intro h;refine X4.round ?_;revert h;refine brI (λh24=>?_) λh24=>?_
   ·
    refine rnI [Bt,.el ((AV.ptr 0 0 4)),.el (aI .i64 (a0.Where.length:Int)),Bt] ?_;intro h;refine X4.round ?_;revert h;exact λe=>oj e▸Xa [Bf] (k:=fi)
   refine bI λv25 h26=>rnI [Bt,.el ((AV.ptr 0 0 4)),.el (aI .i64 (a0.Where.length:Int)),Bf,.pure _ (AV.tup [(Lt (v25.1.map X0)),(aI .i64 v25.2)])] ?_;refine brI (λh27=>λe=>oj e▸Xa [Bt] (k:=fi)) λh27=>rnI [Bf] ?_;intro h;refine X4.round ?_;revert h;exact λe=>oj e▸Xa [Bf] (k:=fi)
 clear h;revert h15;intro h;refine X4.inline X8 Xw6 rfl rfl rfl rfl rfl trivial trivial rfl rfl ?_;revert h;refine brI (λq=>?_) λq=>?_
 ·
  intro h;have h10:a0.Sources=[]:=List.isEmpty_iff.1 q;refine X29 [] ?_;refine X4.eqNil X8 (may:=true) rfl rfl rfl rfl rfl rfl trivial (by simp[X7a, *]) λb11 qb11=>?_;cases b11
  ·
   obtain rfl:=oj h;refine X29 [Bf,.ne false] ?_;refine X4.back (by intro id h;cases h) rfl ?_;refine X4.denil 1 [AV.agg [(aI .u8 0),(Lt (List.map X0 ([]:List X1))),(Lt (List.map (aI .i64) ([]:List Int))),(aB false),(Lt (List.map X0 ([]:List X1))),(aI .u8 0),(aI .i64 0),(aI .i64 0),(aB false),(aI .u8 0)]] rfl rfl ?_;exact wkT [] ((J nbS))
  obtain rfl:=oj h;refine X29 [Bt] ?_;refine X4.back (by intro id h;cases h) rfl ?_;refine X4.denil 1 [AV.agg [(aI .u8 0),(Lt (List.map X0 ([]:List X1))),(Lt (List.map (aI .i64) ([]:List Int))),(aB false),(Lt (List.map X0 ([]:List X1))),(aI .u8 0),(aI .i64 0),(aI .i64 0),(aB false),(aI .u8 0)]] rfl rfl ?_;exact wkT [] ((J nbS))
 intro h;have h10:¬ (a0.Sources=[]):=(λe=>by rw[e] at q;cases q);refine X29 [] ?_;refine X4.eqNil X8 (may:=false) rfl rfl rfl rfl rfl rfl trivial (by simp[X7a, *]) λb12 qb12=>?_;obtain rfl:=qb12 rfl;revert h;refine bI λu13 h14=>?_;intro h;obtain rfl:=oj h;refine X29 [Bf,.via (Lt (List.map (aI .i64) a0.Sources))] (o:=by repeat' first|apply Ya|exact pcM|(refine X0s h14 rfl ?_;first|(simp<;>omega)|(simp[h3,h10]<;>omega))|(refine Xw h14 (by decide) ?_;first|(simp<;>omega)|(simp[h3,h10]<;>omega))|exact Xy) ?_;refine X4.back (by intro id h;cases h) rfl ?_;refine X4.denil 1 [AV.agg [(aI .u8 0),(Lt (List.map X0 ([]:List X1))),(Lt (List.map (aI .i64) ([]:List Int))),(aB false),(Lt (List.map X0 ([]:List X1))),(aI .u8 0),(aI .i64 0),(aI .i64 0),(aB false),(aI .u8 0)]] rfl rfl ?_;exact wkT [(2,3)] ((J nbF))⟩
instance Xlf:PCs Try.prog 12 (∀ (a0:X2) (a1:Int) (r:X2×Int),X5w a0 a1=some r->X0f Try.prog 12 [(X7 false a0),(aI .i64 a1)] (AV.tup [(X7 false r.1),(aI .i64 r.2)])):=⟨λa0 a1 r h=>by
 refine X0f.sym X8 Xyp (nt:=62) rfl rfl ?_ okM;unfold X5w at h;revert h;refine bI λv1 h2=>brI (λh3=>bI λv4 h5=>λe=>oj e▸Xa [.pure _ (X7 true v1),Bt,.pure _ (AV.tup [(X7 false v4.1),(aI .i64 v4.2)])] (k:=fi)) λh3=>?_;refine brI (λh6=>?_) λh6=>?_
 ·
  refine brI (λh7=>λe=>oj e▸Xa [.pure _ (X7 true v1),Bf,Bt,.el (aI .i64 (a0.Where.length:Int)),Bt] (k:=fi)) λh7=>bI λv8 h9=>rnI [.pure _ (X7 true v1),Bf,Bt,.el (aI .i64 (a0.Where.length:Int)),Bf,.pure _ (AV.tup [(aI .i64 v8.1),(aB v8.2.1),(aI .i64 v8.2.2)])] ?_;refine brI (λh10=>λe=>oj e▸Xa [Bt] (k:=fi)) λh10=>bI λXml h14=>rnI [Bf] ?_;intro h;refine X4.join (s':=⟨fr [(4,(AV.ptr 0 0 0)),(6,(AV.ptr 1 0 0))],hp ([(0,Ob [(X7 true (X2.mk 0 ([]:List X1) ([]:List Int) false ([]:List X1) (X3.mk 0 0 0) false 0))] 10),(1,Ob [(X7 true Xml)] 10)]),2⟩) ?_ (λJ=>X4.cut ?_)
  ·
   revert h;exact λe=>oj e▸Xa [] (k:=fi)
  clear h;revert h14;refine brI (λh13=>?_) λh13=>?_
  ·
   intro h;obtain rfl:=oj h;refine X29 [Bt] ?_;refine X4.denil 1 [AV.agg [(aI .u8 0),(Lt (List.map X0 ([]:List X1))),(Lt (List.map (aI .i64) ([]:List Int))),(aB false),(Lt (List.map X0 ([]:List X1))),(aI .u8 0),(aI .i64 0),(aI .i64 0),(aB false),(aI .u8 0)]] rfl rfl ?_;refine X4.denil 2 [AV.agg [(aI .u8 v1.Agg),(Lt (v1.Arg.map X0)),(Lt (List.map (aI .i64) v1.Sources)),(aB v1.Join),(Lt (List.map X0 ([]:List X1))),(aI .u8 v1.Window.Kind),(aI .i64 v1.Window.Size),(aI .i64 v1.Window.Every),(aB v1.ByKey),(aI .u8 v1.Late)]] rfl rfl ?_;exact wkT [(0,1),(1,2)] (X4.glue J)
  intro h;obtain rfl:=oj h;refine X29 [Bf] ?_;refine X4.denil 1 [AV.agg [(aI .u8 0),(Lt (List.map X0 ([]:List X1))),(Lt (List.map (aI .i64) ([]:List Int))),(aB false),(Lt (List.map X0 ([]:List X1))),(aI .u8 0),(aI .i64 0),(aI .i64 0),(aB false),(aI .u8 0)]] rfl rfl ?_;exact wkT [(0,1),(1,2)] (X4.glue J)
 refine bI λXmj h20=>rnI [.pure _ (X7 true v1),Bf,Bf] ?_;intro h;refine X4.join (s':=⟨fr [(4,(AV.ptr 0 0 0)),(6,(AV.ptr 1 0 0))],hp ([(0,Ob [(X7 true (X2.mk 0 ([]:List X1) ([]:List Int) false ([]:List X1) (X3.mk 0 0 0) false 0))] 10),(1,Ob [(X7 true Xmj)] 10)]),2⟩) ?_ (λJ=>X4.cut ?_)
 ·
  revert h;exact λe=>oj e▸Xa [] (k:=fi)
 clear h;revert h20;refine brI (λh18=>?_) λh18=>?_
 ·
  refine brI (λh19=>?_) λh19=>?_
  ·
   intro h;obtain rfl:=oj h;refine X29 [Bt,Bt] ?_;refine X4.denil 1 [AV.agg [(aI .u8 0),(Lt (List.map X0 ([]:List X1))),(Lt (List.map (aI .i64) ([]:List Int))),(aB false),(Lt (List.map X0 ([]:List X1))),(aI .u8 0),(aI .i64 0),(aI .i64 0),(aB false),(aI .u8 0)]] rfl rfl ?_;exact wkT [(0,1),(1,2)] (X4.glue J)
  intro h;obtain rfl:=oj h;refine X29 [Bt,Bf] ?_;refine X4.denil 1 [AV.agg [(aI .u8 0),(Lt (List.map X0 ([]:List X1))),(Lt (List.map (aI .i64) ([]:List Int))),(aB false),(Lt (List.map X0 ([]:List X1))),(aI .u8 0),(aI .i64 0),(aI .i64 0),(aB false),(aI .u8 0)]] rfl rfl ?_;exact wkT [(0,1),(1,2)] (X4.glue J)
 intro h;obtain rfl:=oj h;refine X29 [Bf] ?_;refine X4.denil 1 [AV.agg [(aI .u8 0),(Lt (List.map X0 ([]:List X1))),(Lt (List.map (aI .i64) ([]:List Int))),(aB false),(Lt (List.map X0 ([]:List X1))),(aI .u8 0),(aI .i64 0),(aI .i64 0),(aB false),(aI .u8 0)]] rfl rfl ?_;exact wkT [(0,1),(1,2)] (X4.glue J)⟩
theorem X6c {Q:Xr->St->Mu->Prop} {μ:Mu} (X0a:(List X1)) (X5r:(List X1)) (hl:X0a.length<=140737488355328):∀ (xs:List X1) (k:Nat) (hx:X0a.drop k=xs) (o:X1a) (h:X08 X0a X5r xs k  = some o)
  (C0:o=X1a.x0->X4 Try.prog 26 0 Q (.exit (.exit 0)) [] ⟨fr [],hp ([]),0⟩ μ)
  (C1:o=X1a.x1->X4 Try.prog 26 0 Q (.exit .ret) [] ⟨fr [(4,(aB false))],hp ([]),0⟩ μ),
  X4 Try.prog 26 0 Q (.loop (X5l 0 (Xe Try.f25))) [] ⟨fr [(0,(Lf (X0a.map X0))),(1,(Lf (X5r.map X0))),(12,(aI .i64 (X0a.length:Int))),(13,(aI .i64 (k:Int)))],hp ([]),0⟩ μ:=by
 intro xs
 induction xs with
 |nil =>
  intro k hx  o h C0 C1;have hk:=drop_nil hx;have hc:decide ((k:Int)<(X0a.length:Int))=false:=Yf om;rw[X08] at h;refine X4.round ?_;revert h;exact λe=>Xa [Bf] (k:=wkT [] (C0  (oj e).symm))
 |cons x xs ih =>
  intro k hx  o h C0 C1;obtain⟨hk,hg,hx1⟩:=drop_cons hx;have hc:decide ((k:Int)<(X0a.length:Int))=true:=Yt om;rw[X08] at h;refine X4.round ?_;revert h;refine bI λe11 h12=>?_;try have qh12:=Xf h12
  refine brI (λh13=>λe=>Xa [Bt,.el (X0 x),.el (X0 e11),Bt] (k:=wkT [] (C1  (oj e).symm))) λh13=>rnI [Bt,.el (X0 x),.el (X0 e11),Bf] ?_;intro h;exact wkT [] (ih (k+1) hx1  o h C0 C1)
instance Xe4:PCs Try.prog 25 (∀ (a0:(List X1)) (a1:(List X1)) (r:Bool),X12 a0 a1=some r->X0f Try.prog 25 [(Lf (a0.map X0)),(Lf (a1.map X0))] (aB r)):=⟨λa0 a1 r h=>by
 refine X0f.sym X8 Xyc (nt:=26) rfl rfl ?_ okM;unfold X12 at h;revert h;refine brI (λh1=>λe=>oj e▸Xa [.el (aI .i64 (a0.length:Int)),.el (aI .i64 (a1.length:Int)),Bt] (k:=fi)) λh1=>bI λu2 h3=>?_;have qh3:=X1n h3;refine bI λo14 h15=>rnI [.el (aI .i64 (a0.length:Int)),.el (aI .i64 (a1.length:Int)),Bf,.el (aI .i64 (a0.length:Int))] ?_;intro h;refine wkT [] (X4.cut (X6c a0 a1 qh3 a0 0 (by simp) _ h15 ?_ ?_))
 ·
  intro eo14;subst eo14;refine X4.glue ?_;try dsimp only at h
  revert h;exact λe=>oj e▸Xa [] (k:=fi)
 intro eo14;subst eo14;refine X4.glue ?_;try dsimp only at h
 revert h;exact λe=>oj e▸Xa [] (k:=fi)⟩
instance Xle:PCs Try.prog 13 (∀ (a0:X2) (a1:X2) (r:Bool),X5v a0 a1=some r->X0f Try.prog 13 [(X7 false a0),(X7 false a1)] (aB r)):=⟨λa0 a1 r h=>by
 refine X0f.sym X8 Xyo (nt:=24) rfl rfl ?_ okM;unfold X5v at h;revert h;refine bI λXvk h14=>rnI [.stop 1] ?_;intro h;refine X4.join (s':=⟨fr [(4,(aB Xvk))],hp ([]),0⟩) ?_ (λJ=>X4.cut ?_)
 ·
  revert h;exact λe=>oj e▸Xa [] (k:=fi)
 clear h;revert h14;refine bI λv8 h9=>brI (λh10=>?_) λh10=>?_
 ·
  refine bI λv11 h12=>brI (λh13=>?_) λh13=>?_
  ·
   intro h;obtain rfl:=oj h;exact Xa [.pure _ (aB v8),Gt,Gt,Gt,Gt,Gt,.pure _ (aB v11),Gt,Gt,Gt,Gt,Gt] (o:=by repeat' first|apply Ya|exact pcM|exact fq (Xl h10 h13)|exact Xy) (k:=wkT [] (X4.glue J))
  intro h;obtain rfl:=oj h;exact Xa [.pure _ (aB v8),Gt,Gt,Gt,Gt,Gt,.pure _ (aB v11),Gf,Gf,Gf,Gf,Gf] (o:=by repeat' first|apply Ya|exact pcM|exact fq (Xl h10 h13)|exact Xy) (k:=wkT [] (X4.glue J))
 intro h;obtain rfl:=oj h;exact Xa [.pure _ (aB v8),Gf,Gf,Gf,Gf,Gf,Gf,Gf,Gf,Gf,Gf] (o:=by repeat' first|apply Ya|exact pcM|exact fq (Xo h10 rfl)|exact Xy) (k:=wkT [] (X4.glue J))⟩
instance Xko:PCs Try.prog 5 (∀ (a0:X2) (a1:Int) (r:X2×Bool×Int),X0o a0 a1=some r->X0f Try.prog 5 [(X7 false a0),(aI .i64 a1)] (AV.tup [(X7 false r.1),(aB r.2.1),(aI .i64 r.2.2)])):=⟨λa0 a1 r h=>by
 refine X0f.sym X8 fn5 (nt:=42) rfl rfl ?_ okM;unfold X0o at h;revert h;exact bI λv1 h2=>brI (λh3=>λe=>oj e▸Xa [.pure _ (AV.tup [(aI .i64 v1.1),(aI .i64 v1.2)]),Bt] (k:=fi)) λh3=>brI (λh4=>λe=>oj e▸Xa [.pure _ (AV.tup [(aI .i64 v1.1),(aI .i64 v1.2)]),Bf,Bt] (k:=fi)) λh4=>bI λv5 h6=>brI (λh7=>λe=>oj e▸Xa [.pure _ (AV.tup [(aI .i64 v1.1),(aI .i64 v1.2)]),Bf,Bf,.pure _ (AV.tup [(X7 false v5.1),(aI .i64 v5.2)]),Bt] (k:=fi)) λh7=>bI λv8 h9=>λe=>oj e▸Xa [.pure _ (AV.tup [(aI .i64 v1.1),(aI .i64 v1.2)]),Bf,Bf,.pure _ (AV.tup [(X7 false v5.1),(aI .i64 v5.2)]),Bf,.pure _ (aB v8)] (k:=fi)⟩
instance Xo8:PCs Try.prog 67 (∀ (a0:Int) (r:Int),X06 a0=some r->X0f Try.prog 67 [(aI .u8 a0)] (aI .i64 r)):=⟨λa0 r h=>by
 refine X0f.sym X8 Xx9 (nt:=7) rfl rfl ?_ okM;unfold X06 at h;revert h;exact brI (λh1=>λe=>oj e▸Xa [Bt] (k:=fi)) λh1=>brI (λh2=>λe=>oj e▸Xa [Bf,Bt] (k:=fi)) λh2=>λe=>oj e▸Xa [Bf,Bf] (k:=fi)⟩
instance Xo5:PCs Try.prog 81 (∀ (a0:X1) (a1:Int) (a2:Int) (r:Bool),X4i a0 a1 a2=some r->X0f Try.prog 81 [(X0 a0),(aI .i64 a1),(aI .i64 a2)] (aB r)):=⟨λa0 a1 a2 r h=>by
 refine X0f.sym X8 Xwx (nt:=52) rfl rfl ?_ okM;unfold X4i at h;revert h;exact λe=>oj e▸Xa [] (k:=fi)⟩
end Go.Av.Try