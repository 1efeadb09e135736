/- Printed by decomp.py: that the program computes the functions. -/
import Derived.Test.YtmkegegjcihooaaGreatDCert15Z
set_option linter.all false

namespace Go.Av.Tryz
open Go.Proofs Go.D
set_option maxRecDepth 100000
set_option maxHeartbeats 40000000
class NoLp (μ:Mu):Prop where
 h:Xjv μ=true
instance:NoLp []:=⟨rfl⟩
theorem Xbu {Q:Xp->St->Mu->Prop} {μ:Mu} [NoLp μ] (X09:Xf) (Xb6:Int):∀ (n:Nat) (X2i:(List Xg)) (Xih:Int) (X8z:Nb X2i) (o:X8k) (h:X10 X09 Xb6 n X2i Xih=some o)
  (C0:∀ (X1h:(List Xg)) (X3d:Nb X1h),o=X8k.x0 X1h->X0 Tryz.prog 61 0 Q (.exit (.exit 2)) [] ⟨fr [(1,(AV.ptr 0 0 0)),(3,(slE X3d.1 1 (X1h.map X1))),(4,(aI .i64 Xb6))],hp ([(0,Ob [(Xc false X09)] 14)]++opE X3d.1 1 11 (X1h.map X1)),2⟩ μ),
  X0 Tryz.prog 61 0 Q (.loop (X0w 1 (Xd Tryz.f42))) [] ⟨fr [(1,(AV.ptr 0 0 0)),(3,(slE X8z.1 1 (X2i.map X1))),(4,(aI .i64 Xb6)),(5,(aI .i64 Xih))],hp ([(0,Ob [(Xc false X09)] 14)]++opE X8z.1 1 11 (X2i.map X1)),2⟩ μ:=by
 intro n
 induction n with
 |zero=>intro X2i Xih X8z o h C0;cases h
 |succ n ih =>
  intro X2i Xih X8z o h C0;rw[X10] at h;rcases X8z with ⟨_|_,Xpr⟩
  ·
   refine X0.round ?_;revert h;refine bI λe2212 h2213=>?_;try have qh2213:=Xi h2213
   refine brI (λh2214=>?_) λh2214=>λe=>X3 [.el (Xa false e2212),.el (aI .i64 (e2212.Store.length:Int)),Bf] (k:=wkT [] (C0 _  nbF (oj e).symm));refine bI λe2215 h2216=>?_;try have qh2216:=Xi h2216
   refine bI λo2284 h2285=>rnI [.el (Xa false e2212),.el (aI .i64 (e2212.Store.length:Int)),Bt,.el (Xa false e2212),.el (X1 e2215),.el (aI .i64 (X2i.length:Int))] ?_;intro h;refine wkT [] (X0.cut (Xbt X09 X2i Xb6 Xih e2215 nbF _ _ _ h2285 ?_));intro Xbf Xeo Xbb eo2284;subst eo2284;refine X0.glue ?_;try dsimp only at h
   rcases Xbb with ⟨_|_,Xjf⟩
   ·
    refine X1f [.stop 12] ?_;revert h;refine bI λm2286 h2287=>?_;obtain⟨qah2287,qbh2287,qch2287,qh2287⟩:=X1l h2287;have qlh2287:=X3n h2287;refine bI λm2288 h2289=>?_;obtain⟨qah2289,qbh2289,qch2289,qh2289⟩:=X1l h2289;have qlh2289:=X3n h2289;refine brI (λh2290=>?_) λh2290=>?_
    ·
     refine brI (λq=>?_) λq=>?_
     ·
      intro h;have h2291:([]:List Xg)=[]:=List.isEmpty_iff.1 q;refine X0.drawnCut (hμ:=NoLp.h) 9 tmD [.via (.ref 1 0 (m2286.length)),.ne false,.ne false] rfl rfl rfl rfl rfl (by repeat' first|apply Ya|exact pcM|(simp at qah2287 qbh2287 qch2287 ⊢;omega)|(simp at qah2287 qbh2287 qch2287 qlh2287 ⊢;omega)|(simp;done)|(simp at qah2289 qbh2289 qch2289 ⊢;omega)|(simp at qah2289 qbh2289 qch2289 qlh2289 ⊢;have qz:=Xae h2290;omega)|exact X04) ?_;revert h;refine bI λu2292 h2293=>rnI [.trunc 1 (m2286.map X1),.no,.wrap] (o:=by repeat' first|apply Ya|exact pcM|(simp at qah2287 qbh2287 qch2287 ⊢;omega)|(simp at qah2287 qbh2287 qch2287 qlh2287 ⊢;omega)|(simp;done)|(simp at qah2289 qbh2289 qch2289 ⊢;omega)|(simp at qah2289 qbh2289 qch2289 qlh2289 ⊢;have qz:=Xae h2290;omega)|(refine X1n h2293 rfl ?_;first|(simp<;>omega)|(simp[h2214,h2290,h2291]<;>omega))|(refine X0h h2293 (by decide) ?_;first|(simp<;>omega)|(simp[h2214,h2290,h2291]<;>omega))|exact(X2t (f:=X1) qh2287)|exact X04) ?_;intro h;exact wkT [(1,12)] (ih  _ _ nbF o h C0)
     intro h;have h2291:¬ (([]:List Xg)=[]):=(λe=>by rw[e] at q;cases q);exact absurd rfl h2291
    refine brI (λq=>?_) λq=>?_
    ·
     intro h;have h2299:m2288=[]:=List.isEmpty_iff.1 q;refine X0.drawnCut (hμ:=NoLp.h) 9 tmD [.via (.ref 1 0 (m2286.length)),.via (.ref 1 (Int.toNat Xeo) (m2288.length)),.ne false] rfl rfl rfl rfl rfl (by repeat' first|apply Ya|exact pcM|(simp at qah2287 qbh2287 qch2287 ⊢;omega)|(simp at qah2287 qbh2287 qch2287 qlh2287 ⊢;omega)|(simp;done)|(simp at qah2289 qbh2289 qch2289 ⊢;omega)|(simp at qah2289 qbh2289 qch2289 qlh2289 ⊢;have qz:=X1q h2290;omega)|(simp at qah2289 qbh2289 qch2289 qlh2289 ⊢;omega)|exact X04) ?_;revert h;refine bI λu2300 h2301=>rnI [.trunc 1 (m2286.map X1),.no,.wrap] (o:=by repeat' first|apply Ya|exact pcM|(simp at qah2287 qbh2287 qch2287 ⊢;omega)|(simp at qah2287 qbh2287 qch2287 qlh2287 ⊢;omega)|(simp;done)|(simp at qah2289 qbh2289 qch2289 ⊢;omega)|(simp at qah2289 qbh2289 qch2289 qlh2289 ⊢;have qz:=X1q h2290;omega)|(simp at qah2289 qbh2289 qch2289 qlh2289 ⊢;omega)|(refine X1n h2301 rfl ?_;first|(simp<;>omega)|(simp[h2214,h2290,h2299]<;>omega))|(refine X0h h2301 (by decide) ?_;first|(simp<;>omega)|(simp[h2214,h2290,h2299]<;>omega))|exact(X2t (f:=X1) qh2287)|exact X04) ?_;intro h;exact wkT [(1,12)] (ih  _ _ nbF o h C0)
    intro h;have h2299:¬ (m2288=[]):=(λe=>by rw[e] at q;cases q);revert h;refine bI λu2302 h2303=>?_;intro h;refine X0.drawnCut (hμ:=NoLp.h) 9 tmD [.via (.ref 1 0 (m2286.length)),.via (.ref 1 (Int.toNat Xeo) (m2288.length)),.via (Lt (m2288.map X1))] rfl rfl rfl rfl rfl (by repeat' first|apply Ya|exact pcM|(simp at qah2287 qbh2287 qch2287 ⊢;omega)|(simp at qah2287 qbh2287 qch2287 qlh2287 ⊢;omega)|(simp;done)|(simp at qah2289 qbh2289 qch2289 ⊢;omega)|(simp at qah2289 qbh2289 qch2289 qlh2289 ⊢;have qz:=X1q h2290;omega)|(simp at qah2289 qbh2289 qch2289 qlh2289 ⊢;omega)|(refine X1n h2303 rfl ?_;first|(simp<;>omega)|(simp[h2214,h2290,h2299]<;>omega))|(refine X0h h2303 (by decide) ?_;first|(simp<;>omega)|(simp[h2214,h2290,h2299]<;>omega))|exact X04) ?_;revert h;refine brI (λq=>?_) λq=>?_
    ·
     intro h;have h2304:([e2215]++m2288)=[]:=List.isEmpty_iff.1 q;refine X1f [.ne false,.wrap] (o:=by repeat' first|apply Ya|exact pcM|(simp at qah2287 qbh2287 qch2287 ⊢;omega)|(simp at qah2287 qbh2287 qch2287 qlh2287 ⊢;omega)|(simp;done)|(simp at qah2289 qbh2289 qch2289 ⊢;omega)|(simp at qah2289 qbh2289 qch2289 qlh2289 ⊢;have qz:=X1q h2290;omega)|(simp at qah2289 qbh2289 qch2289 qlh2289 ⊢;omega)|(refine X1n h2303 rfl ?_;first|(simp<;>omega)|(simp[h2214,h2290,h2299,h2304]<;>omega))|(refine X0h h2303 (by decide) ?_;first|(simp<;>omega)|(simp[h2214,h2290,h2299,h2304]<;>omega))|exact X04) ?_;refine X0.trunc 1 (m2286.map X1) rfl (X2t (f:=X1) qh2287) ?_;exact wkT [] (ih  _ _ nbF o h C0)
    intro h;have h2304:¬ (([e2215]++m2288)=[]):=(λe=>by rw[e] at q;cases q);revert h;refine bI λu2305 h2306=>rnI [.trunc 1 (m2286.map X1),.via (Lt (List.map X1 ([e2215]++m2288))),.wrap] (o:=by repeat' first|apply Ya|exact pcM|(simp at qah2287 qbh2287 qch2287 ⊢;omega)|(simp at qah2287 qbh2287 qch2287 qlh2287 ⊢;omega)|(simp;done)|(simp at qah2289 qbh2289 qch2289 ⊢;omega)|(simp at qah2289 qbh2289 qch2289 qlh2289 ⊢;have qz:=X1q h2290;omega)|(simp at qah2289 qbh2289 qch2289 qlh2289 ⊢;omega)|(refine X1n h2303 rfl ?_;first|(simp<;>omega)|(simp[h2214,h2290,h2299,h2304]<;>omega))|(refine X0h h2303 (by decide) ?_;first|(simp<;>omega)|(simp[h2214,h2290,h2299,h2304]<;>omega))|(refine X1n h2306 rfl ?_;first|(simp<;>omega)|(simp[h2214,h2290,h2299,h2304]<;>omega))|(refine X0h h2306 (by decide) ?_;first|(simp<;>omega)|(simp[h2214,h2290,h2299,h2304]<;>omega))|exact(X2t (f:=X1) qh2287)|exact X04) ?_;intro h;exact wkT [(1,12)] (ih  _ _ nbF o h C0)
   obtain rfl:=Xjf rfl;refine X1f [.stop 12] ?_;revert h;refine bI λm2307 h2308=>?_;obtain⟨qah2308,qbh2308,qch2308,qh2308⟩:=X1l h2308;obtain rfl:=X7y h2308;refine bI λm2309 h2310=>?_;obtain⟨qah2310,qbh2310,qch2310,qh2310⟩:=X1l h2310;obtain rfl:=X7y h2310;refine brI (λh2311=>?_) λh2311=>?_
   ·
    refine brI (λq=>?_) λq=>?_
    ·
     intro h;have h2312:([]:List Xg)=[]:=List.isEmpty_iff.1 q;refine X0.drawnCut (hμ:=NoLp.h) 9 tmD [.ne false] rfl rfl rfl rfl rfl (by repeat' first|apply Ya|exact pcM|(simp at qah2308 qbh2308 qch2308 ⊢;omega)|(simp at qah2310 qbh2310 qch2310 ⊢;omega)|exact X04) ?_;revert h;refine bI λu2313 h2314=>rnI [.no,.wrap] (o:=by repeat' first|apply Ya|exact pcM|(simp at qah2308 qbh2308 qch2308 ⊢;omega)|(simp at qah2310 qbh2310 qch2310 ⊢;omega)|(refine X1n h2314 rfl ?_;first|(simp<;>omega)|(simp[h2214,h2311,h2312]<;>omega))|(refine X0h h2314 (by decide) ?_;first|(simp<;>omega)|(simp[h2214,h2311,h2312]<;>omega))|exact X04) ?_;intro h;exact wkT [(1,12)] (ih  _ _ nbF o h C0)
    intro h;have h2312:¬ (([]:List Xg)=[]):=(λe=>by rw[e] at q;cases q);exact absurd rfl h2312
   intro h;exact absurd h2311 (by simp)
  obtain rfl:=Xpr rfl;refine X0.round ?_;revert h;refine bI λe2318 h2319=>?_;try have qh2319:=Xi h2319
  refine brI (λh2320=>?_) λh2320=>λe=>X3 [.el (Xa false e2318),.el (aI .i64 (e2318.Store.length:Int)),Bf] (k:=wkT [] (C0 _  nbS (oj e).symm));refine bI λe2321 h2322=>?_;try have qh2322:=Xi h2322
  refine bI λo2368 h2369=>rnI [.el (Xa false e2318),.el (aI .i64 (e2318.Store.length:Int)),Bt,.el (Xa false e2318),.el (X1 e2321),.el (aI .i64 (List.length ([]:List Xg):Int))] ?_;intro h;refine wkT [] (X0.cut (Xbt X09 ([]:List Xg) Xb6 Xih e2321 nbS _ _ _ h2369 ?_));intro Xbf Xeo Xbb eo2368;subst eo2368;refine X0.glue ?_;try dsimp only at h
  rcases Xbb with ⟨_|_,Xjf⟩
  ·
   refine X1f [.stop 12] ?_;revert h;refine bI λm2370 h2371=>?_;obtain⟨qah2371,qbh2371,qch2371,qh2371⟩:=X1l h2371;have qlh2371:=X3n h2371;refine bI λm2372 h2373=>?_;obtain⟨qah2373,qbh2373,qch2373,qh2373⟩:=X1l h2373;have qlh2373:=X3n h2373;refine brI (λh2374=>?_) λh2374=>?_
   ·
    refine brI (λq=>?_) λq=>?_
    ·
     intro h;have h2375:([]:List Xg)=[]:=List.isEmpty_iff.1 q;refine X0.drawnCut (hμ:=NoLp.h) 9 tmD [.via (.ref 1 0 (m2370.length)),.ne false,.ne false] rfl rfl rfl rfl rfl (by repeat' first|apply Ya|exact pcM|(simp at qah2371 qbh2371 qch2371 ⊢;omega)|(simp at qah2371 qbh2371 qch2371 qlh2371 ⊢;omega)|(simp;done)|(simp at qah2373 qbh2373 qch2373 ⊢;omega)|(simp at qah2373 qbh2373 qch2373 qlh2373 ⊢;have qz:=Xae h2374;omega)|exact X04) ?_;revert h;refine bI λu2376 h2377=>rnI [.trunc 1 (m2370.map X1),.no,.wrap] (o:=by repeat' first|apply Ya|exact pcM|(simp at qah2371 qbh2371 qch2371 ⊢;omega)|(simp at qah2371 qbh2371 qch2371 qlh2371 ⊢;omega)|(simp;done)|(simp at qah2373 qbh2373 qch2373 ⊢;omega)|(simp at qah2373 qbh2373 qch2373 qlh2373 ⊢;have qz:=Xae h2374;omega)|(refine X1n h2377 rfl ?_;first|(simp<;>omega)|(simp[h2320,h2374,h2375]<;>omega))|(refine X0h h2377 (by decide) ?_;first|(simp<;>omega)|(simp[h2320,h2374,h2375]<;>omega))|exact(X2t (f:=X1) qh2371)|exact X04) ?_;intro h;exact wkT [(1,12)] (ih  _ _ nbF o h C0)
    intro h;have h2375:¬ (([]:List Xg)=[]):=(λe=>by rw[e] at q;cases q);exact absurd rfl h2375
   refine brI (λq=>?_) λq=>?_
   ·
    intro h;have h2383:m2372=[]:=List.isEmpty_iff.1 q;refine X0.drawnCut (hμ:=NoLp.h) 9 tmD [.via (.ref 1 0 (m2370.length)),.via (.ref 1 (Int.toNat Xeo) (m2372.length)),.ne false] rfl rfl rfl rfl rfl (by repeat' first|apply Ya|exact pcM|(simp at qah2371 qbh2371 qch2371 ⊢;omega)|(simp at qah2371 qbh2371 qch2371 qlh2371 ⊢;omega)|(simp;done)|(simp at qah2373 qbh2373 qch2373 ⊢;omega)|(simp at qah2373 qbh2373 qch2373 qlh2373 ⊢;have qz:=X1q h2374;omega)|(simp at qah2373 qbh2373 qch2373 qlh2373 ⊢;omega)|exact X04) ?_;revert h;refine bI λu2384 h2385=>rnI [.trunc 1 (m2370.map X1),.no,.wrap] (o:=by repeat' first|apply Ya|exact pcM|(simp at qah2371 qbh2371 qch2371 ⊢;omega)|(simp at qah2371 qbh2371 qch2371 qlh2371 ⊢;omega)|(simp;done)|(simp at qah2373 qbh2373 qch2373 ⊢;omega)|(simp at qah2373 qbh2373 qch2373 qlh2373 ⊢;have qz:=X1q h2374;omega)|(simp at qah2373 qbh2373 qch2373 qlh2373 ⊢;omega)|(refine X1n h2385 rfl ?_;first|(simp<;>omega)|(simp[h2320,h2374,h2383]<;>omega))|(refine X0h h2385 (by decide) ?_;first|(simp<;>omega)|(simp[h2320,h2374,h2383]<;>omega))|exact(X2t (f:=X1) qh2371)|exact X04) ?_;intro h;exact wkT [(1,12)] (ih  _ _ nbF o h C0)
   intro h;have h2383:¬ (m2372=[]):=(λe=>by rw[e] at q;cases q);revert h;refine bI λu2386 h2387=>?_;intro h;refine X0.drawnCut (hμ:=NoLp.h) 9 tmD [.via (.ref 1 0 (m2370.length)),.via (.ref 1 (Int.toNat Xeo) (m2372.length)),.via (Lt (m2372.map X1))] rfl rfl rfl rfl rfl (by repeat' first|apply Ya|exact pcM|(simp at qah2371 qbh2371 qch2371 ⊢;omega)|(simp at qah2371 qbh2371 qch2371 qlh2371 ⊢;omega)|(simp;done)|(simp at qah2373 qbh2373 qch2373 ⊢;omega)|(simp at qah2373 qbh2373 qch2373 qlh2373 ⊢;have qz:=X1q h2374;omega)|(simp at qah2373 qbh2373 qch2373 qlh2373 ⊢;omega)|(refine X1n h2387 rfl ?_;first|(simp<;>omega)|(simp[h2320,h2374,h2383]<;>omega))|(refine X0h h2387 (by decide) ?_;first|(simp<;>omega)|(simp[h2320,h2374,h2383]<;>omega))|exact X04) ?_;revert h;refine brI (λq=>?_) λq=>?_
   ·
    intro h;have h2388:([e2321]++m2372)=[]:=List.isEmpty_iff.1 q;refine X1f [.ne false,.wrap] (o:=by repeat' first|apply Ya|exact pcM|(simp at qah2371 qbh2371 qch2371 ⊢;omega)|(simp at qah2371 qbh2371 qch2371 qlh2371 ⊢;omega)|(simp;done)|(simp at qah2373 qbh2373 qch2373 ⊢;omega)|(simp at qah2373 qbh2373 qch2373 qlh2373 ⊢;have qz:=X1q h2374;omega)|(simp at qah2373 qbh2373 qch2373 qlh2373 ⊢;omega)|(refine X1n h2387 rfl ?_;first|(simp<;>omega)|(simp[h2320,h2374,h2383,h2388]<;>omega))|(refine X0h h2387 (by decide) ?_;first|(simp<;>omega)|(simp[h2320,h2374,h2383,h2388]<;>omega))|exact X04) ?_;refine X0.trunc 1 (m2370.map X1) rfl (X2t (f:=X1) qh2371) ?_;exact wkT [] (ih  _ _ nbF o h C0)
   intro h;have h2388:¬ (([e2321]++m2372)=[]):=(λe=>by rw[e] at q;cases q);revert h;refine bI λu2389 h2390=>rnI [.trunc 1 (m2370.map X1),.via (Lt (List.map X1 ([e2321]++m2372))),.wrap] (o:=by repeat' first|apply Ya|exact pcM|(simp at qah2371 qbh2371 qch2371 ⊢;omega)|(simp at qah2371 qbh2371 qch2371 qlh2371 ⊢;omega)|(simp;done)|(simp at qah2373 qbh2373 qch2373 ⊢;omega)|(simp at qah2373 qbh2373 qch2373 qlh2373 ⊢;have qz:=X1q h2374;omega)|(simp at qah2373 qbh2373 qch2373 qlh2373 ⊢;omega)|(refine X1n h2387 rfl ?_;first|(simp<;>omega)|(simp[h2320,h2374,h2383,h2388]<;>omega))|(refine X0h h2387 (by decide) ?_;first|(simp<;>omega)|(simp[h2320,h2374,h2383,h2388]<;>omega))|(refine X1n h2390 rfl ?_;first|(simp<;>omega)|(simp[h2320,h2374,h2383,h2388]<;>omega))|(refine X0h h2390 (by decide) ?_;first|(simp<;>omega)|(simp[h2320,h2374,h2383,h2388]<;>omega))|exact(X2t (f:=X1) qh2371)|exact X04) ?_;intro h;exact wkT [(1,12)] (ih  _ _ nbF o h C0)
  obtain rfl:=Xjf rfl;refine X1f [.stop 12] ?_;revert h;refine bI λm2391 h2392=>?_;obtain⟨qah2392,qbh2392,qch2392,qh2392⟩:=X1l h2392;obtain rfl:=X7y h2392;refine bI λm2393 h2394=>?_;obtain⟨qah2394,qbh2394,qch2394,qh2394⟩:=X1l h2394;obtain rfl:=X7y h2394;refine brI (λh2395=>?_) λh2395=>?_
  ·
   refine brI (λq=>?_) λq=>?_
   ·
    intro h;have h2396:([]:List Xg)=[]:=List.isEmpty_iff.1 q;refine X0.drawnCut (hμ:=NoLp.h) 9 tmD [.ne false] rfl rfl rfl rfl rfl (by repeat' first|apply Ya|exact pcM|(simp at qah2392 qbh2392 qch2392 ⊢;omega)|(simp at qah2394 qbh2394 qch2394 ⊢;omega)|exact X04) ?_;revert h;refine bI λu2397 h2398=>rnI [.no,.wrap] (o:=by repeat' first|apply Ya|exact pcM|(simp at qah2392 qbh2392 qch2392 ⊢;omega)|(simp at qah2394 qbh2394 qch2394 ⊢;omega)|(refine X1n h2398 rfl ?_;first|(simp<;>omega)|(simp[h2320,h2395,h2396]<;>omega))|(refine X0h h2398 (by decide) ?_;first|(simp<;>omega)|(simp[h2320,h2395,h2396]<;>omega))|exact X04) ?_;intro h;exact wkT [(1,12)] (ih  _ _ nbF o h C0)
   intro h;have h2396:¬ (([]:List Xg)=[]):=(λe=>by rw[e] at q;cases q);exact absurd rfl h2396
  intro h;exact absurd h2395 (by simp)
theorem Xgs {Q:Xp->St->Mu->Prop} {μ:Mu} [NoLp μ] (Xe:Xf):∀ (n:Nat) (Xj:(List Xg)) (Xgp:Int) (X01:Nb Xj) (o:X8l) (h:X3p Xe n Xj Xgp=some o)
  (C0:∀ (Xz:(List Xg)) (X0f:Nb Xz),o=X8l.x0 Xz->X0 Tryz.prog 61 0 Q (.exit (.exit 0)) [] ⟨fr [(3,(slE X0f.1 0 (Xz.map X1)))],hp ([]++opE X0f.1 0 11 (Xz.map X1)),1⟩ μ),
  X0 Tryz.prog 61 0 Q (.loop (X0w 0 (Xd Tryz.f42))) [] ⟨fr [(1,(AV.ptr 0 0 0)),(3,(slE X01.1 1 (Xj.map X1))),(4,(aI .i64 Xgp))],hp ([(0,Ob [(Xc false Xe)] 14)]++opE X01.1 1 11 (Xj.map X1)),2⟩ μ:=by
 intro n
 induction n with
 |zero=>intro Xj Xgp X01 o h C0;cases h
 |succ n ih =>
  intro Xj Xgp X01 o h C0;rw[X3p] at h;rcases X01 with ⟨_|_,X0x⟩
  ·
   refine X0.round ?_;revert h;refine brI (λh1830=>?_) λh1830=>λe=>X3 [.el (aI .i64 (Xe.Tasks.length:Int)),Bf] (k:=wkT [(0,1)] (C0 _  nbF (oj e).symm));refine bI λo2402 h2403=>rnI [.el (aI .i64 (Xe.Tasks.length:Int)),Bt] ?_;intro h;refine wkT [] (X0.cut (Xbu Xe Xgp _ _ _ nbF _ h2403 ?_));intro X1h X3d eo2402;subst eo2402;refine X0.glue ?_;try dsimp only at h
   rcases X3d with ⟨_|_,X9z⟩
   ·
    exact X3 [.wrap] (k:=wkT [] (ih  _ _ nbF o h C0))
   obtain rfl:=X9z rfl;exact X3 [.wrap] (k:=wkT [] (ih  _ _ nbS o h C0))
  obtain rfl:=X0x rfl;refine X0.round ?_;revert h;refine brI (λh2404=>?_) λh2404=>λe=>X3 [.el (aI .i64 (Xe.Tasks.length:Int)),Bf] (k:=wkT [] (C0 _  nbS (oj e).symm));refine bI λo2742 h2743=>rnI [.el (aI .i64 (Xe.Tasks.length:Int)),Bt] ?_;intro h;refine wkT [] (X0.cut (Xbu Xe Xgp _ _ _ nbS _ h2743 ?_));intro X1h X3d eo2742;subst eo2742;refine X0.glue ?_;try dsimp only at h
  rcases X3d with ⟨_|_,X9z⟩
  ·
   exact X3 [.wrap] (k:=wkT [] (ih  _ _ nbF o h C0))
  obtain rfl:=X9z rfl;exact X3 [.wrap] (k:=wkT [] (ih  _ _ nbS o h C0))
instance Xwb:PCs Tryz.prog 42 (∀ (a0:Xf) (r:(List Xg)),Xau a0=some r->X05 Tryz.prog 42 [(Xc false a0)] (Lt (r.map X1))):=⟨λa0 r h=>by
 refine X05.sym X9 fn42 (nt:=61) rfl rfl ?_ okM;unfold Xau at h;revert h;refine bI λo2744 h2745=>rnI [] ?_;intro h;refine wkT [] (X0.cut (Xgs a0 _ _ _ nbS _ h2745 ?_));intro Xz X0f eo2744;subst eo2744;refine X0.glue ?_;try dsimp only at h
 rcases X0f with ⟨_|_,X4s⟩<;>(try obtain rfl:=X4s rfl);all_goals
  revert h;exact λe=>oj e▸X3 [] (k:=fi)⟩
instance X02q:PCs Tryz.prog 14 (∀ (a0:Xf) (r:(List Xg)×Int),Xg1 a0=some r->X05 Tryz.prog 14 [(Xc false a0)] (AV.tup [(Lt (r.1.map X1)),(aI .i64 r.2)])):=⟨λa0 r h=>by
 refine X05.sym X9 fn14 (nt:=12) rfl rfl ?_ okM;unfold Xg1 at h;revert h;exact bI λv1 h2=>brI (λh3=>λe=>oj e▸X3 [.pure _ (aI .i64 v1),Bt] (k:=fi)) λh3=>bI λv4 h5=>λe=>oj e▸X3 [.pure _ (aI .i64 v1),Bf,.pure _ (Lt (v4.map X1))] (k:=fi)⟩
theorem Xfi {Q:Xp->St->Mu->Prop}  {rb rD:Nat} {rr:Loop} (rh1:rr.state=.ready) (rh2:rr.pending=none) (rh3:rr.params=(rfB 0 (Xd Tryz.f15)).1) (rh4:rr.assign=(rfB 0 (Xd Tryz.f15)).2.1) (rh5:rr.body=(rfB 0 (Xd Tryz.f15)).2.2) (Xwt:Xf) (Xrs:(List Xv)) (Xq6:Int) (Xwu:Int) (Xor:(List Int)) (hl:Xor.length<=140737488355328):∀ (xs:List Int) (k:Nat) (hx:Xor.drop k=xs) (X2i:Int) (o:X6s) (h:X1p Xwt Xrs Xq6 Xwu Xor xs k X2i=some o)
  (C0:∀ (X1h:Int),o=X6s.x0 X1h->X0 Tryz.prog 37 3 Q (.exit (.exit 2)) [] ⟨fr [(0,(AV.sc (.func (.yield rb) #[] #[]))),(8,(Lf (List.map (Xa false) Xrs))),(9,(aI .i64 Xq6)),(10,(aI .i64 Xwu))],hp ([(1,Ob [(aI .i64 X1h)] 1),(2,Ob [(Xc false Xwt)] 14)]),3⟩ [(rb,MuE.loop rr 19 3 (fr [(5,(AV.ptr 1 0 0)),(13,(AV.fn 79 [(AV.ptr 2 0 0)]))])),(rD,MuE.blk (Go.Obj.deferred (some [])))]),
  X0 Tryz.prog 37 3 Q (.loop (X0w 1 (Xd Tryz.f79))) [] ⟨fr [(0,(AV.sc (.func (.yield rb) #[] #[]))),(8,(Lf (List.map (Xa false) Xrs))),(9,(aI .i64 Xq6)),(10,(aI .i64 Xwu)),(25,(Lf (List.map (aI .i64) Xor))),(26,(aI .i64 (Xor.length:Int))),(27,(aI .i64 (k:Int)))],hp ([(1,Ob [(aI .i64 X2i)] 1),(2,Ob [(Xc false Xwt)] 14)]),3⟩ [(rb,MuE.loop rr 19 3 (fr [(5,(AV.ptr 1 0 0)),(13,(AV.fn 79 [(AV.ptr 2 0 0)]))])),(rD,MuE.blk (Go.Obj.deferred (some [])))]:=by
 intro xs
 induction xs with
 |nil =>
  intro k hx X2i o h C0;have hk:=X06 hx;have hc:decide ((k:Int)<(Xor.length:Int))=false:=Yf om;rw[X1p] at h;refine X0.round ?_;revert h;exact λe=>X3 [Bf] (k:=wkT [] (C0 _  (oj e).symm))
 |cons x xs ih =>
  intro k hx X2i o h C0;obtain⟨hk,hg,hx1⟩:=Xy hx;have hc:decide ((k:Int)<(Xor.length:Int))=true:=Yt om;rw[X1p] at h;refine X0.round ?_;refine X1f [Bt,.el (aI .i64 x)] ?_;refine X0.yield rfl rfl rfl rfl rfl trivial trivial (.head _) rh1 rh2 rh3 rh4 rh5 rfl rfl ?_;refine X1f [] ?_;refine X0.asg ?_;refine X1f [] ?_;refine X0.rndEnd ?_;exact X3 [Bf] (k:=wkT [] (ih (k+1) hx1 _ o h C0))
theorem Xfj {Q:Xp->St->Mu->Prop}  {rb rD:Nat} {rr:Loop} (rh1:rr.state=.ready) (rh2:rr.pending=none) (rh3:rr.params=(rfB 0 (Xd Tryz.f15)).1) (rh4:rr.assign=(rfB 0 (Xd Tryz.f15)).2.1) (rh5:rr.body=(rfB 0 (Xd Tryz.f15)).2.2) (Xa9:Xf) (Xk3:(List Xv)) (hl:Xk3.length<=140737488355328):∀ (xs:List Xv) (k:Nat) (hx:Xk3.drop k=xs) (Xj:Int) (o:X6t) (h:X13 Xa9 Xk3 xs k Xj=some o)
  (C0:∀ (X0y:Int),o=X6t.x0 X0y->X0 Tryz.prog 37 3 Q (.exit (.exit 0)) [] ⟨fr [],hp ([(1,Ob [(aI .i64 X0y)] 1),(2,Ob [(Xc false Xa9)] 14)]),3⟩ [(rb,MuE.loop rr 19 3 (fr [(5,(AV.ptr 1 0 0)),(13,(AV.fn 79 [(AV.ptr 2 0 0)]))])),(rD,MuE.blk (Go.Obj.deferred (some [])))]),
  X0 Tryz.prog 37 3 Q (.loop (X0w 0 (Xd Tryz.f79))) [] ⟨fr [(0,(AV.sc (.func (.yield rb) #[] #[]))),(8,(Lf (List.map (Xa false) Xk3))),(9,(aI .i64 (Xk3.length:Int))),(10,(aI .i64 (k:Int)))],hp ([(1,Ob [(aI .i64 Xj)] 1),(2,Ob [(Xc false Xa9)] 14)]),3⟩ [(rb,MuE.loop rr 19 3 (fr [(5,(AV.ptr 1 0 0)),(13,(AV.fn 79 [(AV.ptr 2 0 0)]))])),(rD,MuE.blk (Go.Obj.deferred (some [])))]:=by
 intro xs
 induction xs with
 |nil =>
  intro k hx Xj o h C0;have hk:=X06 hx;have hc:decide ((k:Int)<(Xk3.length:Int))=false:=Yf om;rw[X13] at h;refine X0.round ?_;revert h;exact λe=>X3 [Bf] (k:=wkT [] (C0 _  (oj e).symm))
 |cons x xs ih =>
  intro k hx Xj o h C0;obtain⟨hk,hg,hx1⟩:=Xy hx;have hc:decide ((k:Int)<(Xk3.length:Int))=true:=Yt om;rw[X13] at h;refine X0.round ?_;revert h;refine brI (λh19=>?_) λh19=>?_
  ·
   refine rnI [Bt,.el (Xa false x),Bt] ?_;intro h;exact wkT [] (ih (k+1) hx1 _ o h C0)
  refine bI λu20 h21=>?_;have qh21:=X0l h21;refine bI λo23 h24=>rnI [Bt,.el (Xa false x),Bf,.el (aI .i64 (x.Marks.length:Int))] ?_;intro h;refine wkT [] (X0.cut (Xfi rh1 rh2 rh3 rh4 rh5 Xa9 Xk3 (Xk3.length:Int) (k:Int) x.Marks qh21 x.Marks 0 (by simp) _ _ h24 ?_));intro X1h eo23;subst eo23;refine X0.glue ?_;try dsimp only at h
  exact X3 [] (k:=wkT [] (ih (k+1) hx1 _ o h C0))
instance Xyb:PCs Tryz.prog 15 (∀ (a0:Xf) (r:Int×Int),Xcr a0=some r->X05 Tryz.prog 15 [(Xc false a0)] (AV.tup [(aI .i64 r.1),(aI .i64 r.2)])):=⟨λa0 r h=>by
 refine X05.sym X9 fn15 (nt:=19) rfl rfl ?_ okM;unfold Xcr at h;revert h;refine bI λv1 h2=>brI (λh3=>λe=>oj e▸X3 [.pure _ (aI .i64 v1),Bt] (k:=fi)) λh3=>rnI [.pure _ (aI .i64 v1),Bf] ?_;intro h;refine X0.inline X9 fn43 rfl rfl rfl rfl rfl trivial trivial rfl rfl ?_;refine X1f [] ?_;refine X0.back (by intro id h;cases h) rfl ?_;refine X1f [] ?_;refine X0.keepL [5,13] ?_;refine X0.rangeFunc rfl trivial fn79 rfl rfl rfl ?_;intro rb rD rr rh1 rh2 rh3 rh4 rh5;revert h;refine bI λu4 h5=>?_;have qh5:=X0l h5;refine bI λo25 h26=>rnI [.el (aI .i64 (a0.Tasks.length:Int))] ?_;intro h;refine wkT [] (X0.cut (Xfj rh1 rh2 rh3 rh4 rh5 a0 a0.Tasks qh5 a0.Tasks 0 (by simp) _ _ h26 ?_));intro X0y eo25;subst eo25;refine X0.glue ?_;try dsimp only at h
 refine X1f [] ?_;refine X0.rfEnd (by intro id h;cases h) ?_;revert h;exact λe=>oj e▸X3 [] (k:=fi)⟩
end Go.Av.Tryz