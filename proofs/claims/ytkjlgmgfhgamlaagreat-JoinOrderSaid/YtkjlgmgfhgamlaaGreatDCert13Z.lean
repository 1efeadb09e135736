/- Printed by decomp.py: that the program computes the functions. -/
import Derived.Test.YtkjlgmgfhgamlaaGreatDCert12Z
set_option linter.all false

namespace Go.Av.Tryz
open Go.Proofs Go.D
set_option maxRecDepth 10000
set_option maxHeartbeats 40000000
instance Xdm:PCs Tryz.prog 4 (∀ (a0:X06) (a1:(List Int)) (a2:(List Xl)) (r:Bool),X5a a0 a1 a2=some r->X0l Tryz.prog 4 [(Xs false a0),(Lf (List.map (aI .i64) a1)),(Lf (a2.map X4))] (aB r)):=⟨fun a0 a1 a2 r h=>by
 refine X0l.sym X6 fn4 (nt:=164) rfl rfl ?_ okM
 unfold X5a at h
 revert h
 refine bI fun v1 h2=>bI fun Xsp h22=>rnI [.pure _ (aB v1),.stop 2] ?_
 intro h
 refine X3.join (s':=⟨fr [(1,(Lf (List.map (aI .i64) a1))),(2,(Lf (a2.map X4))),(3,(AV.ptr 0 0 0)),(7,(aB v1)),(49,(aB Xsp))],hp ([(0,Ob [(Xs false a0)] 10)]),1⟩) ?_ (fun J=>X3.cut ?_)
 ·
  revert h
  refine brI (fun h23=>fun e=>oj e▸Xa [Bt] (k:=fi)) fun h23=>bI fun u24 h25=>?_
  have qh25:=X1c h25
  refine bI fun o1419 h1420=>rnI [Bf] ?_
  intro h
  refine wkT [] (X3.cut (Xbt a1 a2 a0 v1 qh25 a2 0 (by simp) _ _ _ _ nbS nbS nbS nbS _ h1420 ?_ ?_))
  ·
   intro X0b X2a X2d X4u X0t X31 X25 X49 eo1419;subst eo1419
   refine X3.glue ?_
   try dsimp only at h
   rcases X0t with ⟨_|_,X4a⟩<;>(try obtain rfl:=X4a rfl)
   all_goals
    rcases X31 with ⟨_|_,Xag⟩<;>(try obtain rfl:=Xag rfl)
    all_goals
     rcases X25 with ⟨_|_,X5i⟩<;>(try obtain rfl:=X5i rfl)
     all_goals
      rcases X49 with ⟨_|_,Xaf⟩<;>(try obtain rfl:=Xaf rfl)
      all_goals
       revert h
       refine bI fun v1421 h1422=>bI fun u1423 h1424=>bI fun u1425 h1426=>bI fun v1427 h1428=>bI fun u1429 h1430=>bI fun u1431 h1432=>bI fun v1433 h1434=>bI fun Xne h1450=>rnI [.pure _ (Xe v1421),.pure _ (Xe v1421),.see [(117,[0])],.no,.no,.pure _ (AV.tup [(Xr true v1427.1),(AV.list true (v1427.2.1.map X01)),(aB v1427.2.2)]),.see [(129,[0])],.no,.no,.pure _ (AV.tup [(Xr true v1433.1),(AV.list true (v1433.2.1.map X01)),(aB v1433.2.2)]),.stop 18] (o:=by repeat' first|apply Ya|exact pcM|(refine Xv h1424 rfl ?_;first|(simp;done)|(simp;omega)|(simp[h23];done)|(simp[h23];omega))|(refine Xf h1424 (by decide) ?_;first|(simp;done)|(simp;omega)|(simp[h23];done)|(simp[h23];omega))|(refine Xv h1426 rfl ?_;first|(simp;done)|(simp;omega)|(simp[h23];done)|(simp[h23];omega))|(refine Xf h1426 (by decide) ?_;first|(simp;done)|(simp;omega)|(simp[h23];done)|(simp[h23];omega))|(refine Xv h1430 rfl ?_;first|(simp;done)|(simp;omega)|(simp[h23];done)|(simp[h23];omega))|(refine Xf h1430 (by decide) ?_;first|(simp;done)|(simp;omega)|(simp[h23];done)|(simp[h23];omega))|(refine Xv h1432 rfl ?_;first|(simp;done)|(simp;omega)|(simp[h23];done)|(simp[h23];omega))|(refine Xf h1432 (by decide) ?_;first|(simp;done)|(simp;omega)|(simp[h23];done)|(simp[h23];omega))|exact Xw) ?_
       intro h
       refine X3.join (s':=⟨fr [(6,(aB Xne))],hp ([]),0⟩) ?_ (fun J=>X3.cut ?_)
       ·
        revert h
        exact fun e=>oj e▸Xa [] (o:=by repeat' first|apply Ya|exact pcM|(refine Xv h1424 rfl ?_;first|(simp;done)|(simp;omega)|(simp[h23];done)|(simp[h23];omega))|(refine Xf h1424 (by decide) ?_;first|(simp;done)|(simp;omega)|(simp[h23];done)|(simp[h23];omega))|(refine Xv h1426 rfl ?_;first|(simp;done)|(simp;omega)|(simp[h23];done)|(simp[h23];omega))|(refine Xf h1426 (by decide) ?_;first|(simp;done)|(simp;omega)|(simp[h23];done)|(simp[h23];omega))|(refine Xv h1430 rfl ?_;first|(simp;done)|(simp;omega)|(simp[h23];done)|(simp[h23];omega))|(refine Xf h1430 (by decide) ?_;first|(simp;done)|(simp;omega)|(simp[h23];done)|(simp[h23];omega))|(refine Xv h1432 rfl ?_;first|(simp;done)|(simp;omega)|(simp[h23];done)|(simp[h23];omega))|(refine Xf h1432 (by decide) ?_;first|(simp;done)|(simp;omega)|(simp[h23];done)|(simp[h23];omega))|exact Xw) (k:=fi)
       clear h;revert h1450
       refine brI (fun h1443=>?_) fun h1443=>?_
       ·
        refine brI (fun h1444=>?_) fun h1444=>?_
        ·
         refine brI (fun h1445=>?_) fun h1445=>?_
         ·
          refine bI fun v1446 h1447=>brI (fun h1448=>?_) fun h1448=>?_
          ·
           refine rnI [.go true,.go true,.go true,.go true,.go true,.pure _ (aB v1446),.go true,.go true,.go true,.el (aI .i64 (v1427.1.Store.length:Int)),.go true,.stop 999999] (o:=by repeat' first|apply Ya|exact pcM|(refine Xv h1424 rfl ?_;first|(simp;done)|(simp;omega)|(simp[h23,h1443,h1444,h1445,h1448];done)|(simp[h23,h1443,h1444,h1445,h1448];omega))|(refine Xf h1424 (by decide) ?_;first|(simp;done)|(simp;omega)|(simp[h23,h1443,h1444,h1445,h1448];done)|(simp[h23,h1443,h1444,h1445,h1448];omega))|(refine Xv h1426 rfl ?_;first|(simp;done)|(simp;omega)|(simp[h23,h1443,h1444,h1445,h1448];done)|(simp[h23,h1443,h1444,h1445,h1448];omega))|(refine Xf h1426 (by decide) ?_;first|(simp;done)|(simp;omega)|(simp[h23,h1443,h1444,h1445,h1448];done)|(simp[h23,h1443,h1444,h1445,h1448];omega))|(refine Xv h1430 rfl ?_;first|(simp;done)|(simp;omega)|(simp[h23,h1443,h1444,h1445,h1448];done)|(simp[h23,h1443,h1444,h1445,h1448];omega))|(refine Xf h1430 (by decide) ?_;first|(simp;done)|(simp;omega)|(simp[h23,h1443,h1444,h1445,h1448];done)|(simp[h23,h1443,h1444,h1445,h1448];omega))|(refine Xv h1432 rfl ?_;first|(simp;done)|(simp;omega)|(simp[h23,h1443,h1444,h1445,h1448];done)|(simp[h23,h1443,h1444,h1445,h1448];omega))|(refine Xf h1432 (by decide) ?_;first|(simp;done)|(simp;omega)|(simp[h23,h1443,h1444,h1445,h1448];done)|(simp[h23,h1443,h1444,h1445,h1448];omega))|exact((X9 h1443 h1444))|exact(Xd (X9 h1443 h1444))|exact(X47 (X9 h1443 h1444))|exact((X9 (X9 h1443 h1444) h1445))|exact(Xd (X9 (X9 h1443 h1444) h1445))|exact(X47 (X9 (X9 h1443 h1444) h1445))|exact((X9 (X9 (X9 h1443 h1444) h1445) h1448))|exact(Xd (X9 (X9 (X9 h1443 h1444) h1445) h1448))|exact(X47 (X9 (X9 (X9 h1443 h1444) h1445) h1448))|exact Xw) ?_
           refine brI (fun h1449=>?_) fun h1449=>?_
           ·
            intro h
            obtain rfl:=oj h
            exact Xa [.go true,.go true,.go true,.el (aI .i64 (v1433.1.Store.length:Int)),.go true] (o:=by repeat' first|apply Ya|exact pcM|exact((X9 (X9 (X9 (X9 h1443 h1444) h1445) h1448) h1449))|exact(Xd (X9 (X9 (X9 (X9 h1443 h1444) h1445) h1448) h1449))|exact(X47 (X9 (X9 (X9 (X9 h1443 h1444) h1445) h1448) h1449))|exact Xw) (k:=wkT [] (X3.glue J))
           intro h
           obtain rfl:=oj h
           exact Xa [.go false,.go false,.go false,.go false] (o:=by repeat' first|apply Ya|exact pcM|exact((X9 (X9 (X9 (X9 h1443 h1444) h1445) h1448) h1449))|exact(Xd (X9 (X9 (X9 (X9 h1443 h1444) h1445) h1448) h1449))|exact(X88 (X9 (X9 (X9 (X9 h1443 h1444) h1445) h1448) h1449))|exact Xw) (k:=wkT [] (X3.glue J))
          intro h
          obtain rfl:=oj h
          exact Xa [.go true,.go true,.go true,.go true,.go true,.pure _ (aB v1446),.go false,.go false,.go false,.go false,.go false,.go false,.go false,.go false] (o:=by repeat' first|apply Ya|exact pcM|(refine Xv h1424 rfl ?_;first|(simp;done)|(simp;omega)|(simp[h23,h1443,h1444,h1445,h1448];done)|(simp[h23,h1443,h1444,h1445,h1448];omega))|(refine Xf h1424 (by decide) ?_;first|(simp;done)|(simp;omega)|(simp[h23,h1443,h1444,h1445,h1448];done)|(simp[h23,h1443,h1444,h1445,h1448];omega))|(refine Xv h1426 rfl ?_;first|(simp;done)|(simp;omega)|(simp[h23,h1443,h1444,h1445,h1448];done)|(simp[h23,h1443,h1444,h1445,h1448];omega))|(refine Xf h1426 (by decide) ?_;first|(simp;done)|(simp;omega)|(simp[h23,h1443,h1444,h1445,h1448];done)|(simp[h23,h1443,h1444,h1445,h1448];omega))|(refine Xv h1430 rfl ?_;first|(simp;done)|(simp;omega)|(simp[h23,h1443,h1444,h1445,h1448];done)|(simp[h23,h1443,h1444,h1445,h1448];omega))|(refine Xf h1430 (by decide) ?_;first|(simp;done)|(simp;omega)|(simp[h23,h1443,h1444,h1445,h1448];done)|(simp[h23,h1443,h1444,h1445,h1448];omega))|(refine Xv h1432 rfl ?_;first|(simp;done)|(simp;omega)|(simp[h23,h1443,h1444,h1445,h1448];done)|(simp[h23,h1443,h1444,h1445,h1448];omega))|(refine Xf h1432 (by decide) ?_;first|(simp;done)|(simp;omega)|(simp[h23,h1443,h1444,h1445,h1448];done)|(simp[h23,h1443,h1444,h1445,h1448];omega))|exact((X9 h1443 h1444))|exact(Xd (X9 h1443 h1444))|exact(X47 (X9 h1443 h1444))|exact((X9 (X9 h1443 h1444) h1445))|exact(Xd (X9 (X9 h1443 h1444) h1445))|exact(X47 (X9 (X9 h1443 h1444) h1445))|exact((X9 (X9 (X9 h1443 h1444) h1445) h1448))|exact(Xd (X9 (X9 (X9 h1443 h1444) h1445) h1448))|exact(X88 (X9 (X9 (X9 h1443 h1444) h1445) h1448))|exact((Xb (X9 (X9 (X9 h1443 h1444) h1445) h1448) rfl))|exact(Xd (Xb (X9 (X9 (X9 h1443 h1444) h1445) h1448) rfl))|exact(X88 (Xb (X9 (X9 (X9 h1443 h1444) h1445) h1448) rfl))|exact Xw) (k:=wkT [] (X3.glue J))
         intro h
         obtain rfl:=oj h
         exact Xa [.go true,.go true,.go false,.go false,.go false,.go false,.go false,.go false,.go false,.go false,.go false,.go false,.go false] (o:=by repeat' first|apply Ya|exact pcM|(refine Xv h1424 rfl ?_;first|(simp;done)|(simp;omega)|(simp[h23,h1443,h1444,h1445];done)|(simp[h23,h1443,h1444,h1445];omega))|(refine Xf h1424 (by decide) ?_;first|(simp;done)|(simp;omega)|(simp[h23,h1443,h1444,h1445];done)|(simp[h23,h1443,h1444,h1445];omega))|(refine Xv h1426 rfl ?_;first|(simp;done)|(simp;omega)|(simp[h23,h1443,h1444,h1445];done)|(simp[h23,h1443,h1444,h1445];omega))|(refine Xf h1426 (by decide) ?_;first|(simp;done)|(simp;omega)|(simp[h23,h1443,h1444,h1445];done)|(simp[h23,h1443,h1444,h1445];omega))|(refine Xv h1430 rfl ?_;first|(simp;done)|(simp;omega)|(simp[h23,h1443,h1444,h1445];done)|(simp[h23,h1443,h1444,h1445];omega))|(refine Xf h1430 (by decide) ?_;first|(simp;done)|(simp;omega)|(simp[h23,h1443,h1444,h1445];done)|(simp[h23,h1443,h1444,h1445];omega))|(refine Xv h1432 rfl ?_;first|(simp;done)|(simp;omega)|(simp[h23,h1443,h1444,h1445];done)|(simp[h23,h1443,h1444,h1445];omega))|(refine Xf h1432 (by decide) ?_;first|(simp;done)|(simp;omega)|(simp[h23,h1443,h1444,h1445];done)|(simp[h23,h1443,h1444,h1445];omega))|exact((X9 h1443 h1444))|exact(Xd (X9 h1443 h1444))|exact(X47 (X9 h1443 h1444))|exact((X9 (X9 h1443 h1444) h1445))|exact(Xd (X9 (X9 h1443 h1444) h1445))|exact(X88 (X9 (X9 h1443 h1444) h1445))|exact((Xb (X9 (X9 h1443 h1444) h1445) rfl))|exact(Xd (Xb (X9 (X9 h1443 h1444) h1445) rfl))|exact(X88 (Xb (X9 (X9 h1443 h1444) h1445) rfl))|exact((Xb (Xb (X9 (X9 h1443 h1444) h1445) rfl) rfl))|exact(Xd (Xb (Xb (X9 (X9 h1443 h1444) h1445) rfl) rfl))|exact(X88 (Xb (Xb (X9 (X9 h1443 h1444) h1445) rfl) rfl))|exact Xw) (k:=wkT [] (X3.glue J))
        intro h
        obtain rfl:=oj h
        exact Xa [.go true,.go false,.go false,.go false,.go false,.go false,.go false,.go false,.go false,.go false,.go false,.go false,.go false] (o:=by repeat' first|apply Ya|exact pcM|(refine Xv h1424 rfl ?_;first|(simp;done)|(simp;omega)|(simp[h23,h1443,h1444];done)|(simp[h23,h1443,h1444];omega))|(refine Xf h1424 (by decide) ?_;first|(simp;done)|(simp;omega)|(simp[h23,h1443,h1444];done)|(simp[h23,h1443,h1444];omega))|(refine Xv h1426 rfl ?_;first|(simp;done)|(simp;omega)|(simp[h23,h1443,h1444];done)|(simp[h23,h1443,h1444];omega))|(refine Xf h1426 (by decide) ?_;first|(simp;done)|(simp;omega)|(simp[h23,h1443,h1444];done)|(simp[h23,h1443,h1444];omega))|(refine Xv h1430 rfl ?_;first|(simp;done)|(simp;omega)|(simp[h23,h1443,h1444];done)|(simp[h23,h1443,h1444];omega))|(refine Xf h1430 (by decide) ?_;first|(simp;done)|(simp;omega)|(simp[h23,h1443,h1444];done)|(simp[h23,h1443,h1444];omega))|(refine Xv h1432 rfl ?_;first|(simp;done)|(simp;omega)|(simp[h23,h1443,h1444];done)|(simp[h23,h1443,h1444];omega))|(refine Xf h1432 (by decide) ?_;first|(simp;done)|(simp;omega)|(simp[h23,h1443,h1444];done)|(simp[h23,h1443,h1444];omega))|exact((X9 h1443 h1444))|exact(Xd (X9 h1443 h1444))|exact(X88 (X9 h1443 h1444))|exact((Xb (X9 h1443 h1444) rfl))|exact(Xd (Xb (X9 h1443 h1444) rfl))|exact(X88 (Xb (X9 h1443 h1444) rfl))|exact((Xb (Xb (X9 h1443 h1444) rfl) rfl))|exact(Xd (Xb (Xb (X9 h1443 h1444) rfl) rfl))|exact(X88 (Xb (Xb (X9 h1443 h1444) rfl) rfl))|exact((Xb (Xb (Xb (X9 h1443 h1444) rfl) rfl) rfl))|exact(Xd (Xb (Xb (Xb (X9 h1443 h1444) rfl) rfl) rfl))|exact(X88 (Xb (Xb (Xb (X9 h1443 h1444) rfl) rfl) rfl))|exact Xw) (k:=wkT [] (X3.glue J))
       intro h
       obtain rfl:=oj h
       exact Xa [.go false,.go false,.go false,.go false,.go false,.go false,.go false,.go false,.go false,.go false,.go false,.go false,.go false] (o:=by repeat' first|apply Ya|exact pcM|(refine Xv h1424 rfl ?_;first|(simp;done)|(simp;omega)|(simp[h23,h1443];done)|(simp[h23,h1443];omega))|(refine Xf h1424 (by decide) ?_;first|(simp;done)|(simp;omega)|(simp[h23,h1443];done)|(simp[h23,h1443];omega))|(refine Xv h1426 rfl ?_;first|(simp;done)|(simp;omega)|(simp[h23,h1443];done)|(simp[h23,h1443];omega))|(refine Xf h1426 (by decide) ?_;first|(simp;done)|(simp;omega)|(simp[h23,h1443];done)|(simp[h23,h1443];omega))|(refine Xv h1430 rfl ?_;first|(simp;done)|(simp;omega)|(simp[h23,h1443];done)|(simp[h23,h1443];omega))|(refine Xf h1430 (by decide) ?_;first|(simp;done)|(simp;omega)|(simp[h23,h1443];done)|(simp[h23,h1443];omega))|(refine Xv h1432 rfl ?_;first|(simp;done)|(simp;omega)|(simp[h23,h1443];done)|(simp[h23,h1443];omega))|(refine Xf h1432 (by decide) ?_;first|(simp;done)|(simp;omega)|(simp[h23,h1443];done)|(simp[h23,h1443];omega))|exact((Xb h1443 rfl))|exact(Xd (Xb h1443 rfl))|exact(X88 (Xb h1443 rfl))|exact((Xb (Xb h1443 rfl) rfl))|exact(Xd (Xb (Xb h1443 rfl) rfl))|exact(X88 (Xb (Xb h1443 rfl) rfl))|exact((Xb (Xb (Xb h1443 rfl) rfl) rfl))|exact(Xd (Xb (Xb (Xb h1443 rfl) rfl) rfl))|exact(X88 (Xb (Xb (Xb h1443 rfl) rfl) rfl))|exact((Xb (Xb (Xb (Xb h1443 rfl) rfl) rfl) rfl))|exact(Xd (Xb (Xb (Xb (Xb h1443 rfl) rfl) rfl) rfl))|exact(X88 (Xb (Xb (Xb (Xb h1443 rfl) rfl) rfl) rfl))|exact Xw) (k:=wkT [] (X3.glue J))
  intro eo1419;subst eo1419
  refine X3.glue ?_
  try dsimp only at h
  revert h
  exact fun e=>oj e▸Xa [] (k:=fi)
 clear h;revert h22
 refine bI fun v13 h14=>brI (fun h15=>?_) fun h15=>?_
 ·
  intro h
  obtain rfl:=oj h
  exact Xa [.pure _ (aB v13),.go false,.go false,.go false,.go false,.go false,.go false,.go false,.go false,.go false,.go false,.go false,.go false,.go false,.go false,.go false,.go false] (o:=by repeat' first|apply Ya|exact pcM|exact((X9 h15 rfl))|exact(Xd (X9 h15 rfl))|exact(X47 (X9 h15 rfl))|exact((X9 (X9 h15 rfl) rfl))|exact(Xd (X9 (X9 h15 rfl) rfl))|exact(X47 (X9 (X9 h15 rfl) rfl))|exact((X9 (X9 (X9 h15 rfl) rfl) rfl))|exact(Xd (X9 (X9 (X9 h15 rfl) rfl) rfl))|exact(X47 (X9 (X9 (X9 h15 rfl) rfl) rfl))|exact((X9 (X9 (X9 (X9 h15 rfl) rfl) rfl) rfl))|exact(Xd (X9 (X9 (X9 (X9 h15 rfl) rfl) rfl) rfl))|exact(X47 (X9 (X9 (X9 (X9 h15 rfl) rfl) rfl) rfl))|exact Xw) (k:=wkT [] (X3.glue J))
 refine bI fun v16 h17=>brI (fun h18=>?_) fun h18=>?_
 ·
  intro h
  obtain rfl:=oj h
  exact Xa [.pure _ (aB v13),.go true,.go true,.pure _ (aB v16),.go true,.go false,.go false,.go false,.go false,.go false,.go false,.go false,.go false,.go false,.go false,.go false,.go false,.go false] (o:=by repeat' first|apply Ya|exact pcM|exact((Xb h15 h18))|exact(Xd (Xb h15 h18))|exact(X47 (Xb h15 h18))|exact((X9 (Xb h15 h18) rfl))|exact(Xd (X9 (Xb h15 h18) rfl))|exact(X47 (X9 (Xb h15 h18) rfl))|exact((X9 (X9 (Xb h15 h18) rfl) rfl))|exact(Xd (X9 (X9 (Xb h15 h18) rfl) rfl))|exact(X47 (X9 (X9 (Xb h15 h18) rfl) rfl))|exact((X9 (X9 (X9 (Xb h15 h18) rfl) rfl) rfl))|exact(Xd (X9 (X9 (X9 (Xb h15 h18) rfl) rfl) rfl))|exact(X47 (X9 (X9 (X9 (Xb h15 h18) rfl) rfl) rfl))|exact Xw) (k:=wkT [] (X3.glue J))
 refine brI (fun h19=>?_) fun h19=>?_
 ·
  intro h
  obtain rfl:=oj h
  exact Xa [.pure _ (aB v13),.go true,.go true,.pure _ (aB v16),.go true,.go true,.go true,.go true,.go false,.go false,.go false,.go false,.go false,.go false,.go false,.go false,.go false,.go false] (o:=by repeat' first|apply Ya|exact pcM|exact((Xb h15 h18))|exact(Xd (Xb h15 h18))|exact(X88 (Xb h15 h18))|exact((Xb (Xb h15 h18) h19))|exact(Xd (Xb (Xb h15 h18) h19))|exact(X47 (Xb (Xb h15 h18) h19))|exact((X9 (Xb (Xb h15 h18) h19) rfl))|exact(Xd (X9 (Xb (Xb h15 h18) h19) rfl))|exact(X47 (X9 (Xb (Xb h15 h18) h19) rfl))|exact((X9 (X9 (Xb (Xb h15 h18) h19) rfl) rfl))|exact(Xd (X9 (X9 (Xb (Xb h15 h18) h19) rfl) rfl))|exact(X47 (X9 (X9 (Xb (Xb h15 h18) h19) rfl) rfl))|exact Xw) (k:=wkT [] (X3.glue J))
 refine rnI [.pure _ (aB v13),.go true,.go true,.pure _ (aB v16),.go true,.go true,.go true,.go true,.go true,.go true,.el (aI .i64 (a2.length:Int)),.go true,.stop 999999] (o:=by repeat' first|apply Ya|exact pcM|exact((Xb h15 h18))|exact(Xd (Xb h15 h18))|exact(X88 (Xb h15 h18))|exact((Xb (Xb h15 h18) h19))|exact(Xd (Xb (Xb h15 h18) h19))|exact(X88 (Xb (Xb h15 h18) h19))|exact Xw) ?_
 refine brI (fun h20=>?_) fun h20=>?_
 ·
  intro h
  obtain rfl:=oj h
  exact Xa [.go false,.go false,.go false,.go false,.go false,.go false,.go false] (o:=by repeat' first|apply Ya|exact pcM|exact((Xb (Xb (Xb h15 h18) h19) h20))|exact(Xd (Xb (Xb (Xb h15 h18) h19) h20))|exact(X47 (Xb (Xb (Xb h15 h18) h19) h20))|exact((X9 (Xb (Xb (Xb h15 h18) h19) h20) rfl))|exact(Xd (X9 (Xb (Xb (Xb h15 h18) h19) h20) rfl))|exact(X47 (X9 (Xb (Xb (Xb h15 h18) h19) h20) rfl))|exact Xw) (k:=wkT [] (X3.glue J))
 refine brI (fun h21=>?_) fun h21=>?_
 ·
  intro h
  obtain rfl:=oj h
  exact Xa [.go true,.go true,.el (aI .i64 (a1.length:Int)),.go true,.go true,.el (aI .i64 (a2.length:Int)),.go true,.go false,.go false] (o:=by repeat' first|apply Ya|exact pcM|exact((Xb (Xb (Xb h15 h18) h19) h20))|exact(Xd (Xb (Xb (Xb h15 h18) h19) h20))|exact(X88 (Xb (Xb (Xb h15 h18) h19) h20))|exact((Xb (Xb (Xb (Xb h15 h18) h19) h20) h21))|exact(Xd (Xb (Xb (Xb (Xb h15 h18) h19) h20) h21))|exact(X47 (Xb (Xb (Xb (Xb h15 h18) h19) h20) h21))|exact Xw) (k:=wkT [] (X3.glue J))
 intro h
 obtain rfl:=oj h
 exact Xa [.go true,.go true,.el (aI .i64 (a1.length:Int)),.go true,.go true,.el (aI .i64 (a2.length:Int)),.go true,.go true,.go true] (o:=by repeat' first|apply Ya|exact pcM|exact((Xb (Xb (Xb h15 h18) h19) h20))|exact(Xd (Xb (Xb (Xb h15 h18) h19) h20))|exact(X88 (Xb (Xb (Xb h15 h18) h19) h20))|exact((Xb (Xb (Xb (Xb h15 h18) h19) h20) h21))|exact(Xd (Xb (Xb (Xb (Xb h15 h18) h19) h20) h21))|exact(X88 (Xb (Xb (Xb (Xb h15 h18) h19) h20) h21))|exact Xw) (k:=wkT [] (X3.glue J))⟩
end Go.Av.Tryz