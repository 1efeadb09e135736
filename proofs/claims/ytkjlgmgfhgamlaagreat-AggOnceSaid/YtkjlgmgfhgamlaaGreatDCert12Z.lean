/- Printed by decomp.py: that the program computes the functions. -/
import Derived.Test.YtkjlgmgfhgamlaaGreatDCert11Z
set_option linter.all false

namespace Go.Av.Tryz
open Go.Proofs Go.D
set_option maxRecDepth 10000
set_option maxHeartbeats 40000000
instance Xgc:PCs Tryz.prog 10 (∀ (a0:X07) (a1:Int) (a2:(List Int)) (a3:(List Xg)) (r:Bool),X6y a0 a1 a2 a3=some r->X0j Tryz.prog 10 [(Xy false a0),(aI .i64 a1),(Lf (List.map (aI .i64) a2)),(Lf (a3.map Xo))] (aB r)):=⟨fun a0 a1 a2 a3 r h=>by
 refine X0j.sym X5 fn10 (nt:=160) rfl rfl ?_ okM
 unfold X6y at h
 revert h
 refine bI fun v1 h2=>bI fun Xtc h26=>rnI [.pure _ (aB v1),.stop 2] ?_
 intro h
 refine X3.join (s':=⟨fr [(1,(aI .i64 a1)),(2,(Lf (List.map (aI .i64) a2))),(3,(Lf (a3.map Xo))),(4,(AV.ptr 0 0 0)),(9,(aB v1)),(56,(aB Xtc))],hp ([(0,Ob [(Xy false a0)] 10)]),1⟩) ?_ (fun J=>X3.cut ?_)
 ·
  revert h
  refine brI (fun h27=>fun e=>oj e▸Xa [Bt] (k:=fi)) fun h27=>bI fun v28 h29=>brI (fun h30=>fun e=>oj e▸Xa [Bf,.pure _ (AV.tup [(Xj true v28.1),(aI .i64 v28.2)]),Bt] (k:=fi)) fun h30=>bI fun u31 h32=>?_
  have qh32:=X12 h32
  refine bI fun o121 h122=>rnI [Bf,.pure _ (AV.tup [(Xj true v28.1),(aI .i64 v28.2)]),Bf] ?_
  intro h
  refine wkT [] (X3.cut (Xdd a2 a3 a0 v1 qh32 a3 0 (by simp) _ _ h122 ?_ ?_))
  ·
   intro eo121;subst eo121
   refine X3.glue ?_
   try dsimp only at h
   revert h
   exact fun e=>oj e▸Xa [] (k:=fi)
  intro eo121;subst eo121
  refine X3.glue ?_
  try dsimp only at h
  revert h
  exact fun e=>oj e▸Xa [] (k:=fi)
 clear h;revert h26
 refine bI fun v15 h16=>brI (fun h17=>?_) fun h17=>?_
 ·
  intro h
  obtain rfl:=oj h
  exact Xa [.pure _ (aB v15),.go false,.go false,.go false,.go false,.go false,.go false,.go false,.go false,.go false,.go false,.go false,.go false,.go false,.go false,.go false,.go false,.go false,.go false,.go false] (o:=by repeat' first|apply Ya|exact pcM|exact((X9 h17 rfl))|exact(Xi (X9 h17 rfl))|exact(X5k (X9 h17 rfl))|exact((X9 (X9 h17 rfl) rfl))|exact(Xi (X9 (X9 h17 rfl) rfl))|exact(X5k (X9 (X9 h17 rfl) rfl))|exact((X9 (X9 (X9 h17 rfl) rfl) rfl))|exact(Xi (X9 (X9 (X9 h17 rfl) rfl) rfl))|exact(X5k (X9 (X9 (X9 h17 rfl) rfl) rfl))|exact((X9 (X9 (X9 (X9 h17 rfl) rfl) rfl) rfl))|exact(Xi (X9 (X9 (X9 (X9 h17 rfl) rfl) rfl) rfl))|exact(X5k (X9 (X9 (X9 (X9 h17 rfl) rfl) rfl) rfl))|exact((X9 (X9 (X9 (X9 (X9 h17 rfl) rfl) rfl) rfl) rfl))|exact(Xi (X9 (X9 (X9 (X9 (X9 h17 rfl) rfl) rfl) rfl) rfl))|exact(X5k (X9 (X9 (X9 (X9 (X9 h17 rfl) rfl) rfl) rfl) rfl))|exact((X9 (X9 (X9 (X9 (X9 (X9 h17 rfl) rfl) rfl) rfl) rfl) rfl))|exact(Xi (X9 (X9 (X9 (X9 (X9 (X9 h17 rfl) rfl) rfl) rfl) rfl) rfl))|exact(X5k (X9 (X9 (X9 (X9 (X9 (X9 h17 rfl) rfl) rfl) rfl) rfl) rfl))|exact X04) (k:=wkT [] (X3.glue J))
 refine bI fun v18 h19=>brI (fun h20=>?_) fun h20=>?_
 ·
  intro h
  obtain rfl:=oj h
  exact Xa [.pure _ (aB v15),.go true,.go true,.pure _ (aB v18),.go true,.go false,.go false,.go false,.go false,.go false,.go false,.go false,.go false,.go false,.go false,.go false,.go false,.go false,.go false,.go false,.go false] (o:=by repeat' first|apply Ya|exact pcM|exact((X8 h17 h20))|exact(Xi (X8 h17 h20))|exact(X5k (X8 h17 h20))|exact((X9 (X8 h17 h20) rfl))|exact(Xi (X9 (X8 h17 h20) rfl))|exact(X5k (X9 (X8 h17 h20) rfl))|exact((X9 (X9 (X8 h17 h20) rfl) rfl))|exact(Xi (X9 (X9 (X8 h17 h20) rfl) rfl))|exact(X5k (X9 (X9 (X8 h17 h20) rfl) rfl))|exact((X9 (X9 (X9 (X8 h17 h20) rfl) rfl) rfl))|exact(Xi (X9 (X9 (X9 (X8 h17 h20) rfl) rfl) rfl))|exact(X5k (X9 (X9 (X9 (X8 h17 h20) rfl) rfl) rfl))|exact((X9 (X9 (X9 (X9 (X8 h17 h20) rfl) rfl) rfl) rfl))|exact(Xi (X9 (X9 (X9 (X9 (X8 h17 h20) rfl) rfl) rfl) rfl))|exact(X5k (X9 (X9 (X9 (X9 (X8 h17 h20) rfl) rfl) rfl) rfl))|exact((X9 (X9 (X9 (X9 (X9 (X8 h17 h20) rfl) rfl) rfl) rfl) rfl))|exact(Xi (X9 (X9 (X9 (X9 (X9 (X8 h17 h20) rfl) rfl) rfl) rfl) rfl))|exact(X5k (X9 (X9 (X9 (X9 (X9 (X8 h17 h20) rfl) rfl) rfl) rfl) rfl))|exact X04) (k:=wkT [] (X3.glue J))
 refine brI (fun h21=>?_) fun h21=>?_
 ·
  intro h
  obtain rfl:=oj h
  exact Xa [.pure _ (aB v15),.go true,.go true,.pure _ (aB v18),.go true,.go true,.go true,.go false,.go false,.go false,.go false,.go false,.go false,.go false,.go false,.go false,.go false,.go false,.go false,.go false,.go false] (o:=by repeat' first|apply Ya|exact pcM|exact((X8 h17 h20))|exact(Xi (X8 h17 h20))|exact(Xd3 (X8 h17 h20))|exact((X8 (X8 h17 h20) h21))|exact(Xi (X8 (X8 h17 h20) h21))|exact(X5k (X8 (X8 h17 h20) h21))|exact((X9 (X8 (X8 h17 h20) h21) rfl))|exact(Xi (X9 (X8 (X8 h17 h20) h21) rfl))|exact(X5k (X9 (X8 (X8 h17 h20) h21) rfl))|exact((X9 (X9 (X8 (X8 h17 h20) h21) rfl) rfl))|exact(Xi (X9 (X9 (X8 (X8 h17 h20) h21) rfl) rfl))|exact(X5k (X9 (X9 (X8 (X8 h17 h20) h21) rfl) rfl))|exact((X9 (X9 (X9 (X8 (X8 h17 h20) h21) rfl) rfl) rfl))|exact(Xi (X9 (X9 (X9 (X8 (X8 h17 h20) h21) rfl) rfl) rfl))|exact(X5k (X9 (X9 (X9 (X8 (X8 h17 h20) h21) rfl) rfl) rfl))|exact((X9 (X9 (X9 (X9 (X8 (X8 h17 h20) h21) rfl) rfl) rfl) rfl))|exact(Xi (X9 (X9 (X9 (X9 (X8 (X8 h17 h20) h21) rfl) rfl) rfl) rfl))|exact(X5k (X9 (X9 (X9 (X9 (X8 (X8 h17 h20) h21) rfl) rfl) rfl) rfl))|exact X04) (k:=wkT [] (X3.glue J))
 refine brI (fun h22=>?_) fun h22=>?_
 ·
  intro h
  obtain rfl:=oj h
  exact Xa [.pure _ (aB v15),.go true,.go true,.pure _ (aB v18),.go true,.go true,.go true,.go true,.go true,.go false,.go false,.go false,.go false,.go false,.go false,.go false,.go false,.go false,.go false,.go false,.go false] (o:=by repeat' first|apply Ya|exact pcM|exact((X8 h17 h20))|exact(Xi (X8 h17 h20))|exact(Xd3 (X8 h17 h20))|exact((X8 (X8 h17 h20) h21))|exact(Xi (X8 (X8 h17 h20) h21))|exact(Xd3 (X8 (X8 h17 h20) h21))|exact((X8 (X8 (X8 h17 h20) h21) h22))|exact(Xi (X8 (X8 (X8 h17 h20) h21) h22))|exact(X5k (X8 (X8 (X8 h17 h20) h21) h22))|exact((X9 (X8 (X8 (X8 h17 h20) h21) h22) rfl))|exact(Xi (X9 (X8 (X8 (X8 h17 h20) h21) h22) rfl))|exact(X5k (X9 (X8 (X8 (X8 h17 h20) h21) h22) rfl))|exact((X9 (X9 (X8 (X8 (X8 h17 h20) h21) h22) rfl) rfl))|exact(Xi (X9 (X9 (X8 (X8 (X8 h17 h20) h21) h22) rfl) rfl))|exact(X5k (X9 (X9 (X8 (X8 (X8 h17 h20) h21) h22) rfl) rfl))|exact((X9 (X9 (X9 (X8 (X8 (X8 h17 h20) h21) h22) rfl) rfl) rfl))|exact(Xi (X9 (X9 (X9 (X8 (X8 (X8 h17 h20) h21) h22) rfl) rfl) rfl))|exact(X5k (X9 (X9 (X9 (X8 (X8 (X8 h17 h20) h21) h22) rfl) rfl) rfl))|exact X04) (k:=wkT [] (X3.glue J))
 refine brI (fun h23=>?_) fun h23=>?_
 ·
  intro h
  obtain rfl:=oj h
  exact Xa [.pure _ (aB v15),.go true,.go true,.pure _ (aB v18),.go true,.go true,.go true,.go true,.go true,.go true,.go true,.go false,.go false,.go false,.go false,.go false,.go false,.go false,.go false,.go false,.go false] (o:=by repeat' first|apply Ya|exact pcM|exact((X8 h17 h20))|exact(Xi (X8 h17 h20))|exact(Xd3 (X8 h17 h20))|exact((X8 (X8 h17 h20) h21))|exact(Xi (X8 (X8 h17 h20) h21))|exact(Xd3 (X8 (X8 h17 h20) h21))|exact((X8 (X8 (X8 h17 h20) h21) h22))|exact(Xi (X8 (X8 (X8 h17 h20) h21) h22))|exact(Xd3 (X8 (X8 (X8 h17 h20) h21) h22))|exact((X8 (X8 (X8 (X8 h17 h20) h21) h22) h23))|exact(Xi (X8 (X8 (X8 (X8 h17 h20) h21) h22) h23))|exact(X5k (X8 (X8 (X8 (X8 h17 h20) h21) h22) h23))|exact((X9 (X8 (X8 (X8 (X8 h17 h20) h21) h22) h23) rfl))|exact(Xi (X9 (X8 (X8 (X8 (X8 h17 h20) h21) h22) h23) rfl))|exact(X5k (X9 (X8 (X8 (X8 (X8 h17 h20) h21) h22) h23) rfl))|exact((X9 (X9 (X8 (X8 (X8 (X8 h17 h20) h21) h22) h23) rfl) rfl))|exact(Xi (X9 (X9 (X8 (X8 (X8 (X8 h17 h20) h21) h22) h23) rfl) rfl))|exact(X5k (X9 (X9 (X8 (X8 (X8 (X8 h17 h20) h21) h22) h23) rfl) rfl))|exact X04) (k:=wkT [] (X3.glue J))
 refine rnI [.pure _ (aB v15),.go true,.go true,.pure _ (aB v18),.go true,.go true,.go true,.go true,.go true,.go true,.go true,.go true,.go true,.el (aI .i64 (a3.length:Int)),.go true,.stop 999999] (o:=by repeat' first|apply Ya|exact pcM|exact((X8 h17 h20))|exact(Xi (X8 h17 h20))|exact(Xd3 (X8 h17 h20))|exact((X8 (X8 h17 h20) h21))|exact(Xi (X8 (X8 h17 h20) h21))|exact(Xd3 (X8 (X8 h17 h20) h21))|exact((X8 (X8 (X8 h17 h20) h21) h22))|exact(Xi (X8 (X8 (X8 h17 h20) h21) h22))|exact(Xd3 (X8 (X8 (X8 h17 h20) h21) h22))|exact((X8 (X8 (X8 (X8 h17 h20) h21) h22) h23))|exact(Xi (X8 (X8 (X8 (X8 h17 h20) h21) h22) h23))|exact(Xd3 (X8 (X8 (X8 (X8 h17 h20) h21) h22) h23))|exact X04) ?_
 refine brI (fun h24=>?_) fun h24=>?_
 ·
  intro h
  obtain rfl:=oj h
  exact Xa [.go false,.go false,.go false,.go false,.go false,.go false,.go false] (o:=by repeat' first|apply Ya|exact pcM|exact((X8 (X8 (X8 (X8 (X8 h17 h20) h21) h22) h23) h24))|exact(Xi (X8 (X8 (X8 (X8 (X8 h17 h20) h21) h22) h23) h24))|exact(X5k (X8 (X8 (X8 (X8 (X8 h17 h20) h21) h22) h23) h24))|exact((X9 (X8 (X8 (X8 (X8 (X8 h17 h20) h21) h22) h23) h24) rfl))|exact(Xi (X9 (X8 (X8 (X8 (X8 (X8 h17 h20) h21) h22) h23) h24) rfl))|exact(X5k (X9 (X8 (X8 (X8 (X8 (X8 h17 h20) h21) h22) h23) h24) rfl))|exact X04) (k:=wkT [] (X3.glue J))
 refine brI (fun h25=>?_) fun h25=>?_
 ·
  intro h
  obtain rfl:=oj h
  exact Xa [.go true,.go true,.el (aI .i64 (a2.length:Int)),.go true,.go true,.el (aI .i64 (a3.length:Int)),.go true,.go false,.go false] (o:=by repeat' first|apply Ya|exact pcM|exact((X8 (X8 (X8 (X8 (X8 h17 h20) h21) h22) h23) h24))|exact(Xi (X8 (X8 (X8 (X8 (X8 h17 h20) h21) h22) h23) h24))|exact(Xd3 (X8 (X8 (X8 (X8 (X8 h17 h20) h21) h22) h23) h24))|exact((X8 (X8 (X8 (X8 (X8 (X8 h17 h20) h21) h22) h23) h24) h25))|exact(Xi (X8 (X8 (X8 (X8 (X8 (X8 h17 h20) h21) h22) h23) h24) h25))|exact(X5k (X8 (X8 (X8 (X8 (X8 (X8 h17 h20) h21) h22) h23) h24) h25))|exact X04) (k:=wkT [] (X3.glue J))
 intro h
 obtain rfl:=oj h
 exact Xa [.go true,.go true,.el (aI .i64 (a2.length:Int)),.go true,.go true,.el (aI .i64 (a3.length:Int)),.go true,.go true,.go true] (o:=by repeat' first|apply Ya|exact pcM|exact((X8 (X8 (X8 (X8 (X8 h17 h20) h21) h22) h23) h24))|exact(Xi (X8 (X8 (X8 (X8 (X8 h17 h20) h21) h22) h23) h24))|exact(Xd3 (X8 (X8 (X8 (X8 (X8 h17 h20) h21) h22) h23) h24))|exact((X8 (X8 (X8 (X8 (X8 (X8 h17 h20) h21) h22) h23) h24) h25))|exact(Xi (X8 (X8 (X8 (X8 (X8 (X8 h17 h20) h21) h22) h23) h24) h25))|exact(Xd3 (X8 (X8 (X8 (X8 (X8 (X8 h17 h20) h21) h22) h23) h24) h25))|exact X04) (k:=wkT [] (X3.glue J))⟩
end Go.Av.Tryz