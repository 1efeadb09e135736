/- Printed by decomp.py: that the program computes the functions. -/
import Derived.Test.YtfdfgobnpnoomaaGreatDCert13Z
set_option linter.all false

namespace Go.Av.Tryz
open Go.Proofs Go.D
set_option maxRecDepth 10000
set_option maxHeartbeats 40000000
theorem X7g {Q:X07->St->Mu->Prop} {μ:Mu} (X8l:(List (List Xb))) (Xze:Int) (X6:X03) (Xyg:Bool) (hl:X8l.length<=140737488355328):∀ (xs:List (List Xb)) (k:Nat) (hx:X8l.drop k=xs) (X3v:(List X2u)) (X6d:(List (List Xb))) (X3p:Nb X3v) (X41:Nb X6d) (o:X5g) (h:X1l X8l Xze X6 Xyg xs k X3v X6d=some o)
  (C0:∀ (X22:(List X2u)) (X5e:(List (List Xb))) (X1i:Nb X22) (X31:Nb X5e),o=X5g.x0 X22 X5e->X3 Tryz.prog 141 0 Q (.exit (.exit 2)) [] ⟨fr [(3,(AV.ptr 0 0 0)),(7,(aB Xyg)),(11,(slE X1i.1 1 (X22.map Xg))),(13,(slE X31.1 2 (List.map (X0e true X0) X5e)))],hp ([(0,Ob [(Xl false X6)] 10)]++opE X1i.1 1 5 (X22.map Xg)++opE X31.1 2 1 (List.map (X0e true X0) X5e)),3⟩ μ),
  X3 Tryz.prog 141 0 Q (.loop (X4t 1 (Xu Tryz.f10))) [] ⟨fr [(1,(Lf (List.map (X0e false X0) X8l))),(2,(aI .i64 Xze)),(3,(AV.ptr 0 0 0)),(7,(aB Xyg)),(11,(slE X3p.1 1 (X3v.map Xg))),(13,(slE X41.1 2 (List.map (X0e true X0) X6d))),(14,(aI .i64 (k:Int)))],hp ([(0,Ob [(Xl false X6)] 10)]++opE X3p.1 1 5 (X3v.map Xg)++opE X41.1 2 1 (List.map (X0e true X0) X6d)),3⟩ μ:=by
 intro xs
 induction xs with
 |nil =>
  intro k hx X3v X6d X3p X41 o h C0
  have hk:=X1e hx
  have hc:decide ((k:Int)<(X8l.length:Int))=false:=Yf (by omega)
  rw[X1l] at h
  rcases X3p with ⟨_|_,X7i⟩
  ·
   rcases X41 with ⟨_|_,X55⟩
   ·
    refine X3.round ?_
    revert h
    exact fun e=>Xc [.el (aI .i64 (X8l.length:Int)),Bf] (k:=wkT [] (C0 _ _  nbF nbF (oj e).symm))
   obtain rfl:=X55 rfl
   refine X3.round ?_
   revert h
   exact fun e=>Xc [.el (aI .i64 (X8l.length:Int)),Bf] (k:=wkT [] (C0 _ _  nbF nbS (oj e).symm))
  ·
   obtain rfl:=X7i rfl
   rcases X41 with ⟨_|_,X55⟩
   ·
    refine X3.round ?_
    revert h
    exact fun e=>Xc [.el (aI .i64 (X8l.length:Int)),Bf] (k:=wkT [] (C0 _ _  nbS nbF (oj e).symm))
   ·
    obtain rfl:=X55 rfl
    refine X3.round ?_
    revert h
    exact fun e=>Xc [.el (aI .i64 (X8l.length:Int)),Bf] (k:=wkT [] (C0 _ _  nbS nbS (oj e).symm))
 |cons x xs ih =>
  intro k hx X3v X6d X3p X41 o h C0
  obtain⟨hk,hg,hx1⟩:=X0t hx
  have hc:decide ((k:Int)<(X8l.length:Int))=true:=Yt (by omega)
  rw[X1l] at h
  rcases X3p with ⟨_|_,X7i⟩
  ·
   rcases X41 with ⟨_|_,X55⟩
   ·
    refine X3.round ?_
    revert h
    refine bI fun o4113 h4114=>rnI [.el (aI .i64 (X8l.length:Int)),Bt] ?_
    intro h
    refine wkT [] (X3.cut (X3b X8l Xze X6 Xyg X3v X6d (k:Int) nbF nbF _ _ _ nbS _ h4114 ?_))
    intro X0j X08 Xi X0g X05 Xr eo4113;subst eo4113
    refine X3.glue ?_
    try dsimp only at h
    rcases X0g with ⟨_|_,X0v⟩
    ·
     rcases X05 with ⟨_|_,X01⟩
     ·
      rcases Xr with ⟨_|_,Xj⟩
      ·
       refine X0l [.stop 999998] ?_
       refine X3.freeze 3 (Xi.map X0) [1,2,3,7,11,14,120,122] [(0,Ob [AV.agg [(aI .u8 X6.Agg),(Lf (X6.Arg.map X1)),(Lf (List.map (aI .i64) X6.Sources)),(aB X6.Join),(Lf (X6.Where.map X1)),(aI .u8 X6.Window.Kind),(aI .i64 X6.Window.Size),(aI .i64 X6.Window.Every),(aB X6.ByKey),(aI .u8 X6.Late)]] 10),(1,Ob (X0j.map Xg) 5),(2,Ob (List.map (X0e true X0) X08) 1),(4,Ob [(AV.list true (Xi.map X0))] 1)] rfl (by first|rfl|(simp[hc];done)|(simp[hc];rfl)) (X04 Xp Xi) ?_ (by repeat' first|exact X0q|refine Ya ?_ ?_) (by repeat' first|exact X0q|refine Ya ?_ ?_)
       revert h
       refine bI fun u4115 h4116=>rnI [.no] (o:=by repeat' first|apply Ya|exact pcM|(refine X8 h4116 rfl ?_;first|(simp;done)|(simp;omega)|(simp[hc];done)|(simp[hc];omega))|(refine X2 h4116 (by decide) ?_;first|(simp;done)|(simp;omega)|(simp[hc];done)|(simp[hc];omega))|exact Xw) ?_
       intro h
       exact wkT [(2,5)] (ih (k+1) hx1 _ _ nbF nbF o h C0)
      obtain rfl:=Xj rfl
      refine X0l [.stop 999998] ?_
      refine X3.denil 4 [(AV.list true (List.map X0 ([]:List Xb)))] rfl rfl ?_
      revert h
      refine bI fun u4117 h4118=>rnI [.no] (o:=by repeat' first|apply Ya|exact pcM|(refine X8 h4118 rfl ?_;first|(simp;done)|(simp;omega)|(simp[hc];done)|(simp[hc];omega))|(refine X2 h4118 (by decide) ?_;first|(simp;done)|(simp;omega)|(simp[hc];done)|(simp[hc];omega))|exact Xw) ?_
      intro h
      exact wkT [(2,5)] (ih (k+1) hx1 _ _ nbF nbF o h C0)
     obtain rfl:=X01 rfl
     rcases Xr with ⟨_|_,Xj⟩
     ·
      refine X0l [.stop 999998] ?_
      refine X3.freeze 3 (Xi.map X0) [1,2,3,7,11,14,120,122] [(0,Ob [AV.agg [(aI .u8 X6.Agg),(Lf (X6.Arg.map X1)),(Lf (List.map (aI .i64) X6.Sources)),(aB X6.Join),(Lf (X6.Where.map X1)),(aI .u8 X6.Window.Kind),(aI .i64 X6.Window.Size),(aI .i64 X6.Window.Every),(aB X6.ByKey),(aI .u8 X6.Late)]] 10),(1,Ob (X0j.map Xg) 5),(4,Ob [(AV.list true (Xi.map X0))] 1)] rfl (by first|rfl|(simp[hc];done)|(simp[hc];rfl)) (X04 Xp Xi) ?_ (by repeat' first|exact X0q|refine Ya ?_ ?_) (by repeat' first|exact X0q|refine Ya ?_ ?_)
      revert h
      refine bI fun u4119 h4120=>rnI [.no] (o:=by repeat' first|apply Ya|exact pcM|(refine X8 h4120 rfl ?_;first|(simp;done)|(simp;omega)|(simp[hc];done)|(simp[hc];omega))|(refine X2 h4120 (by decide) ?_;first|(simp;done)|(simp;omega)|(simp[hc];done)|(simp[hc];omega))|exact Xw) ?_
      intro h
      exact wkT [(2,5)] (ih (k+1) hx1 _ _ nbF nbF o h C0)
     obtain rfl:=Xj rfl
     refine X0l [.stop 999998] ?_
     refine X3.denil 4 [(AV.list true (List.map X0 ([]:List Xb)))] rfl rfl ?_
     revert h
     refine bI fun u4121 h4122=>rnI [.no] (o:=by repeat' first|apply Ya|exact pcM|(refine X8 h4122 rfl ?_;first|(simp;done)|(simp;omega)|(simp[hc];done)|(simp[hc];omega))|(refine X2 h4122 (by decide) ?_;first|(simp;done)|(simp;omega)|(simp[hc];done)|(simp[hc];omega))|exact Xw) ?_
     intro h
     exact wkT [(2,5)] (ih (k+1) hx1 _ _ nbF nbF o h C0)
    obtain rfl:=X0v rfl
    rcases X05 with ⟨_|_,X01⟩
    ·
     rcases Xr with ⟨_|_,Xj⟩
     ·
      refine X0l [.stop 999998] ?_
      refine X3.freeze 3 (Xi.map X0) [1,2,3,7,11,14,120,122] [(0,Ob [AV.agg [(aI .u8 X6.Agg),(Lf (X6.Arg.map X1)),(Lf (List.map (aI .i64) X6.Sources)),(aB X6.Join),(Lf (X6.Where.map X1)),(aI .u8 X6.Window.Kind),(aI .i64 X6.Window.Size),(aI .i64 X6.Window.Every),(aB X6.ByKey),(aI .u8 X6.Late)]] 10),(2,Ob (List.map (X0e true X0) X08) 1),(4,Ob [(AV.list true (Xi.map X0))] 1)] rfl (by first|rfl|(simp[hc];done)|(simp[hc];rfl)) (X04 Xp Xi) ?_ (by repeat' first|exact X0q|refine Ya ?_ ?_) (by repeat' first|exact X0q|refine Ya ?_ ?_)
      revert h
      refine bI fun u4123 h4124=>rnI [.no] (o:=by repeat' first|apply Ya|exact pcM|(refine X8 h4124 rfl ?_;first|(simp;done)|(simp;omega)|(simp[hc];done)|(simp[hc];omega))|(refine X2 h4124 (by decide) ?_;first|(simp;done)|(simp;omega)|(simp[hc];done)|(simp[hc];omega))|exact Xw) ?_
      intro h
      exact wkT [(2,5)] (ih (k+1) hx1 _ _ nbS nbF o h C0)
     obtain rfl:=Xj rfl
     refine X0l [.stop 999998] ?_
     refine X3.denil 4 [(AV.list true (List.map X0 ([]:List Xb)))] rfl rfl ?_
     revert h
     refine bI fun u4125 h4126=>rnI [.no] (o:=by repeat' first|apply Ya|exact pcM|(refine X8 h4126 rfl ?_;first|(simp;done)|(simp;omega)|(simp[hc];done)|(simp[hc];omega))|(refine X2 h4126 (by decide) ?_;first|(simp;done)|(simp;omega)|(simp[hc];done)|(simp[hc];omega))|exact Xw) ?_
     intro h
     exact wkT [(2,5)] (ih (k+1) hx1 _ _ nbS nbF o h C0)
    obtain rfl:=X01 rfl
    rcases Xr with ⟨_|_,Xj⟩
    ·
     refine X0l [.stop 999998] ?_
     refine X3.freeze 3 (Xi.map X0) [1,2,3,7,11,14,120,122] [(0,Ob [AV.agg [(aI .u8 X6.Agg),(Lf (X6.Arg.map X1)),(Lf (List.map (aI .i64) X6.Sources)),(aB X6.Join),(Lf (X6.Where.map X1)),(aI .u8 X6.Window.Kind),(aI .i64 X6.Window.Size),(aI .i64 X6.Window.Every),(aB X6.ByKey),(aI .u8 X6.Late)]] 10),(4,Ob [(AV.list true (Xi.map X0))] 1)] rfl (by first|rfl|(simp[hc];done)|(simp[hc];rfl)) (X04 Xp Xi) ?_ (by repeat' first|exact X0q|refine Ya ?_ ?_) (by repeat' first|exact X0q|refine Ya ?_ ?_)
     revert h
     refine bI fun u4127 h4128=>rnI [.no] (o:=by repeat' first|apply Ya|exact pcM|(refine X8 h4128 rfl ?_;first|(simp;done)|(simp;omega)|(simp[hc];done)|(simp[hc];omega))|(refine X2 h4128 (by decide) ?_;first|(simp;done)|(simp;omega)|(simp[hc];done)|(simp[hc];omega))|exact Xw) ?_
     intro h
     exact wkT [(2,5)] (ih (k+1) hx1 _ _ nbS nbF o h C0)
    obtain rfl:=Xj rfl
    refine X0l [.stop 999998] ?_
    refine X3.denil 4 [(AV.list true (List.map X0 ([]:List Xb)))] rfl rfl ?_
    revert h
    refine bI fun u4129 h4130=>rnI [.no] (o:=by repeat' first|apply Ya|exact pcM|(refine X8 h4130 rfl ?_;first|(simp;done)|(simp;omega)|(simp[hc];done)|(simp[hc];omega))|(refine X2 h4130 (by decide) ?_;first|(simp;done)|(simp;omega)|(simp[hc];done)|(simp[hc];omega))|exact Xw) ?_
    intro h
    exact wkT [(2,5)] (ih (k+1) hx1 _ _ nbS nbF o h C0)
   obtain rfl:=X55 rfl
   refine X3.round ?_
   revert h
   refine bI fun o4500 h4501=>rnI [.el (aI .i64 (X8l.length:Int)),Bt] ?_
   intro h
   refine wkT [] (X3.cut (X3b X8l Xze X6 Xyg X3v ([]:List (List Xb)) (k:Int) nbF nbS _ _ _ nbS _ h4501 ?_))
   intro X0j X08 Xi X0g X05 Xr eo4500;subst eo4500
   refine X3.glue ?_
   try dsimp only at h
   rcases X0g with ⟨_|_,X0v⟩
   ·
    rcases X05 with ⟨_|_,X01⟩
    ·
     rcases Xr with ⟨_|_,Xj⟩
     ·
      refine X0l [.stop 999998] ?_
      refine X3.freeze 3 (Xi.map X0) [1,2,3,7,11,14,120,122] [(0,Ob [AV.agg [(aI .u8 X6.Agg),(Lf (X6.Arg.map X1)),(Lf (List.map (aI .i64) X6.Sources)),(aB X6.Join),(Lf (X6.Where.map X1)),(aI .u8 X6.Window.Kind),(aI .i64 X6.Window.Size),(aI .i64 X6.Window.Every),(aB X6.ByKey),(aI .u8 X6.Late)]] 10),(1,Ob (X0j.map Xg) 5),(2,Ob (List.map (X0e true X0) X08) 1),(4,Ob [(AV.list true (Xi.map X0))] 1)] rfl (by first|rfl|(simp[hc];done)|(simp[hc];rfl)) (X04 Xp Xi) ?_ (by repeat' first|exact X0q|refine Ya ?_ ?_) (by repeat' first|exact X0q|refine Ya ?_ ?_)
      revert h
      refine bI fun u4502 h4503=>rnI [.no] (o:=by repeat' first|apply Ya|exact pcM|(refine X8 h4503 rfl ?_;first|(simp;done)|(simp;omega)|(simp[hc];done)|(simp[hc];omega))|(refine X2 h4503 (by decide) ?_;first|(simp;done)|(simp;omega)|(simp[hc];done)|(simp[hc];omega))|exact Xw) ?_
      intro h
      exact wkT [(2,5)] (ih (k+1) hx1 _ _ nbF nbF o h C0)
     obtain rfl:=Xj rfl
     refine X0l [.stop 999998] ?_
     refine X3.denil 4 [(AV.list true (List.map X0 ([]:List Xb)))] rfl rfl ?_
     revert h
     refine bI fun u4504 h4505=>rnI [.no] (o:=by repeat' first|apply Ya|exact pcM|(refine X8 h4505 rfl ?_;first|(simp;done)|(simp;omega)|(simp[hc];done)|(simp[hc];omega))|(refine X2 h4505 (by decide) ?_;first|(simp;done)|(simp;omega)|(simp[hc];done)|(simp[hc];omega))|exact Xw) ?_
     intro h
     exact wkT [(2,5)] (ih (k+1) hx1 _ _ nbF nbF o h C0)
    obtain rfl:=X01 rfl
    rcases Xr with ⟨_|_,Xj⟩
    ·
     refine X0l [.stop 999998] ?_
     refine X3.freeze 3 (Xi.map X0) [1,2,3,7,11,14,120,122] [(0,Ob [AV.agg [(aI .u8 X6.Agg),(Lf (X6.Arg.map X1)),(Lf (List.map (aI .i64) X6.Sources)),(aB X6.Join),(Lf (X6.Where.map X1)),(aI .u8 X6.Window.Kind),(aI .i64 X6.Window.Size),(aI .i64 X6.Window.Every),(aB X6.ByKey),(aI .u8 X6.Late)]] 10),(1,Ob (X0j.map Xg) 5),(4,Ob [(AV.list true (Xi.map X0))] 1)] rfl (by first|rfl|(simp[hc];done)|(simp[hc];rfl)) (X04 Xp Xi) ?_ (by repeat' first|exact X0q|refine Ya ?_ ?_) (by repeat' first|exact X0q|refine Ya ?_ ?_)
     revert h
     refine bI fun u4506 h4507=>rnI [.no] (o:=by repeat' first|apply Ya|exact pcM|(refine X8 h4507 rfl ?_;first|(simp;done)|(simp;omega)|(simp[hc];done)|(simp[hc];omega))|(refine X2 h4507 (by decide) ?_;first|(simp;done)|(simp;omega)|(simp[hc];done)|(simp[hc];omega))|exact Xw) ?_
     intro h
     exact wkT [(2,5)] (ih (k+1) hx1 _ _ nbF nbF o h C0)
    obtain rfl:=Xj rfl
    refine X0l [.stop 999998] ?_
    refine X3.denil 4 [(AV.list true (List.map X0 ([]:List Xb)))] rfl rfl ?_
    revert h
    refine bI fun u4508 h4509=>rnI [.no] (o:=by repeat' first|apply Ya|exact pcM|(refine X8 h4509 rfl ?_;first|(simp;done)|(simp;omega)|(simp[hc];done)|(simp[hc];omega))|(refine X2 h4509 (by decide) ?_;first|(simp;done)|(simp;omega)|(simp[hc];done)|(simp[hc];omega))|exact Xw) ?_
    intro h
    exact wkT [(2,5)] (ih (k+1) hx1 _ _ nbF nbF o h C0)
   obtain rfl:=X0v rfl
   rcases X05 with ⟨_|_,X01⟩
   ·
    rcases Xr with ⟨_|_,Xj⟩
    ·
     refine X0l [.stop 999998] ?_
     refine X3.freeze 3 (Xi.map X0) [1,2,3,7,11,14,120,122] [(0,Ob [AV.agg [(aI .u8 X6.Agg),(Lf (X6.Arg.map X1)),(Lf (List.map (aI .i64) X6.Sources)),(aB X6.Join),(Lf (X6.Where.map X1)),(aI .u8 X6.Window.Kind),(aI .i64 X6.Window.Size),(aI .i64 X6.Window.Every),(aB X6.ByKey),(aI .u8 X6.Late)]] 10),(2,Ob (List.map (X0e true X0) X08) 1),(4,Ob [(AV.list true (Xi.map X0))] 1)] rfl (by first|rfl|(simp[hc];done)|(simp[hc];rfl)) (X04 Xp Xi) ?_ (by repeat' first|exact X0q|refine Ya ?_ ?_) (by repeat' first|exact X0q|refine Ya ?_ ?_)
     revert h
     refine bI fun u4510 h4511=>rnI [.no] (o:=by repeat' first|apply Ya|exact pcM|(refine X8 h4511 rfl ?_;first|(simp;done)|(simp;omega)|(simp[hc];done)|(simp[hc];omega))|(refine X2 h4511 (by decide) ?_;first|(simp;done)|(simp;omega)|(simp[hc];done)|(simp[hc];omega))|exact Xw) ?_
     intro h
     exact wkT [(2,5)] (ih (k+1) hx1 _ _ nbS nbF o h C0)
    obtain rfl:=Xj rfl
    refine X0l [.stop 999998] ?_
    refine X3.denil 4 [(AV.list true (List.map X0 ([]:List Xb)))] rfl rfl ?_
    revert h
    refine bI fun u4512 h4513=>rnI [.no] (o:=by repeat' first|apply Ya|exact pcM|(refine X8 h4513 rfl ?_;first|(simp;done)|(simp;omega)|(simp[hc];done)|(simp[hc];omega))|(refine X2 h4513 (by decide) ?_;first|(simp;done)|(simp;omega)|(simp[hc];done)|(simp[hc];omega))|exact Xw) ?_
    intro h
    exact wkT [(2,5)] (ih (k+1) hx1 _ _ nbS nbF o h C0)
   obtain rfl:=X01 rfl
   rcases Xr with ⟨_|_,Xj⟩
   ·
    refine X0l [.stop 999998] ?_
    refine X3.freeze 3 (Xi.map X0) [1,2,3,7,11,14,120,122] [(0,Ob [AV.agg [(aI .u8 X6.Agg),(Lf (X6.Arg.map X1)),(Lf (List.map (aI .i64) X6.Sources)),(aB X6.Join),(Lf (X6.Where.map X1)),(aI .u8 X6.Window.Kind),(aI .i64 X6.Window.Size),(aI .i64 X6.Window.Every),(aB X6.ByKey),(aI .u8 X6.Late)]] 10),(4,Ob [(AV.list true (Xi.map X0))] 1)] rfl (by first|rfl|(simp[hc];done)|(simp[hc];rfl)) (X04 Xp Xi) ?_ (by repeat' first|exact X0q|refine Ya ?_ ?_) (by repeat' first|exact X0q|refine Ya ?_ ?_)
    revert h
    refine bI fun u4514 h4515=>rnI [.no] (o:=by repeat' first|apply Ya|exact pcM|(refine X8 h4515 rfl ?_;first|(simp;done)|(simp;omega)|(simp[hc];done)|(simp[hc];omega))|(refine X2 h4515 (by decide) ?_;first|(simp;done)|(simp;omega)|(simp[hc];done)|(simp[hc];omega))|exact Xw) ?_
    intro h
    exact wkT [(2,5)] (ih (k+1) hx1 _ _ nbS nbF o h C0)
   obtain rfl:=Xj rfl
   refine X0l [.stop 999998] ?_
   refine X3.denil 4 [(AV.list true (List.map X0 ([]:List Xb)))] rfl rfl ?_
   revert h
   refine bI fun u4516 h4517=>rnI [.no] (o:=by repeat' first|apply Ya|exact pcM|(refine X8 h4517 rfl ?_;first|(simp;done)|(simp;omega)|(simp[hc];done)|(simp[hc];omega))|(refine X2 h4517 (by decide) ?_;first|(simp;done)|(simp;omega)|(simp[hc];done)|(simp[hc];omega))|exact Xw) ?_
   intro h
   exact wkT [(2,5)] (ih (k+1) hx1 _ _ nbS nbF o h C0)
  obtain rfl:=X7i rfl
  rcases X41 with ⟨_|_,X55⟩
  ·
   refine X3.round ?_
   revert h
   refine bI fun o4887 h4888=>rnI [.el (aI .i64 (X8l.length:Int)),Bt] ?_
   intro h
   refine wkT [] (X3.cut (X3b X8l Xze X6 Xyg ([]:List X2u) X6d (k:Int) nbS nbF _ _ _ nbS _ h4888 ?_))
   intro X0j X08 Xi X0g X05 Xr eo4887;subst eo4887
   refine X3.glue ?_
   try dsimp only at h
   rcases X0g with ⟨_|_,X0v⟩
   ·
    rcases X05 with ⟨_|_,X01⟩
    ·
     rcases Xr with ⟨_|_,Xj⟩
     ·
      refine X0l [.stop 999998] ?_
      refine X3.freeze 3 (Xi.map X0) [1,2,3,7,11,14,120,122] [(0,Ob [AV.agg [(aI .u8 X6.Agg),(Lf (X6.Arg.map X1)),(Lf (List.map (aI .i64) X6.Sources)),(aB X6.Join),(Lf (X6.Where.map X1)),(aI .u8 X6.Window.Kind),(aI .i64 X6.Window.Size),(aI .i64 X6.Window.Every),(aB X6.ByKey),(aI .u8 X6.Late)]] 10),(1,Ob (X0j.map Xg) 5),(2,Ob (List.map (X0e true X0) X08) 1),(4,Ob [(AV.list true (Xi.map X0))] 1)] rfl (by first|rfl|(simp[hc];done)|(simp[hc];rfl)) (X04 Xp Xi) ?_ (by repeat' first|exact X0q|refine Ya ?_ ?_) (by repeat' first|exact X0q|refine Ya ?_ ?_)
      revert h
      refine bI fun u4889 h4890=>rnI [.no] (o:=by repeat' first|apply Ya|exact pcM|(refine X8 h4890 rfl ?_;first|(simp;done)|(simp;omega)|(simp[hc];done)|(simp[hc];omega))|(refine X2 h4890 (by decide) ?_;first|(simp;done)|(simp;omega)|(simp[hc];done)|(simp[hc];omega))|exact Xw) ?_
      intro h
      exact wkT [(2,5)] (ih (k+1) hx1 _ _ nbF nbF o h C0)
     obtain rfl:=Xj rfl
     refine X0l [.stop 999998] ?_
     refine X3.denil 4 [(AV.list true (List.map X0 ([]:List Xb)))] rfl rfl ?_
     revert h
     refine bI fun u4891 h4892=>rnI [.no] (o:=by repeat' first|apply Ya|exact pcM|(refine X8 h4892 rfl ?_;first|(simp;done)|(simp;omega)|(simp[hc];done)|(simp[hc];omega))|(refine X2 h4892 (by decide) ?_;first|(simp;done)|(simp;omega)|(simp[hc];done)|(simp[hc];omega))|exact Xw) ?_
     intro h
     exact wkT [(2,5)] (ih (k+1) hx1 _ _ nbF nbF o h C0)
    obtain rfl:=X01 rfl
    rcases Xr with ⟨_|_,Xj⟩
    ·
     refine X0l [.stop 999998] ?_
     refine X3.freeze 3 (Xi.map X0) [1,2,3,7,11,14,120,122] [(0,Ob [AV.agg [(aI .u8 X6.Agg),(Lf (X6.Arg.map X1)),(Lf (List.map (aI .i64) X6.Sources)),(aB X6.Join),(Lf (X6.Where.map X1)),(aI .u8 X6.Window.Kind),(aI .i64 X6.Window.Size),(aI .i64 X6.Window.Every),(aB X6.ByKey),(aI .u8 X6.Late)]] 10),(1,Ob (X0j.map Xg) 5),(4,Ob [(AV.list true (Xi.map X0))] 1)] rfl (by first|rfl|(simp[hc];done)|(simp[hc];rfl)) (X04 Xp Xi) ?_ (by repeat' first|exact X0q|refine Ya ?_ ?_) (by repeat' first|exact X0q|refine Ya ?_ ?_)
     revert h
     refine bI fun u4893 h4894=>rnI [.no] (o:=by repeat' first|apply Ya|exact pcM|(refine X8 h4894 rfl ?_;first|(simp;done)|(simp;omega)|(simp[hc];done)|(simp[hc];omega))|(refine X2 h4894 (by decide) ?_;first|(simp;done)|(simp;omega)|(simp[hc];done)|(simp[hc];omega))|exact Xw) ?_
     intro h
     exact wkT [(2,5)] (ih (k+1) hx1 _ _ nbF nbF o h C0)
    obtain rfl:=Xj rfl
    refine X0l [.stop 999998] ?_
    refine X3.denil 4 [(AV.list true (List.map X0 ([]:List Xb)))] rfl rfl ?_
    revert h
    refine bI fun u4895 h4896=>rnI [.no] (o:=by repeat' first|apply Ya|exact pcM|(refine X8 h4896 rfl ?_;first|(simp;done)|(simp;omega)|(simp[hc];done)|(simp[hc];omega))|(refine X2 h4896 (by decide) ?_;first|(simp;done)|(simp;omega)|(simp[hc];done)|(simp[hc];omega))|exact Xw) ?_
    intro h
    exact wkT [(2,5)] (ih (k+1) hx1 _ _ nbF nbF o h C0)
   obtain rfl:=X0v rfl
   rcases X05 with ⟨_|_,X01⟩
   ·
    rcases Xr with ⟨_|_,Xj⟩
    ·
     refine X0l [.stop 999998] ?_
     refine X3.freeze 3 (Xi.map X0) [1,2,3,7,11,14,120,122] [(0,Ob [AV.agg [(aI .u8 X6.Agg),(Lf (X6.Arg.map X1)),(Lf (List.map (aI .i64) X6.Sources)),(aB X6.Join),(Lf (X6.Where.map X1)),(aI .u8 X6.Window.Kind),(aI .i64 X6.Window.Size),(aI .i64 X6.Window.Every),(aB X6.ByKey),(aI .u8 X6.Late)]] 10),(2,Ob (List.map (X0e true X0) X08) 1),(4,Ob [(AV.list true (Xi.map X0))] 1)] rfl (by first|rfl|(simp[hc];done)|(simp[hc];rfl)) (X04 Xp Xi) ?_ (by repeat' first|exact X0q|refine Ya ?_ ?_) (by repeat' first|exact X0q|refine Ya ?_ ?_)
     revert h
     refine bI fun u4897 h4898=>rnI [.no] (o:=by repeat' first|apply Ya|exact pcM|(refine X8 h4898 rfl ?_;first|(simp;done)|(simp;omega)|(simp[hc];done)|(simp[hc];omega))|(refine X2 h4898 (by decide) ?_;first|(simp;done)|(simp;omega)|(simp[hc];done)|(simp[hc];omega))|exact Xw) ?_
     intro h
     exact wkT [(2,5)] (ih (k+1) hx1 _ _ nbS nbF o h C0)
    obtain rfl:=Xj rfl
    refine X0l [.stop 999998] ?_
    refine X3.denil 4 [(AV.list true (List.map X0 ([]:List Xb)))] rfl rfl ?_
    revert h
    refine bI fun u4899 h4900=>rnI [.no] (o:=by repeat' first|apply Ya|exact pcM|(refine X8 h4900 rfl ?_;first|(simp;done)|(simp;omega)|(simp[hc];done)|(simp[hc];omega))|(refine X2 h4900 (by decide) ?_;first|(simp;done)|(simp;omega)|(simp[hc];done)|(simp[hc];omega))|exact Xw) ?_
    intro h
    exact wkT [(2,5)] (ih (k+1) hx1 _ _ nbS nbF o h C0)
   obtain rfl:=X01 rfl
   rcases Xr with ⟨_|_,Xj⟩
   ·
    refine X0l [.stop 999998] ?_
    refine X3.freeze 3 (Xi.map X0) [1,2,3,7,11,14,120,122] [(0,Ob [AV.agg [(aI .u8 X6.Agg),(Lf (X6.Arg.map X1)),(Lf (List.map (aI .i64) X6.Sources)),(aB X6.Join),(Lf (X6.Where.map X1)),(aI .u8 X6.Window.Kind),(aI .i64 X6.Window.Size),(aI .i64 X6.Window.Every),(aB X6.ByKey),(aI .u8 X6.Late)]] 10),(4,Ob [(AV.list true (Xi.map X0))] 1)] rfl (by first|rfl|(simp[hc];done)|(simp[hc];rfl)) (X04 Xp Xi) ?_ (by repeat' first|exact X0q|refine Ya ?_ ?_) (by repeat' first|exact X0q|refine Ya ?_ ?_)
    revert h
    refine bI fun u4901 h4902=>rnI [.no] (o:=by repeat' first|apply Ya|exact pcM|(refine X8 h4902 rfl ?_;first|(simp;done)|(simp;omega)|(simp[hc];done)|(simp[hc];omega))|(refine X2 h4902 (by decide) ?_;first|(simp;done)|(simp;omega)|(simp[hc];done)|(simp[hc];omega))|exact Xw) ?_
    intro h
    exact wkT [(2,5)] (ih (k+1) hx1 _ _ nbS nbF o h C0)
   obtain rfl:=Xj rfl
   refine X0l [.stop 999998] ?_
   refine X3.denil 4 [(AV.list true (List.map X0 ([]:List Xb)))] rfl rfl ?_
   revert h
   refine bI fun u4903 h4904=>rnI [.no] (o:=by repeat' first|apply Ya|exact pcM|(refine X8 h4904 rfl ?_;first|(simp;done)|(simp;omega)|(simp[hc];done)|(simp[hc];omega))|(refine X2 h4904 (by decide) ?_;first|(simp;done)|(simp;omega)|(simp[hc];done)|(simp[hc];omega))|exact Xw) ?_
   intro h
   exact wkT [(2,5)] (ih (k+1) hx1 _ _ nbS nbF o h C0)
  obtain rfl:=X55 rfl
  refine X3.round ?_
  revert h
  refine bI fun o5274 h5275=>rnI [.el (aI .i64 (X8l.length:Int)),Bt] ?_
  intro h
  refine wkT [] (X3.cut (X3b X8l Xze X6 Xyg ([]:List X2u) ([]:List (List Xb)) (k:Int) nbS nbS _ _ _ nbS _ h5275 ?_))
  intro X0j X08 Xi X0g X05 Xr eo5274;subst eo5274
  refine X3.glue ?_
  try dsimp only at h
  rcases X0g with ⟨_|_,X0v⟩
  ·
   rcases X05 with ⟨_|_,X01⟩
   ·
    rcases Xr with ⟨_|_,Xj⟩
    ·
     refine X0l [.stop 999998] ?_
     refine X3.freeze 3 (Xi.map X0) [1,2,3,7,11,14,120,122] [(0,Ob [AV.agg [(aI .u8 X6.Agg),(Lf (X6.Arg.map X1)),(Lf (List.map (aI .i64) X6.Sources)),(aB X6.Join),(Lf (X6.Where.map X1)),(aI .u8 X6.Window.Kind),(aI .i64 X6.Window.Size),(aI .i64 X6.Window.Every),(aB X6.ByKey),(aI .u8 X6.Late)]] 10),(1,Ob (X0j.map Xg) 5),(2,Ob (List.map (X0e true X0) X08) 1),(4,Ob [(AV.list true (Xi.map X0))] 1)] rfl (by first|rfl|(simp[hc];done)|(simp[hc];rfl)) (X04 Xp Xi) ?_ (by repeat' first|exact X0q|refine Ya ?_ ?_) (by repeat' first|exact X0q|refine Ya ?_ ?_)
     revert h
     refine bI fun u5276 h5277=>rnI [.no] (o:=by repeat' first|apply Ya|exact pcM|(refine X8 h5277 rfl ?_;first|(simp;done)|(simp;omega)|(simp[hc];done)|(simp[hc];omega))|(refine X2 h5277 (by decide) ?_;first|(simp;done)|(simp;omega)|(simp[hc];done)|(simp[hc];omega))|exact Xw) ?_
     intro h
     exact wkT [(2,5)] (ih (k+1) hx1 _ _ nbF nbF o h C0)
    obtain rfl:=Xj rfl
    refine X0l [.stop 999998] ?_
    refine X3.denil 4 [(AV.list true (List.map X0 ([]:List Xb)))] rfl rfl ?_
    revert h
    refine bI fun u5278 h5279=>rnI [.no] (o:=by repeat' first|apply Ya|exact pcM|(refine X8 h5279 rfl ?_;first|(simp;done)|(simp;omega)|(simp[hc];done)|(simp[hc];omega))|(refine X2 h5279 (by decide) ?_;first|(simp;done)|(simp;omega)|(simp[hc];done)|(simp[hc];omega))|exact Xw) ?_
    intro h
    exact wkT [(2,5)] (ih (k+1) hx1 _ _ nbF nbF o h C0)
   obtain rfl:=X01 rfl
   rcases Xr with ⟨_|_,Xj⟩
   ·
    refine X0l [.stop 999998] ?_
    refine X3.freeze 3 (Xi.map X0) [1,2,3,7,11,14,120,122] [(0,Ob [AV.agg [(aI .u8 X6.Agg),(Lf (X6.Arg.map X1)),(Lf (List.map (aI .i64) X6.Sources)),(aB X6.Join),(Lf (X6.Where.map X1)),(aI .u8 X6.Window.Kind),(aI .i64 X6.Window.Size),(aI .i64 X6.Window.Every),(aB X6.ByKey),(aI .u8 X6.Late)]] 10),(1,Ob (X0j.map Xg) 5),(4,Ob [(AV.list true (Xi.map X0))] 1)] rfl (by first|rfl|(simp[hc];done)|(simp[hc];rfl)) (X04 Xp Xi) ?_ (by repeat' first|exact X0q|refine Ya ?_ ?_) (by repeat' first|exact X0q|refine Ya ?_ ?_)
    revert h
    refine bI fun u5280 h5281=>rnI [.no] (o:=by repeat' first|apply Ya|exact pcM|(refine X8 h5281 rfl ?_;first|(simp;done)|(simp;omega)|(simp[hc];done)|(simp[hc];omega))|(refine X2 h5281 (by decide) ?_;first|(simp;done)|(simp;omega)|(simp[hc];done)|(simp[hc];omega))|exact Xw) ?_
    intro h
    exact wkT [(2,5)] (ih (k+1) hx1 _ _ nbF nbF o h C0)
   obtain rfl:=Xj rfl
   refine X0l [.stop 999998] ?_
   refine X3.denil 4 [(AV.list true (List.map X0 ([]:List Xb)))] rfl rfl ?_
   revert h
   refine bI fun u5282 h5283=>rnI [.no] (o:=by repeat' first|apply Ya|exact pcM|(refine X8 h5283 rfl ?_;first|(simp;done)|(simp;omega)|(simp[hc];done)|(simp[hc];omega))|(refine X2 h5283 (by decide) ?_;first|(simp;done)|(simp;omega)|(simp[hc];done)|(simp[hc];omega))|exact Xw) ?_
   intro h
   exact wkT [(2,5)] (ih (k+1) hx1 _ _ nbF nbF o h C0)
  obtain rfl:=X0v rfl
  rcases X05 with ⟨_|_,X01⟩
  ·
   rcases Xr with ⟨_|_,Xj⟩
   ·
    refine X0l [.stop 999998] ?_
    refine X3.freeze 3 (Xi.map X0) [1,2,3,7,11,14,120,122] [(0,Ob [AV.agg [(aI .u8 X6.Agg),(Lf (X6.Arg.map X1)),(Lf (List.map (aI .i64) X6.Sources)),(aB X6.Join),(Lf (X6.Where.map X1)),(aI .u8 X6.Window.Kind),(aI .i64 X6.Window.Size),(aI .i64 X6.Window.Every),(aB X6.ByKey),(aI .u8 X6.Late)]] 10),(2,Ob (List.map (X0e true X0) X08) 1),(4,Ob [(AV.list true (Xi.map X0))] 1)] rfl (by first|rfl|(simp[hc];done)|(simp[hc];rfl)) (X04 Xp Xi) ?_ (by repeat' first|exact X0q|refine Ya ?_ ?_) (by repeat' first|exact X0q|refine Ya ?_ ?_)
    revert h
    refine bI fun u5284 h5285=>rnI [.no] (o:=by repeat' first|apply Ya|exact pcM|(refine X8 h5285 rfl ?_;first|(simp;done)|(simp;omega)|(simp[hc];done)|(simp[hc];omega))|(refine X2 h5285 (by decide) ?_;first|(simp;done)|(simp;omega)|(simp[hc];done)|(simp[hc];omega))|exact Xw) ?_
    intro h
    exact wkT [(2,5)] (ih (k+1) hx1 _ _ nbS nbF o h C0)
   obtain rfl:=Xj rfl
   refine X0l [.stop 999998] ?_
   refine X3.denil 4 [(AV.list true (List.map X0 ([]:List Xb)))] rfl rfl ?_
   revert h
   refine bI fun u5286 h5287=>rnI [.no] (o:=by repeat' first|apply Ya|exact pcM|(refine X8 h5287 rfl ?_;first|(simp;done)|(simp;omega)|(simp[hc];done)|(simp[hc];omega))|(refine X2 h5287 (by decide) ?_;first|(simp;done)|(simp;omega)|(simp[hc];done)|(simp[hc];omega))|exact Xw) ?_
   intro h
   exact wkT [(2,5)] (ih (k+1) hx1 _ _ nbS nbF o h C0)
  obtain rfl:=X01 rfl
  rcases Xr with ⟨_|_,Xj⟩
  ·
   refine X0l [.stop 999998] ?_
   refine X3.freeze 3 (Xi.map X0) [1,2,3,7,11,14,120,122] [(0,Ob [AV.agg [(aI .u8 X6.Agg),(Lf (X6.Arg.map X1)),(Lf (List.map (aI .i64) X6.Sources)),(aB X6.Join),(Lf (X6.Where.map X1)),(aI .u8 X6.Window.Kind),(aI .i64 X6.Window.Size),(aI .i64 X6.Window.Every),(aB X6.ByKey),(aI .u8 X6.Late)]] 10),(4,Ob [(AV.list true (Xi.map X0))] 1)] rfl (by first|rfl|(simp[hc];done)|(simp[hc];rfl)) (X04 Xp Xi) ?_ (by repeat' first|exact X0q|refine Ya ?_ ?_) (by repeat' first|exact X0q|refine Ya ?_ ?_)
   revert h
   refine bI fun u5288 h5289=>rnI [.no] (o:=by repeat' first|apply Ya|exact pcM|(refine X8 h5289 rfl ?_;first|(simp;done)|(simp;omega)|(simp[hc];done)|(simp[hc];omega))|(refine X2 h5289 (by decide) ?_;first|(simp;done)|(simp;omega)|(simp[hc];done)|(simp[hc];omega))|exact Xw) ?_
   intro h
   exact wkT [(2,5)] (ih (k+1) hx1 _ _ nbS nbF o h C0)
  obtain rfl:=Xj rfl
  refine X0l [.stop 999998] ?_
  refine X3.denil 4 [(AV.list true (List.map X0 ([]:List Xb)))] rfl rfl ?_
  revert h
  refine bI fun u5290 h5291=>rnI [.no] (o:=by repeat' first|apply Ya|exact pcM|(refine X8 h5291 rfl ?_;first|(simp;done)|(simp;omega)|(simp[hc];done)|(simp[hc];omega))|(refine X2 h5291 (by decide) ?_;first|(simp;done)|(simp;omega)|(simp[hc];done)|(simp[hc];omega))|exact Xw) ?_
  intro h
  exact wkT [(2,5)] (ih (k+1) hx1 _ _ nbS nbF o h C0)
end Go.Av.Tryz