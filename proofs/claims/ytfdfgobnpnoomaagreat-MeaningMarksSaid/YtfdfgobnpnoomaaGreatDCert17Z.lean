/- Printed by decomp.py: that the program computes the functions. -/
import Derived.Test.YtfdfgobnpnoomaaGreatDCert16Z
set_option linter.all false

namespace Go.Av.Tryz
open Go.Proofs Go.D
set_option maxRecDepth 10000
set_option maxHeartbeats 40000000
theorem Xbb {Q:X07->St->Mu->Prop} {μ:Mu} (X8l:(List (List Xb))) (X6:X03) (Xo6:Bool) (Xo5:(List X2u)) (hl:X8l.length<=140737488355328):∀ (xs:List (List Xb)) (k:Nat) (hx:X8l.drop k=xs) (X3v:(List (List Xb))) (X6d:(List (List Xb))) (X3p:Nb X3v) (X41:Nb X6d) (o:X51) (h:X16 X8l X6 Xo6 Xo5 xs k X3v X6d=some o)
  (C0:∀ (X22:(List (List Xb))) (X5e:(List (List Xb))) (X1i:Nb X22) (X31:Nb X5e),o=X51.x0 X22 X5e->X3 Tryz.prog 188 0 Q (.exit (.exit 2)) [] ⟨fr [(2,(AV.ptr 0 0 0)),(5,(aB Xo6)),(6,(AV.list true (Xo5.map Xg))),(15,(slE X1i.1 1 (List.map (X0e true X0) X22))),(16,(slE X31.1 2 (List.map (X0e true X0) X5e)))],hp ([(0,Ob [(Xl false X6)] 10)]++opE X1i.1 1 1 (List.map (X0e true X0) X22)++opE X31.1 2 1 (List.map (X0e true X0) X5e)),3⟩ μ),
  X3 Tryz.prog 188 0 Q (.loop (X4t 1 (Xu Tryz.f7))) [] ⟨fr [(1,(Lf (List.map (X0e false X0) X8l))),(2,(AV.ptr 0 0 0)),(5,(aB Xo6)),(6,(AV.list true (Xo5.map Xg))),(15,(slE X3p.1 1 (List.map (X0e true X0) X3v))),(16,(slE X41.1 2 (List.map (X0e true X0) X6d))),(17,(aI .i64 (k:Int)))],hp ([(0,Ob [(Xl false X6)] 10)]++opE X3p.1 1 1 (List.map (X0e true X0) X3v)++opE X41.1 2 1 (List.map (X0e true X0) X6d)),3⟩ μ:=by
 intro xs
 induction xs with
 |nil =>
  intro k hx X3v X6d X3p X41 o h C0
  have hk:=X1e hx
  have hc:decide ((k:Int)<(X8l.length:Int))=false:=Yf (by omega)
  rw[X16] at h
  rcases X3p with ⟨_|_,X7i⟩
  ·
   rcases X41 with ⟨_|_,X55⟩
   ·
    refine X3.round ?_
    revert h
    exact fun e=>Xc [.el (aI .i64 (X8l.length:Int)),Bf] (k:=wkT [] (C0 _ _  nbF nbF (oj e).symm))
   obtain rfl:=X55 rfl
   refine X3.round ?_
   revert h
   exact fun e=>Xc [.el (aI .i64 (X8l.length:Int)),Bf] (k:=wkT [] (C0 _ _  nbF nbS (oj e).symm))
  ·
   obtain rfl:=X7i rfl
   rcases X41 with ⟨_|_,X55⟩
   ·
    refine X3.round ?_
    revert h
    exact fun e=>Xc [.el (aI .i64 (X8l.length:Int)),Bf] (k:=wkT [] (C0 _ _  nbS nbF (oj e).symm))
   ·
    obtain rfl:=X55 rfl
    refine X3.round ?_
    revert h
    exact fun e=>Xc [.el (aI .i64 (X8l.length:Int)),Bf] (k:=wkT [] (C0 _ _  nbS nbS (oj e).symm))
 |cons x xs ih =>
  intro k hx X3v X6d X3p X41 o h C0
  obtain⟨hk,hg,hx1⟩:=X0t hx
  have hc:decide ((k:Int)<(X8l.length:Int))=true:=Yt (by omega)
  rw[X16] at h
  rcases X3p with ⟨_|_,X7i⟩
  ·
   rcases X41 with ⟨_|_,X55⟩
   ·
    refine X3.round ?_
    revert h
    refine brI (fun q=>?_) fun q=>?_
    ·
     intro h
     have h4002:x=[]:=List.isEmpty_iff.1 q
     revert h
     refine bI fun v4003 h4004=>bI fun u4005 h4006=>rnI [.el (aI .i64 (X8l.length:Int)),Bt,.el (X0e false X0 x),.ne false,.pure _ (X0 v4003),.no,.stop 999998] (o:=by repeat' first|apply Ya|exact pcM|(refine X8 h4006 rfl ?_;first|(simp;done)|(simp;omega)|(simp[hc,h4002];done)|(simp[hc,h4002];omega))|(refine X2 h4006 (by decide) ?_;first|(simp;done)|(simp;omega)|(simp[hc,h4002];done)|(simp[hc,h4002];omega))|exact Xw) ?_
     intro h
     refine X3.freeze 6 (List.map X0 (x++[v4003])) [1,2,5,6,16,17,106,116] [(0,Ob [AV.agg [(aI .u8 X6.Agg),(Lf (X6.Arg.map X1)),(Lf (List.map (aI .i64) X6.Sources)),(aB X6.Join),(Lf (X6.Where.map X1)),(aI .u8 X6.Window.Kind),(aI .i64 X6.Window.Size),(aI .i64 X6.Window.Every),(aB X6.ByKey),(aI .u8 X6.Late)]] 10),(1,Ob (List.map (X0e true X0) X3v) 1),(2,Ob (List.map (X0e true X0) X6d) 1),(5,Ob [AV.agg [(aB v4003.Mark),(aI .i64 v4003.Time),(aI .i64 v4003.Record.Key),(aI .i64 v4003.Record.Time),(aI .i64 v4003.Record.Value)]] 5),(7,Ob [(AV.list true (List.map X0 (x++[v4003])))] 1)] rfl (by first|rfl|(simp[hc,h4002];done)|(simp[hc,h4002];rfl)) (X04 Xp (x++[v4003])) ?_ (by repeat' first|exact X0q|refine Ya ?_ ?_) (by repeat' first|exact X0q|refine Ya ?_ ?_)
     revert h
     refine bI fun u4007 h4008=>bI fun o4322 h4323=>rnI [.no] (o:=by repeat' first|apply Ya|exact pcM|(refine X8 h4006 rfl ?_;first|(simp;done)|(simp;omega)|(simp[hc,h4002];done)|(simp[hc,h4002];omega))|(refine X2 h4006 (by decide) ?_;first|(simp;done)|(simp;omega)|(simp[hc,h4002];done)|(simp[hc,h4002];omega))|(refine X8 h4008 rfl ?_;first|(simp;done)|(simp;omega)|(simp[hc,h4002];done)|(simp[hc,h4002];omega))|(refine X2 h4008 (by decide) ?_;first|(simp;done)|(simp;omega)|(simp[hc,h4002];done)|(simp[hc,h4002];omega))|exact Xw) ?_
     intro h
     refine wkT [(1,8)] (X3.cut (X12 X8l X6 Xo6 Xo5 (X3v++[(x++[v4003])]) X6d (k:Int) nbF nbF _ _ _ nbS _ h4323 ?_))
     intro X0j X08 Xi X0g X05 Xr eo4322;subst eo4322
     refine X3.glue ?_
     try dsimp only at h
     rcases X0g with ⟨_|_,X0v⟩
     ·
      rcases X05 with ⟨_|_,X01⟩
      ·
       rcases Xr with ⟨_|_,Xj⟩
       ·
        refine X0l [.stop 999998] (o:=by repeat' first|apply Ya|exact pcM|(refine X8 h4006 rfl ?_;first|(simp;done)|(simp;omega)|(simp[hc,h4002];done)|(simp[hc,h4002];omega))|(refine X2 h4006 (by decide) ?_;first|(simp;done)|(simp;omega)|(simp[hc,h4002];done)|(simp[hc,h4002];omega))|(refine X8 h4008 rfl ?_;first|(simp;done)|(simp;omega)|(simp[hc,h4002];done)|(simp[hc,h4002];omega))|(refine X2 h4008 (by decide) ?_;first|(simp;done)|(simp;omega)|(simp[hc,h4002];done)|(simp[hc,h4002];omega))|exact Xw) ?_
        refine X3.freeze 3 (Xi.map X0) [1,2,5,6,15,17,146,148] [(0,Ob [AV.agg [(aI .u8 X6.Agg),(Lf (X6.Arg.map X1)),(Lf (List.map (aI .i64) X6.Sources)),(aB X6.Join),(Lf (X6.Where.map X1)),(aI .u8 X6.Window.Kind),(aI .i64 X6.Window.Size),(aI .i64 X6.Window.Every),(aB X6.ByKey),(aI .u8 X6.Late)]] 10),(1,Ob (List.map (X0e true X0) X0j) 1),(2,Ob (List.map (X0e true X0) X08) 1),(4,Ob [(AV.list true (Xi.map X0))] 1)] rfl (by first|rfl|(simp[hc,h4002];done)|(simp[hc,h4002];rfl)) (X04 Xp Xi) ?_ (by repeat' first|exact X0q|refine Ya ?_ ?_) (by repeat' first|exact X0q|refine Ya ?_ ?_)
        revert h
        refine bI fun u4324 h4325=>rnI [.no] (o:=by repeat' first|apply Ya|exact pcM|(refine X8 h4006 rfl ?_;first|(simp;done)|(simp;omega)|(simp[hc,h4002];done)|(simp[hc,h4002];omega))|(refine X2 h4006 (by decide) ?_;first|(simp;done)|(simp;omega)|(simp[hc,h4002];done)|(simp[hc,h4002];omega))|(refine X8 h4008 rfl ?_;first|(simp;done)|(simp;omega)|(simp[hc,h4002];done)|(simp[hc,h4002];omega))|(refine X2 h4008 (by decide) ?_;first|(simp;done)|(simp;omega)|(simp[hc,h4002];done)|(simp[hc,h4002];omega))|(refine X8 h4325 rfl ?_;first|(simp;done)|(simp;omega)|(simp[hc,h4002];done)|(simp[hc,h4002];omega))|(refine X2 h4325 (by decide) ?_;first|(simp;done)|(simp;omega)|(simp[hc,h4002];done)|(simp[hc,h4002];omega))|exact Xw) ?_
        intro h
        exact wkT [(2,5)] (ih (k+1) hx1 _ _ nbF nbF o h C0)
       obtain rfl:=Xj rfl
       refine X0l [.stop 999998] (o:=by repeat' first|apply Ya|exact pcM|(refine X8 h4006 rfl ?_;first|(simp;done)|(simp;omega)|(simp[hc,h4002];done)|(simp[hc,h4002];omega))|(refine X2 h4006 (by decide) ?_;first|(simp;done)|(simp;omega)|(simp[hc,h4002];done)|(simp[hc,h4002];omega))|(refine X8 h4008 rfl ?_;first|(simp;done)|(simp;omega)|(simp[hc,h4002];done)|(simp[hc,h4002];omega))|(refine X2 h4008 (by decide) ?_;first|(simp;done)|(simp;omega)|(simp[hc,h4002];done)|(simp[hc,h4002];omega))|exact Xw) ?_
       refine X3.denil 4 [(AV.list true (List.map X0 ([]:List Xb)))] rfl rfl ?_
       revert h
       refine bI fun u4326 h4327=>rnI [.no] (o:=by repeat' first|apply Ya|exact pcM|(refine X8 h4006 rfl ?_;first|(simp;done)|(simp;omega)|(simp[hc,h4002];done)|(simp[hc,h4002];omega))|(refine X2 h4006 (by decide) ?_;first|(simp;done)|(simp;omega)|(simp[hc,h4002];done)|(simp[hc,h4002];omega))|(refine X8 h4008 rfl ?_;first|(simp;done)|(simp;omega)|(simp[hc,h4002];done)|(simp[hc,h4002];omega))|(refine X2 h4008 (by decide) ?_;first|(simp;done)|(simp;omega)|(simp[hc,h4002];done)|(simp[hc,h4002];omega))|(refine X8 h4327 rfl ?_;first|(simp;done)|(simp;omega)|(simp[hc,h4002];done)|(simp[hc,h4002];omega))|(refine X2 h4327 (by decide) ?_;first|(simp;done)|(simp;omega)|(simp[hc,h4002];done)|(simp[hc,h4002];omega))|exact Xw) ?_
       intro h
       exact wkT [(2,5)] (ih (k+1) hx1 _ _ nbF nbF o h C0)
      obtain rfl:=X01 rfl
      rcases Xr with ⟨_|_,Xj⟩
      ·
       refine X0l [.stop 999998] (o:=by repeat' first|apply Ya|exact pcM|(refine X8 h4006 rfl ?_;first|(simp;done)|(simp;omega)|(simp[hc,h4002];done)|(simp[hc,h4002];omega))|(refine X2 h4006 (by decide) ?_;first|(simp;done)|(simp;omega)|(simp[hc,h4002];done)|(simp[hc,h4002];omega))|(refine X8 h4008 rfl ?_;first|(simp;done)|(simp;omega)|(simp[hc,h4002];done)|(simp[hc,h4002];omega))|(refine X2 h4008 (by decide) ?_;first|(simp;done)|(simp;omega)|(simp[hc,h4002];done)|(simp[hc,h4002];omega))|exact Xw) ?_
       refine X3.freeze 3 (Xi.map X0) [1,2,5,6,15,17,146,148] [(0,Ob [AV.agg [(aI .u8 X6.Agg),(Lf (X6.Arg.map X1)),(Lf (List.map (aI .i64) X6.Sources)),(aB X6.Join),(Lf (X6.Where.map X1)),(aI .u8 X6.Window.Kind),(aI .i64 X6.Window.Size),(aI .i64 X6.Window.Every),(aB X6.ByKey),(aI .u8 X6.Late)]] 10),(1,Ob (List.map (X0e true X0) X0j) 1),(4,Ob [(AV.list true (Xi.map X0))] 1)] rfl (by first|rfl|(simp[hc,h4002];done)|(simp[hc,h4002];rfl)) (X04 Xp Xi) ?_ (by repeat' first|exact X0q|refine Ya ?_ ?_) (by repeat' first|exact X0q|refine Ya ?_ ?_)
       revert h
       refine bI fun u4328 h4329=>rnI [.no] (o:=by repeat' first|apply Ya|exact pcM|(refine X8 h4006 rfl ?_;first|(simp;done)|(simp;omega)|(simp[hc,h4002];done)|(simp[hc,h4002];omega))|(refine X2 h4006 (by decide) ?_;first|(simp;done)|(simp;omega)|(simp[hc,h4002];done)|(simp[hc,h4002];omega))|(refine X8 h4008 rfl ?_;first|(simp;done)|(simp;omega)|(simp[hc,h4002];done)|(simp[hc,h4002];omega))|(refine X2 h4008 (by decide) ?_;first|(simp;done)|(simp;omega)|(simp[hc,h4002];done)|(simp[hc,h4002];omega))|(refine X8 h4329 rfl ?_;first|(simp;done)|(simp;omega)|(simp[hc,h4002];done)|(simp[hc,h4002];omega))|(refine X2 h4329 (by decide) ?_;first|(simp;done)|(simp;omega)|(simp[hc,h4002];done)|(simp[hc,h4002];omega))|exact Xw) ?_
       intro h
       exact wkT [(2,5)] (ih (k+1) hx1 _ _ nbF nbF o h C0)
      obtain rfl:=Xj rfl
      refine X0l [.stop 999998] (o:=by repeat' first|apply Ya|exact pcM|(refine X8 h4006 rfl ?_;first|(simp;done)|(simp;omega)|(simp[hc,h4002];done)|(simp[hc,h4002];omega))|(refine X2 h4006 (by decide) ?_;first|(simp;done)|(simp;omega)|(simp[hc,h4002];done)|(simp[hc,h4002];omega))|(refine X8 h4008 rfl ?_;first|(simp;done)|(simp;omega)|(simp[hc,h4002];done)|(simp[hc,h4002];omega))|(refine X2 h4008 (by decide) ?_;first|(simp;done)|(simp;omega)|(simp[hc,h4002];done)|(simp[hc,h4002];omega))|exact Xw) ?_
      refine X3.denil 4 [(AV.list true (List.map X0 ([]:List Xb)))] rfl rfl ?_
      revert h
      refine bI fun u4330 h4331=>rnI [.no] (o:=by repeat' first|apply Ya|exact pcM|(refine X8 h4006 rfl ?_;first|(simp;done)|(simp;omega)|(simp[hc,h4002];done)|(simp[hc,h4002];omega))|(refine X2 h4006 (by decide) ?_;first|(simp;done)|(simp;omega)|(simp[hc,h4002];done)|(simp[hc,h4002];omega))|(refine X8 h4008 rfl ?_;first|(simp;done)|(simp;omega)|(simp[hc,h4002];done)|(simp[hc,h4002];omega))|(refine X2 h4008 (by decide) ?_;first|(simp;done)|(simp;omega)|(simp[hc,h4002];done)|(simp[hc,h4002];omega))|(refine X8 h4331 rfl ?_;first|(simp;done)|(simp;omega)|(simp[hc,h4002];done)|(simp[hc,h4002];omega))|(refine X2 h4331 (by decide) ?_;first|(simp;done)|(simp;omega)|(simp[hc,h4002];done)|(simp[hc,h4002];omega))|exact Xw) ?_
      intro h
      exact wkT [(2,5)] (ih (k+1) hx1 _ _ nbF nbF o h C0)
     obtain rfl:=X0v rfl
     rcases X05 with ⟨_|_,X01⟩
     ·
      rcases Xr with ⟨_|_,Xj⟩
      ·
       refine X0l [.stop 999998] (o:=by repeat' first|apply Ya|exact pcM|(refine X8 h4006 rfl ?_;first|(simp;done)|(simp;omega)|(simp[hc,h4002];done)|(simp[hc,h4002];omega))|(refine X2 h4006 (by decide) ?_;first|(simp;done)|(simp;omega)|(simp[hc,h4002];done)|(simp[hc,h4002];omega))|(refine X8 h4008 rfl ?_;first|(simp;done)|(simp;omega)|(simp[hc,h4002];done)|(simp[hc,h4002];omega))|(refine X2 h4008 (by decide) ?_;first|(simp;done)|(simp;omega)|(simp[hc,h4002];done)|(simp[hc,h4002];omega))|exact Xw) ?_
       refine X3.freeze 3 (Xi.map X0) [1,2,5,6,15,17,146,148] [(0,Ob [AV.agg [(aI .u8 X6.Agg),(Lf (X6.Arg.map X1)),(Lf (List.map (aI .i64) X6.Sources)),(aB X6.Join),(Lf (X6.Where.map X1)),(aI .u8 X6.Window.Kind),(aI .i64 X6.Window.Size),(aI .i64 X6.Window.Every),(aB X6.ByKey),(aI .u8 X6.Late)]] 10),(2,Ob (List.map (X0e true X0) X08) 1),(4,Ob [(AV.list true (Xi.map X0))] 1)] rfl (by first|rfl|(simp[hc,h4002];done)|(simp[hc,h4002];rfl)) (X04 Xp Xi) ?_ (by repeat' first|exact X0q|refine Ya ?_ ?_) (by repeat' first|exact X0q|refine Ya ?_ ?_)
       revert h
       refine bI fun u4332 h4333=>rnI [.no] (o:=by repeat' first|apply Ya|exact pcM|(refine X8 h4006 rfl ?_;first|(simp;done)|(simp;omega)|(simp[hc,h4002];done)|(simp[hc,h4002];omega))|(refine X2 h4006 (by decide) ?_;first|(simp;done)|(simp;omega)|(simp[hc,h4002];done)|(simp[hc,h4002];omega))|(refine X8 h4008 rfl ?_;first|(simp;done)|(simp;omega)|(simp[hc,h4002];done)|(simp[hc,h4002];omega))|(refine X2 h4008 (by decide) ?_;first|(simp;done)|(simp;omega)|(simp[hc,h4002];done)|(simp[hc,h4002];omega))|(refine X8 h4333 rfl ?_;first|(simp;done)|(simp;omega)|(simp[hc,h4002];done)|(simp[hc,h4002];omega))|(refine X2 h4333 (by decide) ?_;first|(simp;done)|(simp;omega)|(simp[hc,h4002];done)|(simp[hc,h4002];omega))|exact Xw) ?_
       intro h
       exact wkT [(2,5)] (ih (k+1) hx1 _ _ nbS nbF o h C0)
      obtain rfl:=Xj rfl
      refine X0l [.stop 999998] (o:=by repeat' first|apply Ya|exact pcM|(refine X8 h4006 rfl ?_;first|(simp;done)|(simp;omega)|(simp[hc,h4002];done)|(simp[hc,h4002];omega))|(refine X2 h4006 (by decide) ?_;first|(simp;done)|(simp;omega)|(simp[hc,h4002];done)|(simp[hc,h4002];omega))|(refine X8 h4008 rfl ?_;first|(simp;done)|(simp;omega)|(simp[hc,h4002];done)|(simp[hc,h4002];omega))|(refine X2 h4008 (by decide) ?_;first|(simp;done)|(simp;omega)|(simp[hc,h4002];done)|(simp[hc,h4002];omega))|exact Xw) ?_
      refine X3.denil 4 [(AV.list true (List.map X0 ([]:List Xb)))] rfl rfl ?_
      revert h
      refine bI fun u4334 h4335=>rnI [.no] (o:=by repeat' first|apply Ya|exact pcM|(refine X8 h4006 rfl ?_;first|(simp;done)|(simp;omega)|(simp[hc,h4002];done)|(simp[hc,h4002];omega))|(refine X2 h4006 (by decide) ?_;first|(simp;done)|(simp;omega)|(simp[hc,h4002];done)|(simp[hc,h4002];omega))|(refine X8 h4008 rfl ?_;first|(simp;done)|(simp;omega)|(simp[hc,h4002];done)|(simp[hc,h4002];omega))|(refine X2 h4008 (by decide) ?_;first|(simp;done)|(simp;omega)|(simp[hc,h4002];done)|(simp[hc,h4002];omega))|(refine X8 h4335 rfl ?_;first|(simp;done)|(simp;omega)|(simp[hc,h4002];done)|(simp[hc,h4002];omega))|(refine X2 h4335 (by decide) ?_;first|(simp;done)|(simp;omega)|(simp[hc,h4002];done)|(simp[hc,h4002];omega))|exact Xw) ?_
      intro h
      exact wkT [(2,5)] (ih (k+1) hx1 _ _ nbS nbF o h C0)
     obtain rfl:=X01 rfl
     rcases Xr with ⟨_|_,Xj⟩
     ·
      refine X0l [.stop 999998] (o:=by repeat' first|apply Ya|exact pcM|(refine X8 h4006 rfl ?_;first|(simp;done)|(simp;omega)|(simp[hc,h4002];done)|(simp[hc,h4002];omega))|(refine X2 h4006 (by decide) ?_;first|(simp;done)|(simp;omega)|(simp[hc,h4002];done)|(simp[hc,h4002];omega))|(refine X8 h4008 rfl ?_;first|(simp;done)|(simp;omega)|(simp[hc,h4002];done)|(simp[hc,h4002];omega))|(refine X2 h4008 (by decide) ?_;first|(simp;done)|(simp;omega)|(simp[hc,h4002];done)|(simp[hc,h4002];omega))|exact Xw) ?_
      refine X3.freeze 3 (Xi.map X0) [1,2,5,6,15,17,146,148] [(0,Ob [AV.agg [(aI .u8 X6.Agg),(Lf (X6.Arg.map X1)),(Lf (List.map (aI .i64) X6.Sources)),(aB X6.Join),(Lf (X6.Where.map X1)),(aI .u8 X6.Window.Kind),(aI .i64 X6.Window.Size),(aI .i64 X6.Window.Every),(aB X6.ByKey),(aI .u8 X6.Late)]] 10),(4,Ob [(AV.list true (Xi.map X0))] 1)] rfl (by first|rfl|(simp[hc,h4002];done)|(simp[hc,h4002];rfl)) (X04 Xp Xi) ?_ (by repeat' first|exact X0q|refine Ya ?_ ?_) (by repeat' first|exact X0q|refine Ya ?_ ?_)
      revert h
      refine bI fun u4336 h4337=>rnI [.no] (o:=by repeat' first|apply Ya|exact pcM|(refine X8 h4006 rfl ?_;first|(simp;done)|(simp;omega)|(simp[hc,h4002];done)|(simp[hc,h4002];omega))|(refine X2 h4006 (by decide) ?_;first|(simp;done)|(simp;omega)|(simp[hc,h4002];done)|(simp[hc,h4002];omega))|(refine X8 h4008 rfl ?_;first|(simp;done)|(simp;omega)|(simp[hc,h4002];done)|(simp[hc,h4002];omega))|(refine X2 h4008 (by decide) ?_;first|(simp;done)|(simp;omega)|(simp[hc,h4002];done)|(simp[hc,h4002];omega))|(refine X8 h4337 rfl ?_;first|(simp;done)|(simp;omega)|(simp[hc,h4002];done)|(simp[hc,h4002];omega))|(refine X2 h4337 (by decide) ?_;first|(simp;done)|(simp;omega)|(simp[hc,h4002];done)|(simp[hc,h4002];omega))|exact Xw) ?_
      intro h
      exact wkT [(2,5)] (ih (k+1) hx1 _ _ nbS nbF o h C0)
     obtain rfl:=Xj rfl
     refine X0l [.stop 999998] (o:=by repeat' first|apply Ya|exact pcM|(refine X8 h4006 rfl ?_;first|(simp;done)|(simp;omega)|(simp[hc,h4002];done)|(simp[hc,h4002];omega))|(refine X2 h4006 (by decide) ?_;first|(simp;done)|(simp;omega)|(simp[hc,h4002];done)|(simp[hc,h4002];omega))|(refine X8 h4008 rfl ?_;first|(simp;done)|(simp;omega)|(simp[hc,h4002];done)|(simp[hc,h4002];omega))|(refine X2 h4008 (by decide) ?_;first|(simp;done)|(simp;omega)|(simp[hc,h4002];done)|(simp[hc,h4002];omega))|exact Xw) ?_
     refine X3.denil 4 [(AV.list true (List.map X0 ([]:List Xb)))] rfl rfl ?_
     revert h
     refine bI fun u4338 h4339=>rnI [.no] (o:=by repeat' first|apply Ya|exact pcM|(refine X8 h4006 rfl ?_;first|(simp;done)|(simp;omega)|(simp[hc,h4002];done)|(simp[hc,h4002];omega))|(refine X2 h4006 (by decide) ?_;first|(simp;done)|(simp;omega)|(simp[hc,h4002];done)|(simp[hc,h4002];omega))|(refine X8 h4008 rfl ?_;first|(simp;done)|(simp;omega)|(simp[hc,h4002];done)|(simp[hc,h4002];omega))|(refine X2 h4008 (by decide) ?_;first|(simp;done)|(simp;omega)|(simp[hc,h4002];done)|(simp[hc,h4002];omega))|(refine X8 h4339 rfl ?_;first|(simp;done)|(simp;omega)|(simp[hc,h4002];done)|(simp[hc,h4002];omega))|(refine X2 h4339 (by decide) ?_;first|(simp;done)|(simp;omega)|(simp[hc,h4002];done)|(simp[hc,h4002];omega))|exact Xw) ?_
     intro h
     exact wkT [(2,5)] (ih (k+1) hx1 _ _ nbS nbF o h C0)
    intro h
    have h4002:¬ (x=[]):=(fun e=>by rw[e] at q;cases q)
    revert h
    refine bI fun u4340 h4341=>bI fun v4342 h4343=>bI fun u4344 h4345=>rnI [.el (aI .i64 (X8l.length:Int)),Bt,.el (X0e false X0 x),.via (AV.list true (x.map X0)),.pure _ (X0 v4342),.no,.stop 999998] (o:=by repeat' first|apply Ya|exact pcM|(refine X8 h4341 rfl ?_;first|(simp;done)|(simp;omega)|(simp[hc,h4002];done)|(simp[hc,h4002];omega))|(refine X2 h4341 (by decide) ?_;first|(simp;done)|(simp;omega)|(simp[hc,h4002];done)|(simp[hc,h4002];omega))|(refine X8 h4345 rfl ?_;first|(simp;done)|(simp;omega)|(simp[hc,h4002];done)|(simp[hc,h4002];omega))|(refine X2 h4345 (by decide) ?_;first|(simp;done)|(simp;omega)|(simp[hc,h4002];done)|(simp[hc,h4002];omega))|exact Xw) ?_
    intro h
    refine X3.freeze 6 (List.map X0 (x++[v4342])) [1,2,5,6,16,17,106,116] [(0,Ob [AV.agg [(aI .u8 X6.Agg),(Lf (X6.Arg.map X1)),(Lf (List.map (aI .i64) X6.Sources)),(aB X6.Join),(Lf (X6.Where.map X1)),(aI .u8 X6.Window.Kind),(aI .i64 X6.Window.Size),(aI .i64 X6.Window.Every),(aB X6.ByKey),(aI .u8 X6.Late)]] 10),(1,Ob (List.map (X0e true X0) X3v) 1),(2,Ob (List.map (X0e true X0) X6d) 1),(5,Ob [AV.agg [(aB v4342.Mark),(aI .i64 v4342.Time),(aI .i64 v4342.Record.Key),(aI .i64 v4342.Record.Time),(aI .i64 v4342.Record.Value)]] 5),(7,Ob [(AV.list true (List.map X0 (x++[v4342])))] 1)] rfl (by first|rfl|(simp[hc,h4002];done)|(simp[hc,h4002];rfl)) (X04 Xp (x++[v4342])) ?_ (by repeat' first|exact X0q|refine Ya ?_ ?_) (by repeat' first|exact X0q|refine Ya ?_ ?_)
    revert h
    refine bI fun u4346 h4347=>bI fun o4557 h4558=>rnI [.no] (o:=by repeat' first|apply Ya|exact pcM|(refine X8 h4341 rfl ?_;first|(simp;done)|(simp;omega)|(simp[hc,h4002];done)|(simp[hc,h4002];omega))|(refine X2 h4341 (by decide) ?_;first|(simp;done)|(simp;omega)|(simp[hc,h4002];done)|(simp[hc,h4002];omega))|(refine X8 h4345 rfl ?_;first|(simp;done)|(simp;omega)|(simp[hc,h4002];done)|(simp[hc,h4002];omega))|(refine X2 h4345 (by decide) ?_;first|(simp;done)|(simp;omega)|(simp[hc,h4002];done)|(simp[hc,h4002];omega))|(refine X8 h4347 rfl ?_;first|(simp;done)|(simp;omega)|(simp[hc,h4002];done)|(simp[hc,h4002];omega))|(refine X2 h4347 (by decide) ?_;first|(simp;done)|(simp;omega)|(simp[hc,h4002];done)|(simp[hc,h4002];omega))|exact Xw) ?_
    intro h
    refine wkT [(1,8)] (X3.cut (X12 X8l X6 Xo6 Xo5 (X3v++[(x++[v4342])]) X6d (k:Int) nbF nbF _ _ _ nbS _ h4558 ?_))
    intro X0j X08 Xi X0g X05 Xr eo4557;subst eo4557
    refine X3.glue ?_
    try dsimp only at h
    rcases X0g with ⟨_|_,X0v⟩
    ·
     rcases X05 with ⟨_|_,X01⟩
     ·
      rcases Xr with ⟨_|_,Xj⟩
      ·
       refine X0l [.stop 999998] (o:=by repeat' first|apply Ya|exact pcM|(refine X8 h4341 rfl ?_;first|(simp;done)|(simp;omega)|(simp[hc,h4002];done)|(simp[hc,h4002];omega))|(refine X2 h4341 (by decide) ?_;first|(simp;done)|(simp;omega)|(simp[hc,h4002];done)|(simp[hc,h4002];omega))|(refine X8 h4345 rfl ?_;first|(simp;done)|(simp;omega)|(simp[hc,h4002];done)|(simp[hc,h4002];omega))|(refine X2 h4345 (by decide) ?_;first|(simp;done)|(simp;omega)|(simp[hc,h4002];done)|(simp[hc,h4002];omega))|(refine X8 h4347 rfl ?_;first|(simp;done)|(simp;omega)|(simp[hc,h4002];done)|(simp[hc,h4002];omega))|(refine X2 h4347 (by decide) ?_;first|(simp;done)|(simp;omega)|(simp[hc,h4002];done)|(simp[hc,h4002];omega))|exact Xw) ?_
       refine X3.freeze 3 (Xi.map X0) [1,2,5,6,15,17,146,148] [(0,Ob [AV.agg [(aI .u8 X6.Agg),(Lf (X6.Arg.map X1)),(Lf (List.map (aI .i64) X6.Sources)),(aB X6.Join),(Lf (X6.Where.map X1)),(aI .u8 X6.Window.Kind),(aI .i64 X6.Window.Size),(aI .i64 X6.Window.Every),(aB X6.ByKey),(aI .u8 X6.Late)]] 10),(1,Ob (List.map (X0e true X0) X0j) 1),(2,Ob (List.map (X0e true X0) X08) 1),(4,Ob [(AV.list true (Xi.map X0))] 1)] rfl (by first|rfl|(simp[hc,h4002];done)|(simp[hc,h4002];rfl)) (X04 Xp Xi) ?_ (by repeat' first|exact X0q|refine Ya ?_ ?_) (by repeat' first|exact X0q|refine Ya ?_ ?_)
       revert h
       refine bI fun u4559 h4560=>rnI [.no] (o:=by repeat' first|apply Ya|exact pcM|(refine X8 h4341 rfl ?_;first|(simp;done)|(simp;omega)|(simp[hc,h4002];done)|(simp[hc,h4002];omega))|(refine X2 h4341 (by decide) ?_;first|(simp;done)|(simp;omega)|(simp[hc,h4002];done)|(simp[hc,h4002];omega))|(refine X8 h4345 rfl ?_;first|(simp;done)|(simp;omega)|(simp[hc,h4002];done)|(simp[hc,h4002];omega))|(refine X2 h4345 (by decide) ?_;first|(simp;done)|(simp;omega)|(simp[hc,h4002];done)|(simp[hc,h4002];omega))|(refine X8 h4347 rfl ?_;first|(simp;done)|(simp;omega)|(simp[hc,h4002];done)|(simp[hc,h4002];omega))|(refine X2 h4347 (by decide) ?_;first|(simp;done)|(simp;omega)|(simp[hc,h4002];done)|(simp[hc,h4002];omega))|(refine X8 h4560 rfl ?_;first|(simp;done)|(simp;omega)|(simp[hc,h4002];done)|(simp[hc,h4002];omega))|(refine X2 h4560 (by decide) ?_;first|(simp;done)|(simp;omega)|(simp[hc,h4002];done)|(simp[hc,h4002];omega))|exact Xw) ?_
       intro h
       exact wkT [(2,5)] (ih (k+1) hx1 _ _ nbF nbF o h C0)
      obtain rfl:=Xj rfl
      refine X0l [.stop 999998] (o:=by repeat' first|apply Ya|exact pcM|(refine X8 h4341 rfl ?_;first|(simp;done)|(simp;omega)|(simp[hc,h4002];done)|(simp[hc,h4002];omega))|(refine X2 h4341 (by decide) ?_;first|(simp;done)|(simp;omega)|(simp[hc,h4002];done)|(simp[hc,h4002];omega))|(refine X8 h4345 rfl ?_;first|(simp;done)|(simp;omega)|(simp[hc,h4002];done)|(simp[hc,h4002];omega))|(refine X2 h4345 (by decide) ?_;first|(simp;done)|(simp;omega)|(simp[hc,h4002];done)|(simp[hc,h4002];omega))|(refine X8 h4347 rfl ?_;first|(simp;done)|(simp;omega)|(simp[hc,h4002];done)|(simp[hc,h4002];omega))|(refine X2 h4347 (by decide) ?_;first|(simp;done)|(simp;omega)|(simp[hc,h4002];done)|(simp[hc,h4002];omega))|exact Xw) ?_
      refine X3.denil 4 [(AV.list true (List.map X0 ([]:List Xb)))] rfl rfl ?_
      revert h
      refine bI fun u4561 h4562=>rnI [.no] (o:=by repeat' first|apply Ya|exact pcM|(refine X8 h4341 rfl ?_;first|(simp;done)|(simp;omega)|(simp[hc,h4002];done)|(simp[hc,h4002];omega))|(refine X2 h4341 (by decide) ?_;first|(simp;done)|(simp;omega)|(simp[hc,h4002];done)|(simp[hc,h4002];omega))|(refine X8 h4345 rfl ?_;first|(simp;done)|(simp;omega)|(simp[hc,h4002];done)|(simp[hc,h4002];omega))|(refine X2 h4345 (by decide) ?_;first|(simp;done)|(simp;omega)|(simp[hc,h4002];done)|(simp[hc,h4002];omega))|(refine X8 h4347 rfl ?_;first|(simp;done)|(simp;omega)|(simp[hc,h4002];done)|(simp[hc,h4002];omega))|(refine X2 h4347 (by decide) ?_;first|(simp;done)|(simp;omega)|(simp[hc,h4002];done)|(simp[hc,h4002];omega))|(refine X8 h4562 rfl ?_;first|(simp;done)|(simp;omega)|(simp[hc,h4002];done)|(simp[hc,h4002];omega))|(refine X2 h4562 (by decide) ?_;first|(simp;done)|(simp;omega)|(simp[hc,h4002];done)|(simp[hc,h4002];omega))|exact Xw) ?_
      intro h
      exact wkT [(2,5)] (ih (k+1) hx1 _ _ nbF nbF o h C0)
     obtain rfl:=X01 rfl
     rcases Xr with ⟨_|_,Xj⟩
     ·
      refine X0l [.stop 999998] (o:=by repeat' first|apply Ya|exact pcM|(refine X8 h4341 rfl ?_;first|(simp;done)|(simp;omega)|(simp[hc,h4002];done)|(simp[hc,h4002];omega))|(refine X2 h4341 (by decide) ?_;first|(simp;done)|(simp;omega)|(simp[hc,h4002];done)|(simp[hc,h4002];omega))|(refine X8 h4345 rfl ?_;first|(simp;done)|(simp;omega)|(simp[hc,h4002];done)|(simp[hc,h4002];omega))|(refine X2 h4345 (by decide) ?_;first|(simp;done)|(simp;omega)|(simp[hc,h4002];done)|(simp[hc,h4002];omega))|(refine X8 h4347 rfl ?_;first|(simp;done)|(simp;omega)|(simp[hc,h4002];done)|(simp[hc,h4002];omega))|(refine X2 h4347 (by decide) ?_;first|(simp;done)|(simp;omega)|(simp[hc,h4002];done)|(simp[hc,h4002];omega))|exact Xw) ?_
      refine X3.freeze 3 (Xi.map X0) [1,2,5,6,15,17,146,148] [(0,Ob [AV.agg [(aI .u8 X6.Agg),(Lf (X6.Arg.map X1)),(Lf (List.map (aI .i64) X6.Sources)),(aB X6.Join),(Lf (X6.Where.map X1)),(aI .u8 X6.Window.Kind),(aI .i64 X6.Window.Size),(aI .i64 X6.Window.Every),(aB X6.ByKey),(aI .u8 X6.Late)]] 10),(1,Ob (List.map (X0e true X0) X0j) 1),(4,Ob [(AV.list true (Xi.map X0))] 1)] rfl (by first|rfl|(simp[hc,h4002];done)|(simp[hc,h4002];rfl)) (X04 Xp Xi) ?_ (by repeat' first|exact X0q|refine Ya ?_ ?_) (by repeat' first|exact X0q|refine Ya ?_ ?_)
      revert h
      refine bI fun u4563 h4564=>rnI [.no] (o:=by repeat' first|apply Ya|exact pcM|(refine X8 h4341 rfl ?_;first|(simp;done)|(simp;omega)|(simp[hc,h4002];done)|(simp[hc,h4002];omega))|(refine X2 h4341 (by decide) ?_;first|(simp;done)|(simp;omega)|(simp[hc,h4002];done)|(simp[hc,h4002];omega))|(refine X8 h4345 rfl ?_;first|(simp;done)|(simp;omega)|(simp[hc,h4002];done)|(simp[hc,h4002];omega))|(refine X2 h4345 (by decide) ?_;first|(simp;done)|(simp;omega)|(simp[hc,h4002];done)|(simp[hc,h4002];omega))|(refine X8 h4347 rfl ?_;first|(simp;done)|(simp;omega)|(simp[hc,h4002];done)|(simp[hc,h4002];omega))|(refine X2 h4347 (by decide) ?_;first|(simp;done)|(simp;omega)|(simp[hc,h4002];done)|(simp[hc,h4002];omega))|(refine X8 h4564 rfl ?_;first|(simp;done)|(simp;omega)|(simp[hc,h4002];done)|(simp[hc,h4002];omega))|(refine X2 h4564 (by decide) ?_;first|(simp;done)|(simp;omega)|(simp[hc,h4002];done)|(simp[hc,h4002];omega))|exact Xw) ?_
      intro h
      exact wkT [(2,5)] (ih (k+1) hx1 _ _ nbF nbF o h C0)
     obtain rfl:=Xj rfl
     refine X0l [.stop 999998] (o:=by repeat' first|apply Ya|exact pcM|(refine X8 h4341 rfl ?_;first|(simp;done)|(simp;omega)|(simp[hc,h4002];done)|(simp[hc,h4002];omega))|(refine X2 h4341 (by decide) ?_;first|(simp;done)|(simp;omega)|(simp[hc,h4002];done)|(simp[hc,h4002];omega))|(refine X8 h4345 rfl ?_;first|(simp;done)|(simp;omega)|(simp[hc,h4002];done)|(simp[hc,h4002];omega))|(refine X2 h4345 (by decide) ?_;first|(simp;done)|(simp;omega)|(simp[hc,h4002];done)|(simp[hc,h4002];omega))|(refine X8 h4347 rfl ?_;first|(simp;done)|(simp;omega)|(simp[hc,h4002];done)|(simp[hc,h4002];omega))|(refine X2 h4347 (by decide) ?_;first|(simp;done)|(simp;omega)|(simp[hc,h4002];done)|(simp[hc,h4002];omega))|exact Xw) ?_
     refine X3.denil 4 [(AV.list true (List.map X0 ([]:List Xb)))] rfl rfl ?_
     revert h
     refine bI fun u4565 h4566=>rnI [.no] (o:=by repeat' first|apply Ya|exact pcM|(refine X8 h4341 rfl ?_;first|(simp;done)|(simp;omega)|(simp[hc,h4002];done)|(simp[hc,h4002];omega))|(refine X2 h4341 (by decide) ?_;first|(simp;done)|(simp;omega)|(simp[hc,h4002];done)|(simp[hc,h4002];omega))|(refine X8 h4345 rfl ?_;first|(simp;done)|(simp;omega)|(simp[hc,h4002];done)|(simp[hc,h4002];omega))|(refine X2 h4345 (by decide) ?_;first|(simp;done)|(simp;omega)|(simp[hc,h4002];done)|(simp[hc,h4002];omega))|(refine X8 h4347 rfl ?_;first|(simp;done)|(simp;omega)|(simp[hc,h4002];done)|(simp[hc,h4002];omega))|(refine X2 h4347 (by decide) ?_;first|(simp;done)|(simp;omega)|(simp[hc,h4002];done)|(simp[hc,h4002];omega))|(refine X8 h4566 rfl ?_;first|(simp;done)|(simp;omega)|(simp[hc,h4002];done)|(simp[hc,h4002];omega))|(refine X2 h4566 (by decide) ?_;first|(simp;done)|(simp;omega)|(simp[hc,h4002];done)|(simp[hc,h4002];omega))|exact Xw) ?_
     intro h
     exact wkT [(2,5)] (ih (k+1) hx1 _ _ nbF nbF o h C0)
    obtain rfl:=X0v rfl
    rcases X05 with ⟨_|_,X01⟩
    ·
     rcases Xr with ⟨_|_,Xj⟩
     ·
      refine X0l [.stop 999998] (o:=by repeat' first|apply Ya|exact pcM|(refine X8 h4341 rfl ?_;first|(simp;done)|(simp;omega)|(simp[hc,h4002];done)|(simp[hc,h4002];omega))|(refine X2 h4341 (by decide) ?_;first|(simp;done)|(simp;omega)|(simp[hc,h4002];done)|(simp[hc,h4002];omega))|(refine X8 h4345 rfl ?_;first|(simp;done)|(simp;omega)|(simp[hc,h4002];done)|(simp[hc,h4002];omega))|(refine X2 h4345 (by decide) ?_;first|(simp;done)|(simp;omega)|(simp[hc,h4002];done)|(simp[hc,h4002];omega))|(refine X8 h4347 rfl ?_;first|(simp;done)|(simp;omega)|(simp[hc,h4002];done)|(simp[hc,h4002];omega))|(refine X2 h4347 (by decide) ?_;first|(simp;done)|(simp;omega)|(simp[hc,h4002];done)|(simp[hc,h4002];omega))|exact Xw) ?_
      refine X3.freeze 3 (Xi.map X0) [1,2,5,6,15,17,146,148] [(0,Ob [AV.agg [(aI .u8 X6.Agg),(Lf (X6.Arg.map X1)),(Lf (List.map (aI .i64) X6.Sources)),(aB X6.Join),(Lf (X6.Where.map X1)),(aI .u8 X6.Window.Kind),(aI .i64 X6.Window.Size),(aI .i64 X6.Window.Every),(aB X6.ByKey),(aI .u8 X6.Late)]] 10),(2,Ob (List.map (X0e true X0) X08) 1),(4,Ob [(AV.list true (Xi.map X0))] 1)] rfl (by first|rfl|(simp[hc,h4002];done)|(simp[hc,h4002];rfl)) (X04 Xp Xi) ?_ (by repeat' first|exact X0q|refine Ya ?_ ?_) (by repeat' first|exact X0q|refine Ya ?_ ?_)
      revert h
      refine bI fun u4567 h4568=>rnI [.no] (o:=by repeat' first|apply Ya|exact pcM|(refine X8 h4341 rfl ?_;first|(simp;done)|(simp;omega)|(simp[hc,h4002];done)|(simp[hc,h4002];omega))|(refine X2 h4341 (by decide) ?_;first|(simp;done)|(simp;omega)|(simp[hc,h4002];done)|(simp[hc,h4002];omega))|(refine X8 h4345 rfl ?_;first|(simp;done)|(simp;omega)|(simp[hc,h4002];done)|(simp[hc,h4002];omega))|(refine X2 h4345 (by decide) ?_;first|(simp;done)|(simp;omega)|(simp[hc,h4002];done)|(simp[hc,h4002];omega))|(refine X8 h4347 rfl ?_;first|(simp;done)|(simp;omega)|(simp[hc,h4002];done)|(simp[hc,h4002];omega))|(refine X2 h4347 (by decide) ?_;first|(simp;done)|(simp;omega)|(simp[hc,h4002];done)|(simp[hc,h4002];omega))|(refine X8 h4568 rfl ?_;first|(simp;done)|(simp;omega)|(simp[hc,h4002];done)|(simp[hc,h4002];omega))|(refine X2 h4568 (by decide) ?_;first|(simp;done)|(simp;omega)|(simp[hc,h4002];done)|(simp[hc,h4002];omega))|exact Xw) ?_
      intro h
      exact wkT [(2,5)] (ih (k+1) hx1 _ _ nbS nbF o h C0)
     obtain rfl:=Xj rfl
     refine X0l [.stop 999998] (o:=by repeat' first|apply Ya|exact pcM|(refine X8 h4341 rfl ?_;first|(simp;done)|(simp;omega)|(simp[hc,h4002];done)|(simp[hc,h4002];omega))|(refine X2 h4341 (by decide) ?_;first|(simp;done)|(simp;omega)|(simp[hc,h4002];done)|(simp[hc,h4002];omega))|(refine X8 h4345 rfl ?_;first|(simp;done)|(simp;omega)|(simp[hc,h4002];done)|(simp[hc,h4002];omega))|(refine X2 h4345 (by decide) ?_;first|(simp;done)|(simp;omega)|(simp[hc,h4002];done)|(simp[hc,h4002];omega))|(refine X8 h4347 rfl ?_;first|(simp;done)|(simp;omega)|(simp[hc,h4002];done)|(simp[hc,h4002];omega))|(refine X2 h4347 (by decide) ?_;first|(simp;done)|(simp;omega)|(simp[hc,h4002];done)|(simp[hc,h4002];omega))|exact Xw) ?_
     refine X3.denil 4 [(AV.list true (List.map X0 ([]:List Xb)))] rfl rfl ?_
     revert h
     refine bI fun u4569 h4570=>rnI [.no] (o:=by repeat' first|apply Ya|exact pcM|(refine X8 h4341 rfl ?_;first|(simp;done)|(simp;omega)|(simp[hc,h4002];done)|(simp[hc,h4002];omega))|(refine X2 h4341 (by decide) ?_;first|(simp;done)|(simp;omega)|(simp[hc,h4002];done)|(simp[hc,h4002];omega))|(refine X8 h4345 rfl ?_;first|(simp;done)|(simp;omega)|(simp[hc,h4002];done)|(simp[hc,h4002];omega))|(refine X2 h4345 (by decide) ?_;first|(simp;done)|(simp;omega)|(simp[hc,h4002];done)|(simp[hc,h4002];omega))|(refine X8 h4347 rfl ?_;first|(simp;done)|(simp;omega)|(simp[hc,h4002];done)|(simp[hc,h4002];omega))|(refine X2 h4347 (by decide) ?_;first|(simp;done)|(simp;omega)|(simp[hc,h4002];done)|(simp[hc,h4002];omega))|(refine X8 h4570 rfl ?_;first|(simp;done)|(simp;omega)|(simp[hc,h4002];done)|(simp[hc,h4002];omega))|(refine X2 h4570 (by decide) ?_;first|(simp;done)|(simp;omega)|(simp[hc,h4002];done)|(simp[hc,h4002];omega))|exact Xw) ?_
     intro h
     exact wkT [(2,5)] (ih (k+1) hx1 _ _ nbS nbF o h C0)
    obtain rfl:=X01 rfl
    rcases Xr with ⟨_|_,Xj⟩
    ·
     refine X0l [.stop 999998] (o:=by repeat' first|apply Ya|exact pcM|(refine X8 h4341 rfl ?_;first|(simp;done)|(simp;omega)|(simp[hc,h4002];done)|(simp[hc,h4002];omega))|(refine X2 h4341 (by decide) ?_;first|(simp;done)|(simp;omega)|(simp[hc,h4002];done)|(simp[hc,h4002];omega))|(refine X8 h4345 rfl ?_;first|(simp;done)|(simp;omega)|(simp[hc,h4002];done)|(simp[hc,h4002];omega))|(refine X2 h4345 (by decide) ?_;first|(simp;done)|(simp;omega)|(simp[hc,h4002];done)|(simp[hc,h4002];omega))|(refine X8 h4347 rfl ?_;first|(simp;done)|(simp;omega)|(simp[hc,h4002];done)|(simp[hc,h4002];omega))|(refine X2 h4347 (by decide) ?_;first|(simp;done)|(simp;omega)|(simp[hc,h4002];done)|(simp[hc,h4002];omega))|exact Xw) ?_
     refine X3.freeze 3 (Xi.map X0) [1,2,5,6,15,17,146,148] [(0,Ob [AV.agg [(aI .u8 X6.Agg),(Lf (X6.Arg.map X1)),(Lf (List.map (aI .i64) X6.Sources)),(aB X6.Join),(Lf (X6.Where.map X1)),(aI .u8 X6.Window.Kind),(aI .i64 X6.Window.Size),(aI .i64 X6.Window.Every),(aB X6.ByKey),(aI .u8 X6.Late)]] 10),(4,Ob [(AV.list true (Xi.map X0))] 1)] rfl (by first|rfl|(simp[hc,h4002];done)|(simp[hc,h4002];rfl)) (X04 Xp Xi) ?_ (by repeat' first|exact X0q|refine Ya ?_ ?_) (by repeat' first|exact X0q|refine Ya ?_ ?_)
     revert h
     refine bI fun u4571 h4572=>rnI [.no] (o:=by repeat' first|apply Ya|exact pcM|(refine X8 h4341 rfl ?_;first|(simp;done)|(simp;omega)|(simp[hc,h4002];done)|(simp[hc,h4002];omega))|(refine X2 h4341 (by decide) ?_;first|(simp;done)|(simp;omega)|(simp[hc,h4002];done)|(simp[hc,h4002];omega))|(refine X8 h4345 rfl ?_;first|(simp;done)|(simp;omega)|(simp[hc,h4002];done)|(simp[hc,h4002];omega))|(refine X2 h4345 (by decide) ?_;first|(simp;done)|(simp;omega)|(simp[hc,h4002];done)|(simp[hc,h4002];omega))|(refine X8 h4347 rfl ?_;first|(simp;done)|(simp;omega)|(simp[hc,h4002];done)|(simp[hc,h4002];omega))|(refine X2 h4347 (by decide) ?_;first|(simp;done)|(simp;omega)|(simp[hc,h4002];done)|(simp[hc,h4002];omega))|(refine X8 h4572 rfl ?_;first|(simp;done)|(simp;omega)|(simp[hc,h4002];done)|(simp[hc,h4002];omega))|(refine X2 h4572 (by decide) ?_;first|(simp;done)|(simp;omega)|(simp[hc,h4002];done)|(simp[hc,h4002];omega))|exact Xw) ?_
     intro h
     exact wkT [(2,5)] (ih (k+1) hx1 _ _ nbS nbF o h C0)
    obtain rfl:=Xj rfl
    refine X0l [.stop 999998] (o:=by repeat' first|apply Ya|exact pcM|(refine X8 h4341 rfl ?_;first|(simp;done)|(simp;omega)|(simp[hc,h4002];done)|(simp[hc,h4002];omega))|(refine X2 h4341 (by decide) ?_;first|(simp;done)|(simp;omega)|(simp[hc,h4002];done)|(simp[hc,h4002];omega))|(refine X8 h4345 rfl ?_;first|(simp;done)|(simp;omega)|(simp[hc,h4002];done)|(simp[hc,h4002];omega))|(refine X2 h4345 (by decide) ?_;first|(simp;done)|(simp;omega)|(simp[hc,h4002];done)|(simp[hc,h4002];omega))|(refine X8 h4347 rfl ?_;first|(simp;done)|(simp;omega)|(simp[hc,h4002];done)|(simp[hc,h4002];omega))|(refine X2 h4347 (by decide) ?_;first|(simp;done)|(simp;omega)|(simp[hc,h4002];done)|(simp[hc,h4002];omega))|exact Xw) ?_
    refine X3.denil 4 [(AV.list true (List.map X0 ([]:List Xb)))] rfl rfl ?_
    revert h
    refine bI fun u4573 h4574=>rnI [.no] (o:=by repeat' first|apply Ya|exact pcM|(refine X8 h4341 rfl ?_;first|(simp;done)|(simp;omega)|(simp[hc,h4002];done)|(simp[hc,h4002];omega))|(refine X2 h4341 (by decide) ?_;first|(simp;done)|(simp;omega)|(simp[hc,h4002];done)|(simp[hc,h4002];omega))|(refine X8 h4345 rfl ?_;first|(simp;done)|(simp;omega)|(simp[hc,h4002];done)|(simp[hc,h4002];omega))|(refine X2 h4345 (by decide) ?_;first|(simp;done)|(simp;omega)|(simp[hc,h4002];done)|(simp[hc,h4002];omega))|(refine X8 h4347 rfl ?_;first|(simp;done)|(simp;omega)|(simp[hc,h4002];done)|(simp[hc,h4002];omega))|(refine X2 h4347 (by decide) ?_;first|(simp;done)|(simp;omega)|(simp[hc,h4002];done)|(simp[hc,h4002];omega))|(refine X8 h4574 rfl ?_;first|(simp;done)|(simp;omega)|(simp[hc,h4002];done)|(simp[hc,h4002];omega))|(refine X2 h4574 (by decide) ?_;first|(simp;done)|(simp;omega)|(simp[hc,h4002];done)|(simp[hc,h4002];omega))|exact Xw) ?_
    intro h
    exact wkT [(2,5)] (ih (k+1) hx1 _ _ nbS nbF o h C0)
   obtain rfl:=X55 rfl
   refine X3.round ?_
   revert h
   refine brI (fun q=>?_) fun q=>?_
   ·
    intro h
    have h4575:x=[]:=List.isEmpty_iff.1 q
    revert h
    refine bI fun v4576 h4577=>bI fun u4578 h4579=>rnI [.el (aI .i64 (X8l.length:Int)),Bt,.el (X0e false X0 x),.ne false,.pure _ (X0 v4576),.no,.stop 999998] (o:=by repeat' first|apply Ya|exact pcM|(refine X8 h4579 rfl ?_;first|(simp;done)|(simp;omega)|(simp[hc,h4575];done)|(simp[hc,h4575];omega))|(refine X2 h4579 (by decide) ?_;first|(simp;done)|(simp;omega)|(simp[hc,h4575];done)|(simp[hc,h4575];omega))|exact Xw) ?_
    intro h
    refine X3.freeze 6 (List.map X0 (x++[v4576])) [1,2,5,6,16,17,106,116] [(0,Ob [AV.agg [(aI .u8 X6.Agg),(Lf (X6.Arg.map X1)),(Lf (List.map (aI .i64) X6.Sources)),(aB X6.Join),(Lf (X6.Where.map X1)),(aI .u8 X6.Window.Kind),(aI .i64 X6.Window.Size),(aI .i64 X6.Window.Every),(aB X6.ByKey),(aI .u8 X6.Late)]] 10),(1,Ob (List.map (X0e true X0) X3v) 1),(5,Ob [AV.agg [(aB v4576.Mark),(aI .i64 v4576.Time),(aI .i64 v4576.Record.Key),(aI .i64 v4576.Record.Time),(aI .i64 v4576.Record.Value)]] 5),(7,Ob [(AV.list true (List.map X0 (x++[v4576])))] 1)] rfl (by first|rfl|(simp[hc,h4575];done)|(simp[hc,h4575];rfl)) (X04 Xp (x++[v4576])) ?_ (by repeat' first|exact X0q|refine Ya ?_ ?_) (by repeat' first|exact X0q|refine Ya ?_ ?_)
    revert h
    refine bI fun u4580 h4581=>bI fun o4791 h4792=>rnI [.no] (o:=by repeat' first|apply Ya|exact pcM|(refine X8 h4579 rfl ?_;first|(simp;done)|(simp;omega)|(simp[hc,h4575];done)|(simp[hc,h4575];omega))|(refine X2 h4579 (by decide) ?_;first|(simp;done)|(simp;omega)|(simp[hc,h4575];done)|(simp[hc,h4575];omega))|(refine X8 h4581 rfl ?_;first|(simp;done)|(simp;omega)|(simp[hc,h4575];done)|(simp[hc,h4575];omega))|(refine X2 h4581 (by decide) ?_;first|(simp;done)|(simp;omega)|(simp[hc,h4575];done)|(simp[hc,h4575];omega))|exact Xw) ?_
    intro h
    refine wkT [(1,8)] (X3.cut (X12 X8l X6 Xo6 Xo5 (X3v++[(x++[v4576])]) ([]:List (List Xb)) (k:Int) nbF nbS _ _ _ nbS _ h4792 ?_))
    intro X0j X08 Xi X0g X05 Xr eo4791;subst eo4791
    refine X3.glue ?_
    try dsimp only at h
    rcases X0g with ⟨_|_,X0v⟩
    ·
     rcases X05 with ⟨_|_,X01⟩
     ·
      rcases Xr with ⟨_|_,Xj⟩
      ·
       refine X0l [.stop 999998] (o:=by repeat' first|apply Ya|exact pcM|(refine X8 h4579 rfl ?_;first|(simp;done)|(simp;omega)|(simp[hc,h4575];done)|(simp[hc,h4575];omega))|(refine X2 h4579 (by decide) ?_;first|(simp;done)|(simp;omega)|(simp[hc,h4575];done)|(simp[hc,h4575];omega))|(refine X8 h4581 rfl ?_;first|(simp;done)|(simp;omega)|(simp[hc,h4575];done)|(simp[hc,h4575];omega))|(refine X2 h4581 (by decide) ?_;first|(simp;done)|(simp;omega)|(simp[hc,h4575];done)|(simp[hc,h4575];omega))|exact Xw) ?_
       refine X3.freeze 3 (Xi.map X0) [1,2,5,6,15,17,146,148] [(0,Ob [AV.agg [(aI .u8 X6.Agg),(Lf (X6.Arg.map X1)),(Lf (List.map (aI .i64) X6.Sources)),(aB X6.Join),(Lf (X6.Where.map X1)),(aI .u8 X6.Window.Kind),(aI .i64 X6.Window.Size),(aI .i64 X6.Window.Every),(aB X6.ByKey),(aI .u8 X6.Late)]] 10),(1,Ob (List.map (X0e true X0) X0j) 1),(2,Ob (List.map (X0e true X0) X08) 1),(4,Ob [(AV.list true (Xi.map X0))] 1)] rfl (by first|rfl|(simp[hc,h4575];done)|(simp[hc,h4575];rfl)) (X04 Xp Xi) ?_ (by repeat' first|exact X0q|refine Ya ?_ ?_) (by repeat' first|exact X0q|refine Ya ?_ ?_)
       revert h
       refine bI fun u4793 h4794=>rnI [.no] (o:=by repeat' first|apply Ya|exact pcM|(refine X8 h4579 rfl ?_;first|(simp;done)|(simp;omega)|(simp[hc,h4575];done)|(simp[hc,h4575];omega))|(refine X2 h4579 (by decide) ?_;first|(simp;done)|(simp;omega)|(simp[hc,h4575];done)|(simp[hc,h4575];omega))|(refine X8 h4581 rfl ?_;first|(simp;done)|(simp;omega)|(simp[hc,h4575];done)|(simp[hc,h4575];omega))|(refine X2 h4581 (by decide) ?_;first|(simp;done)|(simp;omega)|(simp[hc,h4575];done)|(simp[hc,h4575];omega))|(refine X8 h4794 rfl ?_;first|(simp;done)|(simp;omega)|(simp[hc,h4575];done)|(simp[hc,h4575];omega))|(refine X2 h4794 (by decide) ?_;first|(simp;done)|(simp;omega)|(simp[hc,h4575];done)|(simp[hc,h4575];omega))|exact Xw) ?_
       intro h
       exact wkT [(2,5)] (ih (k+1) hx1 _ _ nbF nbF o h C0)
      obtain rfl:=Xj rfl
      refine X0l [.stop 999998] (o:=by repeat' first|apply Ya|exact pcM|(refine X8 h4579 rfl ?_;first|(simp;done)|(simp;omega)|(simp[hc,h4575];done)|(simp[hc,h4575];omega))|(refine X2 h4579 (by decide) ?_;first|(simp;done)|(simp;omega)|(simp[hc,h4575];done)|(simp[hc,h4575];omega))|(refine X8 h4581 rfl ?_;first|(simp;done)|(simp;omega)|(simp[hc,h4575];done)|(simp[hc,h4575];omega))|(refine X2 h4581 (by decide) ?_;first|(simp;done)|(simp;omega)|(simp[hc,h4575];done)|(simp[hc,h4575];omega))|exact Xw) ?_
      refine X3.denil 4 [(AV.list true (List.map X0 ([]:List Xb)))] rfl rfl ?_
      revert h
      refine bI fun u4795 h4796=>rnI [.no] (o:=by repeat' first|apply Ya|exact pcM|(refine X8 h4579 rfl ?_;first|(simp;done)|(simp;omega)|(simp[hc,h4575];done)|(simp[hc,h4575];omega))|(refine X2 h4579 (by decide) ?_;first|(simp;done)|(simp;omega)|(simp[hc,h4575];done)|(simp[hc,h4575];omega))|(refine X8 h4581 rfl ?_;first|(simp;done)|(simp;omega)|(simp[hc,h4575];done)|(simp[hc,h4575];omega))|(refine X2 h4581 (by decide) ?_;first|(simp;done)|(simp;omega)|(simp[hc,h4575];done)|(simp[hc,h4575];omega))|(refine X8 h4796 rfl ?_;first|(simp;done)|(simp;omega)|(simp[hc,h4575];done)|(simp[hc,h4575];omega))|(refine X2 h4796 (by decide) ?_;first|(simp;done)|(simp;omega)|(simp[hc,h4575];done)|(simp[hc,h4575];omega))|exact Xw) ?_
      intro h
      exact wkT [(2,5)] (ih (k+1) hx1 _ _ nbF nbF o h C0)
     obtain rfl:=X01 rfl
     rcases Xr with ⟨_|_,Xj⟩
     ·
      refine X0l [.stop 999998] (o:=by repeat' first|apply Ya|exact pcM|(refine X8 h4579 rfl ?_;first|(simp;done)|(simp;omega)|(simp[hc,h4575];done)|(simp[hc,h4575];omega))|(refine X2 h4579 (by decide) ?_;first|(simp;done)|(simp;omega)|(simp[hc,h4575];done)|(simp[hc,h4575];omega))|(refine X8 h4581 rfl ?_;first|(simp;done)|(simp;omega)|(simp[hc,h4575];done)|(simp[hc,h4575];omega))|(refine X2 h4581 (by decide) ?_;first|(simp;done)|(simp;omega)|(simp[hc,h4575];done)|(simp[hc,h4575];omega))|exact Xw) ?_
      refine X3.freeze 3 (Xi.map X0) [1,2,5,6,15,17,146,148] [(0,Ob [AV.agg [(aI .u8 X6.Agg),(Lf (X6.Arg.map X1)),(Lf (List.map (aI .i64) X6.Sources)),(aB X6.Join),(Lf (X6.Where.map X1)),(aI .u8 X6.Window.Kind),(aI .i64 X6.Window.Size),(aI .i64 X6.Window.Every),(aB X6.ByKey),(aI .u8 X6.Late)]] 10),(1,Ob (List.map (X0e true X0) X0j) 1),(4,Ob [(AV.list true (Xi.map X0))] 1)] rfl (by first|rfl|(simp[hc,h4575];done)|(simp[hc,h4575];rfl)) (X04 Xp Xi) ?_ (by repeat' first|exact X0q|refine Ya ?_ ?_) (by repeat' first|exact X0q|refine Ya ?_ ?_)
      revert h
      refine bI fun u4797 h4798=>rnI [.no] (o:=by repeat' first|apply Ya|exact pcM|(refine X8 h4579 rfl ?_;first|(simp;done)|(simp;omega)|(simp[hc,h4575];done)|(simp[hc,h4575];omega))|(refine X2 h4579 (by decide) ?_;first|(simp;done)|(simp;omega)|(simp[hc,h4575];done)|(simp[hc,h4575];omega))|(refine X8 h4581 rfl ?_;first|(simp;done)|(simp;omega)|(simp[hc,h4575];done)|(simp[hc,h4575];omega))|(refine X2 h4581 (by decide) ?_;first|(simp;done)|(simp;omega)|(simp[hc,h4575];done)|(simp[hc,h4575];omega))|(refine X8 h4798 rfl ?_;first|(simp;done)|(simp;omega)|(simp[hc,h4575];done)|(simp[hc,h4575];omega))|(refine X2 h4798 (by decide) ?_;first|(simp;done)|(simp;omega)|(simp[hc,h4575];done)|(simp[hc,h4575];omega))|exact Xw) ?_
      intro h
      exact wkT [(2,5)] (ih (k+1) hx1 _ _ nbF nbF o h C0)
     obtain rfl:=Xj rfl
     refine X0l [.stop 999998] (o:=by repeat' first|apply Ya|exact pcM|(refine X8 h4579 rfl ?_;first|(simp;done)|(simp;omega)|(simp[hc,h4575];done)|(simp[hc,h4575];omega))|(refine X2 h4579 (by decide) ?_;first|(simp;done)|(simp;omega)|(simp[hc,h4575];done)|(simp[hc,h4575];omega))|(refine X8 h4581 rfl ?_;first|(simp;done)|(simp;omega)|(simp[hc,h4575];done)|(simp[hc,h4575];omega))|(refine X2 h4581 (by decide) ?_;first|(simp;done)|(simp;omega)|(simp[hc,h4575];done)|(simp[hc,h4575];omega))|exact Xw) ?_
     refine X3.denil 4 [(AV.list true (List.map X0 ([]:List Xb)))] rfl rfl ?_
     revert h
     refine bI fun u4799 h4800=>rnI [.no] (o:=by repeat' first|apply Ya|exact pcM|(refine X8 h4579 rfl ?_;first|(simp;done)|(simp;omega)|(simp[hc,h4575];done)|(simp[hc,h4575];omega))|(refine X2 h4579 (by decide) ?_;first|(simp;done)|(simp;omega)|(simp[hc,h4575];done)|(simp[hc,h4575];omega))|(refine X8 h4581 rfl ?_;first|(simp;done)|(simp;omega)|(simp[hc,h4575];done)|(simp[hc,h4575];omega))|(refine X2 h4581 (by decide) ?_;first|(simp;done)|(simp;omega)|(simp[hc,h4575];done)|(simp[hc,h4575];omega))|(refine X8 h4800 rfl ?_;first|(simp;done)|(simp;omega)|(simp[hc,h4575];done)|(simp[hc,h4575];omega))|(refine X2 h4800 (by decide) ?_;first|(simp;done)|(simp;omega)|(simp[hc,h4575];done)|(simp[hc,h4575];omega))|exact Xw) ?_
     intro h
     exact wkT [(2,5)] (ih (k+1) hx1 _ _ nbF nbF o h C0)
    obtain rfl:=X0v rfl
    rcases X05 with ⟨_|_,X01⟩
    ·
     rcases Xr with ⟨_|_,Xj⟩
     ·
      refine X0l [.stop 999998] (o:=by repeat' first|apply Ya|exact pcM|(refine X8 h4579 rfl ?_;first|(simp;done)|(simp;omega)|(simp[hc,h4575];done)|(simp[hc,h4575];omega))|(refine X2 h4579 (by decide) ?_;first|(simp;done)|(simp;omega)|(simp[hc,h4575];done)|(simp[hc,h4575];omega))|(refine X8 h4581 rfl ?_;first|(simp;done)|(simp;omega)|(simp[hc,h4575];done)|(simp[hc,h4575];omega))|(refine X2 h4581 (by decide) ?_;first|(simp;done)|(simp;omega)|(simp[hc,h4575];done)|(simp[hc,h4575];omega))|exact Xw) ?_
      refine X3.freeze 3 (Xi.map X0) [1,2,5,6,15,17,146,148] [(0,Ob [AV.agg [(aI .u8 X6.Agg),(Lf (X6.Arg.map X1)),(Lf (List.map (aI .i64) X6.Sources)),(aB X6.Join),(Lf (X6.Where.map X1)),(aI .u8 X6.Window.Kind),(aI .i64 X6.Window.Size),(aI .i64 X6.Window.Every),(aB X6.ByKey),(aI .u8 X6.Late)]] 10),(2,Ob (List.map (X0e true X0) X08) 1),(4,Ob [(AV.list true (Xi.map X0))] 1)] rfl (by first|rfl|(simp[hc,h4575];done)|(simp[hc,h4575];rfl)) (X04 Xp Xi) ?_ (by repeat' first|exact X0q|refine Ya ?_ ?_) (by repeat' first|exact X0q|refine Ya ?_ ?_)
      revert h
      refine bI fun u4801 h4802=>rnI [.no] (o:=by repeat' first|apply Ya|exact pcM|(refine X8 h4579 rfl ?_;first|(simp;done)|(simp;omega)|(simp[hc,h4575];done)|(simp[hc,h4575];omega))|(refine X2 h4579 (by decide) ?_;first|(simp;done)|(simp;omega)|(simp[hc,h4575];done)|(simp[hc,h4575];omega))|(refine X8 h4581 rfl ?_;first|(simp;done)|(simp;omega)|(simp[hc,h4575];done)|(simp[hc,h4575];omega))|(refine X2 h4581 (by decide) ?_;first|(simp;done)|(simp;omega)|(simp[hc,h4575];done)|(simp[hc,h4575];omega))|(refine X8 h4802 rfl ?_;first|(simp;done)|(simp;omega)|(simp[hc,h4575];done)|(simp[hc,h4575];omega))|(refine X2 h4802 (by decide) ?_;first|(simp;done)|(simp;omega)|(simp[hc,h4575];done)|(simp[hc,h4575];omega))|exact Xw) ?_
      intro h
      exact wkT [(2,5)] (ih (k+1) hx1 _ _ nbS nbF o h C0)
     obtain rfl:=Xj rfl
     refine X0l [.stop 999998] (o:=by repeat' first|apply Ya|exact pcM|(refine X8 h4579 rfl ?_;first|(simp;done)|(simp;omega)|(simp[hc,h4575];done)|(simp[hc,h4575];omega))|(refine X2 h4579 (by decide) ?_;first|(simp;done)|(simp;omega)|(simp[hc,h4575];done)|(simp[hc,h4575];omega))|(refine X8 h4581 rfl ?_;first|(simp;done)|(simp;omega)|(simp[hc,h4575];done)|(simp[hc,h4575];omega))|(refine X2 h4581 (by decide) ?_;first|(simp;done)|(simp;omega)|(simp[hc,h4575];done)|(simp[hc,h4575];omega))|exact Xw) ?_
     refine X3.denil 4 [(AV.list true (List.map X0 ([]:List Xb)))] rfl rfl ?_
     revert h
     refine bI fun u4803 h4804=>rnI [.no] (o:=by repeat' first|apply Ya|exact pcM|(refine X8 h4579 rfl ?_;first|(simp;done)|(simp;omega)|(simp[hc,h4575];done)|(simp[hc,h4575];omega))|(refine X2 h4579 (by decide) ?_;first|(simp;done)|(simp;omega)|(simp[hc,h4575];done)|(simp[hc,h4575];omega))|(refine X8 h4581 rfl ?_;first|(simp;done)|(simp;omega)|(simp[hc,h4575];done)|(simp[hc,h4575];omega))|(refine X2 h4581 (by decide) ?_;first|(simp;done)|(simp;omega)|(simp[hc,h4575];done)|(simp[hc,h4575];omega))|(refine X8 h4804 rfl ?_;first|(simp;done)|(simp;omega)|(simp[hc,h4575];done)|(simp[hc,h4575];omega))|(refine X2 h4804 (by decide) ?_;first|(simp;done)|(simp;omega)|(simp[hc,h4575];done)|(simp[hc,h4575];omega))|exact Xw) ?_
     intro h
     exact wkT [(2,5)] (ih (k+1) hx1 _ _ nbS nbF o h C0)
    obtain rfl:=X01 rfl
    rcases Xr with ⟨_|_,Xj⟩
    ·
     refine X0l [.stop 999998] (o:=by repeat' first|apply Ya|exact pcM|(refine X8 h4579 rfl ?_;first|(simp;done)|(simp;omega)|(simp[hc,h4575];done)|(simp[hc,h4575];omega))|(refine X2 h4579 (by decide) ?_;first|(simp;done)|(simp;omega)|(simp[hc,h4575];done)|(simp[hc,h4575];omega))|(refine X8 h4581 rfl ?_;first|(simp;done)|(simp;omega)|(simp[hc,h4575];done)|(simp[hc,h4575];omega))|(refine X2 h4581 (by decide) ?_;first|(simp;done)|(simp;omega)|(simp[hc,h4575];done)|(simp[hc,h4575];omega))|exact Xw) ?_
     refine X3.freeze 3 (Xi.map X0) [1,2,5,6,15,17,146,148] [(0,Ob [AV.agg [(aI .u8 X6.Agg),(Lf (X6.Arg.map X1)),(Lf (List.map (aI .i64) X6.Sources)),(aB X6.Join),(Lf (X6.Where.map X1)),(aI .u8 X6.Window.Kind),(aI .i64 X6.Window.Size),(aI .i64 X6.Window.Every),(aB X6.ByKey),(aI .u8 X6.Late)]] 10),(4,Ob [(AV.list true (Xi.map X0))] 1)] rfl (by first|rfl|(simp[hc,h4575];done)|(simp[hc,h4575];rfl)) (X04 Xp Xi) ?_ (by repeat' first|exact X0q|refine Ya ?_ ?_) (by repeat' first|exact X0q|refine Ya ?_ ?_)
     revert h
     refine bI fun u4805 h4806=>rnI [.no] (o:=by repeat' first|apply Ya|exact pcM|(refine X8 h4579 rfl ?_;first|(simp;done)|(simp;omega)|(simp[hc,h4575];done)|(simp[hc,h4575];omega))|(refine X2 h4579 (by decide) ?_;first|(simp;done)|(simp;omega)|(simp[hc,h4575];done)|(simp[hc,h4575];omega))|(refine X8 h4581 rfl ?_;first|(simp;done)|(simp;omega)|(simp[hc,h4575];done)|(simp[hc,h4575];omega))|(refine X2 h4581 (by decide) ?_;first|(simp;done)|(simp;omega)|(simp[hc,h4575];done)|(simp[hc,h4575];omega))|(refine X8 h4806 rfl ?_;first|(simp;done)|(simp;omega)|(simp[hc,h4575];done)|(simp[hc,h4575];omega))|(refine X2 h4806 (by decide) ?_;first|(simp;done)|(simp;omega)|(simp[hc,h4575];done)|(simp[hc,h4575];omega))|exact Xw) ?_
     intro h
     exact wkT [(2,5)] (ih (k+1) hx1 _ _ nbS nbF o h C0)
    obtain rfl:=Xj rfl
    refine X0l [.stop 999998] (o:=by repeat' first|apply Ya|exact pcM|(refine X8 h4579 rfl ?_;first|(simp;done)|(simp;omega)|(simp[hc,h4575];done)|(simp[hc,h4575];omega))|(refine X2 h4579 (by decide) ?_;first|(simp;done)|(simp;omega)|(simp[hc,h4575];done)|(simp[hc,h4575];omega))|(refine X8 h4581 rfl ?_;first|(simp;done)|(simp;omega)|(simp[hc,h4575];done)|(simp[hc,h4575];omega))|(refine X2 h4581 (by decide) ?_;first|(simp;done)|(simp;omega)|(simp[hc,h4575];done)|(simp[hc,h4575];omega))|exact Xw) ?_
    refine X3.denil 4 [(AV.list true (List.map X0 ([]:List Xb)))] rfl rfl ?_
    revert h
    refine bI fun u4807 h4808=>rnI [.no] (o:=by repeat' first|apply Ya|exact pcM|(refine X8 h4579 rfl ?_;first|(simp;done)|(simp;omega)|(simp[hc,h4575];done)|(simp[hc,h4575];omega))|(refine X2 h4579 (by decide) ?_;first|(simp;done)|(simp;omega)|(simp[hc,h4575];done)|(simp[hc,h4575];omega))|(refine X8 h4581 rfl ?_;first|(simp;done)|(simp;omega)|(simp[hc,h4575];done)|(simp[hc,h4575];omega))|(refine X2 h4581 (by decide) ?_;first|(simp;done)|(simp;omega)|(simp[hc,h4575];done)|(simp[hc,h4575];omega))|(refine X8 h4808 rfl ?_;first|(simp;done)|(simp;omega)|(simp[hc,h4575];done)|(simp[hc,h4575];omega))|(refine X2 h4808 (by decide) ?_;first|(simp;done)|(simp;omega)|(simp[hc,h4575];done)|(simp[hc,h4575];omega))|exact Xw) ?_
    intro h
    exact wkT [(2,5)] (ih (k+1) hx1 _ _ nbS nbF o h C0)
   intro h
   have h4575:¬ (x=[]):=(fun e=>by rw[e] at q;cases q)
   revert h
   refine bI fun u4809 h4810=>bI fun v4811 h4812=>bI fun u4813 h4814=>rnI [.el (aI .i64 (X8l.length:Int)),Bt,.el (X0e false X0 x),.via (AV.list true (x.map X0)),.pure _ (X0 v4811),.no,.stop 999998] (o:=by repeat' first|apply Ya|exact pcM|(refine X8 h4810 rfl ?_;first|(simp;done)|(simp;omega)|(simp[hc,h4575];done)|(simp[hc,h4575];omega))|(refine X2 h4810 (by decide) ?_;first|(simp;done)|(simp;omega)|(simp[hc,h4575];done)|(simp[hc,h4575];omega))|(refine X8 h4814 rfl ?_;first|(simp;done)|(simp;omega)|(simp[hc,h4575];done)|(simp[hc,h4575];omega))|(refine X2 h4814 (by decide) ?_;first|(simp;done)|(simp;omega)|(simp[hc,h4575];done)|(simp[hc,h4575];omega))|exact Xw) ?_
   intro h
   refine X3.freeze 6 (List.map X0 (x++[v4811])) [1,2,5,6,16,17,106,116] [(0,Ob [AV.agg [(aI .u8 X6.Agg),(Lf (X6.Arg.map X1)),(Lf (List.map (aI .i64) X6.Sources)),(aB X6.Join),(Lf (X6.Where.map X1)),(aI .u8 X6.Window.Kind),(aI .i64 X6.Window.Size),(aI .i64 X6.Window.Every),(aB X6.ByKey),(aI .u8 X6.Late)]] 10),(1,Ob (List.map (X0e true X0) X3v) 1),(5,Ob [AV.agg [(aB v4811.Mark),(aI .i64 v4811.Time),(aI .i64 v4811.Record.Key),(aI .i64 v4811.Record.Time),(aI .i64 v4811.Record.Value)]] 5),(7,Ob [(AV.list true (List.map X0 (x++[v4811])))] 1)] rfl (by first|rfl|(simp[hc,h4575];done)|(simp[hc,h4575];rfl)) (X04 Xp (x++[v4811])) ?_ (by repeat' first|exact X0q|refine Ya ?_ ?_) (by repeat' first|exact X0q|refine Ya ?_ ?_)
   revert h
   refine bI fun u4815 h4816=>bI fun o5026 h5027=>rnI [.no] (o:=by repeat' first|apply Ya|exact pcM|(refine X8 h4810 rfl ?_;first|(simp;done)|(simp;omega)|(simp[hc,h4575];done)|(simp[hc,h4575];omega))|(refine X2 h4810 (by decide) ?_;first|(simp;done)|(simp;omega)|(simp[hc,h4575];done)|(simp[hc,h4575];omega))|(refine X8 h4814 rfl ?_;first|(simp;done)|(simp;omega)|(simp[hc,h4575];done)|(simp[hc,h4575];omega))|(refine X2 h4814 (by decide) ?_;first|(simp;done)|(simp;omega)|(simp[hc,h4575];done)|(simp[hc,h4575];omega))|(refine X8 h4816 rfl ?_;first|(simp;done)|(simp;omega)|(simp[hc,h4575];done)|(simp[hc,h4575];omega))|(refine X2 h4816 (by decide) ?_;first|(simp;done)|(simp;omega)|(simp[hc,h4575];done)|(simp[hc,h4575];omega))|exact Xw) ?_
   intro h
   refine wkT [(1,8)] (X3.cut (X12 X8l X6 Xo6 Xo5 (X3v++[(x++[v4811])]) ([]:List (List Xb)) (k:Int) nbF nbS _ _ _ nbS _ h5027 ?_))
   intro X0j X08 Xi X0g X05 Xr eo5026;subst eo5026
   refine X3.glue ?_
   try dsimp only at h
   rcases X0g with ⟨_|_,X0v⟩
   ·
    rcases X05 with ⟨_|_,X01⟩
    ·
     rcases Xr with ⟨_|_,Xj⟩
     ·
      refine X0l [.stop 999998] (o:=by repeat' first|apply Ya|exact pcM|(refine X8 h4810 rfl ?_;first|(simp;done)|(simp;omega)|(simp[hc,h4575];done)|(simp[hc,h4575];omega))|(refine X2 h4810 (by decide) ?_;first|(simp;done)|(simp;omega)|(simp[hc,h4575];done)|(simp[hc,h4575];omega))|(refine X8 h4814 rfl ?_;first|(simp;done)|(simp;omega)|(simp[hc,h4575];done)|(simp[hc,h4575];omega))|(refine X2 h4814 (by decide) ?_;first|(simp;done)|(simp;omega)|(simp[hc,h4575];done)|(simp[hc,h4575];omega))|(refine X8 h4816 rfl ?_;first|(simp;done)|(simp;omega)|(simp[hc,h4575];done)|(simp[hc,h4575];omega))|(refine X2 h4816 (by decide) ?_;first|(simp;done)|(simp;omega)|(simp[hc,h4575];done)|(simp[hc,h4575];omega))|exact Xw) ?_
      refine X3.freeze 3 (Xi.map X0) [1,2,5,6,15,17,146,148] [(0,Ob [AV.agg [(aI .u8 X6.Agg),(Lf (X6.Arg.map X1)),(Lf (List.map (aI .i64) X6.Sources)),(aB X6.Join),(Lf (X6.Where.map X1)),(aI .u8 X6.Window.Kind),(aI .i64 X6.Window.Size),(aI .i64 X6.Window.Every),(aB X6.ByKey),(aI .u8 X6.Late)]] 10),(1,Ob (List.map (X0e true X0) X0j) 1),(2,Ob (List.map (X0e true X0) X08) 1),(4,Ob [(AV.list true (Xi.map X0))] 1)] rfl (by first|rfl|(simp[hc,h4575];done)|(simp[hc,h4575];rfl)) (X04 Xp Xi) ?_ (by repeat' first|exact X0q|refine Ya ?_ ?_) (by repeat' first|exact X0q|refine Ya ?_ ?_)
      revert h
      refine bI fun u5028 h5029=>rnI [.no] (o:=by repeat' first|apply Ya|exact pcM|(refine X8 h4810 rfl ?_;first|(simp;done)|(simp;omega)|(simp[hc,h4575];done)|(simp[hc,h4575];omega))|(refine X2 h4810 (by decide) ?_;first|(simp;done)|(simp;omega)|(simp[hc,h4575];done)|(simp[hc,h4575];omega))|(refine X8 h4814 rfl ?_;first|(simp;done)|(simp;omega)|(simp[hc,h4575];done)|(simp[hc,h4575];omega))|(refine X2 h4814 (by decide) ?_;first|(simp;done)|(simp;omega)|(simp[hc,h4575];done)|(simp[hc,h4575];omega))|(refine X8 h4816 rfl ?_;first|(simp;done)|(simp;omega)|(simp[hc,h4575];done)|(simp[hc,h4575];omega))|(refine X2 h4816 (by decide) ?_;first|(simp;done)|(simp;omega)|(simp[hc,h4575];done)|(simp[hc,h4575];omega))|(refine X8 h5029 rfl ?_;first|(simp;done)|(simp;omega)|(simp[hc,h4575];done)|(simp[hc,h4575];omega))|(refine X2 h5029 (by decide) ?_;first|(simp;done)|(simp;omega)|(simp[hc,h4575];done)|(simp[hc,h4575];omega))|exact Xw) ?_
      intro h
      exact wkT [(2,5)] (ih (k+1) hx1 _ _ nbF nbF o h C0)
     obtain rfl:=Xj rfl
     refine X0l [.stop 999998] (o:=by repeat' first|apply Ya|exact pcM|(refine X8 h4810 rfl ?_;first|(simp;done)|(simp;omega)|(simp[hc,h4575];done)|(simp[hc,h4575];omega))|(refine X2 h4810 (by decide) ?_;first|(simp;done)|(simp;omega)|(simp[hc,h4575];done)|(simp[hc,h4575];omega))|(refine X8 h4814 rfl ?_;first|(simp;done)|(simp;omega)|(simp[hc,h4575];done)|(simp[hc,h4575];omega))|(refine X2 h4814 (by decide) ?_;first|(simp;done)|(simp;omega)|(simp[hc,h4575];done)|(simp[hc,h4575];omega))|(refine X8 h4816 rfl ?_;first|(simp;done)|(simp;omega)|(simp[hc,h4575];done)|(simp[hc,h4575];omega))|(refine X2 h4816 (by decide) ?_;first|(simp;done)|(simp;omega)|(simp[hc,h4575];done)|(simp[hc,h4575];omega))|exact Xw) ?_
     refine X3.denil 4 [(AV.list true (List.map X0 ([]:List Xb)))] rfl rfl ?_
     revert h
     refine bI fun u5030 h5031=>rnI [.no] (o:=by repeat' first|apply Ya|exact pcM|(refine X8 h4810 rfl ?_;first|(simp;done)|(simp;omega)|(simp[hc,h4575];done)|(simp[hc,h4575];omega))|(refine X2 h4810 (by decide) ?_;first|(simp;done)|(simp;omega)|(simp[hc,h4575];done)|(simp[hc,h4575];omega))|(refine X8 h4814 rfl ?_;first|(simp;done)|(simp;omega)|(simp[hc,h4575];done)|(simp[hc,h4575];omega))|(refine X2 h4814 (by decide) ?_;first|(simp;done)|(simp;omega)|(simp[hc,h4575];done)|(simp[hc,h4575];omega))|(refine X8 h4816 rfl ?_;first|(simp;done)|(simp;omega)|(simp[hc,h4575];done)|(simp[hc,h4575];omega))|(refine X2 h4816 (by decide) ?_;first|(simp;done)|(simp;omega)|(simp[hc,h4575];done)|(simp[hc,h4575];omega))|(refine X8 h5031 rfl ?_;first|(simp;done)|(simp;omega)|(simp[hc,h4575];done)|(simp[hc,h4575];omega))|(refine X2 h5031 (by decide) ?_;first|(simp;done)|(simp;omega)|(simp[hc,h4575];done)|(simp[hc,h4575];omega))|exact Xw) ?_
     intro h
     exact wkT [(2,5)] (ih (k+1) hx1 _ _ nbF nbF o h C0)
    obtain rfl:=X01 rfl
    rcases Xr with ⟨_|_,Xj⟩
    ·
     refine X0l [.stop 999998] (o:=by repeat' first|apply Ya|exact pcM|(refine X8 h4810 rfl ?_;first|(simp;done)|(simp;omega)|(simp[hc,h4575];done)|(simp[hc,h4575];omega))|(refine X2 h4810 (by decide) ?_;first|(simp;done)|(simp;omega)|(simp[hc,h4575];done)|(simp[hc,h4575];omega))|(refine X8 h4814 rfl ?_;first|(simp;done)|(simp;omega)|(simp[hc,h4575];done)|(simp[hc,h4575];omega))|(refine X2 h4814 (by decide) ?_;first|(simp;done)|(simp;omega)|(simp[hc,h4575];done)|(simp[hc,h4575];omega))|(refine X8 h4816 rfl ?_;first|(simp;done)|(simp;omega)|(simp[hc,h4575];done)|(simp[hc,h4575];omega))|(refine X2 h4816 (by decide) ?_;first|(simp;done)|(simp;omega)|(simp[hc,h4575];done)|(simp[hc,h4575];omega))|exact Xw) ?_
     refine X3.freeze 3 (Xi.map X0) [1,2,5,6,15,17,146,148] [(0,Ob [AV.agg [(aI .u8 X6.Agg),(Lf (X6.Arg.map X1)),(Lf (List.map (aI .i64) X6.Sources)),(aB X6.Join),(Lf (X6.Where.map X1)),(aI .u8 X6.Window.Kind),(aI .i64 X6.Window.Size),(aI .i64 X6.Window.Every),(aB X6.ByKey),(aI .u8 X6.Late)]] 10),(1,Ob (List.map (X0e true X0) X0j) 1),(4,Ob [(AV.list true (Xi.map X0))] 1)] rfl (by first|rfl|(simp[hc,h4575];done)|(simp[hc,h4575];rfl)) (X04 Xp Xi) ?_ (by repeat' first|exact X0q|refine Ya ?_ ?_) (by repeat' first|exact X0q|refine Ya ?_ ?_)
     revert h
     refine bI fun u5032 h5033=>rnI [.no] (o:=by repeat' first|apply Ya|exact pcM|(refine X8 h4810 rfl ?_;first|(simp;done)|(simp;omega)|(simp[hc,h4575];done)|(simp[hc,h4575];omega))|(refine X2 h4810 (by decide) ?_;first|(simp;done)|(simp;omega)|(simp[hc,h4575];done)|(simp[hc,h4575];omega))|(refine X8 h4814 rfl ?_;first|(simp;done)|(simp;omega)|(simp[hc,h4575];done)|(simp[hc,h4575];omega))|(refine X2 h4814 (by decide) ?_;first|(simp;done)|(simp;omega)|(simp[hc,h4575];done)|(simp[hc,h4575];omega))|(refine X8 h4816 rfl ?_;first|(simp;done)|(simp;omega)|(simp[hc,h4575];done)|(simp[hc,h4575];omega))|(refine X2 h4816 (by decide) ?_;first|(simp;done)|(simp;omega)|(simp[hc,h4575];done)|(simp[hc,h4575];omega))|(refine X8 h5033 rfl ?_;first|(simp;done)|(simp;omega)|(simp[hc,h4575];done)|(simp[hc,h4575];omega))|(refine X2 h5033 (by decide) ?_;first|(simp;done)|(simp;omega)|(simp[hc,h4575];done)|(simp[hc,h4575];omega))|exact Xw) ?_
     intro h
     exact wkT [(2,5)] (ih (k+1) hx1 _ _ nbF nbF o h C0)
    obtain rfl:=Xj rfl
    refine X0l [.stop 999998] (o:=by repeat' first|apply Ya|exact pcM|(refine X8 h4810 rfl ?_;first|(simp;done)|(simp;omega)|(simp[hc,h4575];done)|(simp[hc,h4575];omega))|(refine X2 h4810 (by decide) ?_;first|(simp;done)|(simp;omega)|(simp[hc,h4575];done)|(simp[hc,h4575];omega))|(refine X8 h4814 rfl ?_;first|(simp;done)|(simp;omega)|(simp[hc,h4575];done)|(simp[hc,h4575];omega))|(refine X2 h4814 (by decide) ?_;first|(simp;done)|(simp;omega)|(simp[hc,h4575];done)|(simp[hc,h4575];omega))|(refine X8 h4816 rfl ?_;first|(simp;done)|(simp;omega)|(simp[hc,h4575];done)|(simp[hc,h4575];omega))|(refine X2 h4816 (by decide) ?_;first|(simp;done)|(simp;omega)|(simp[hc,h4575];done)|(simp[hc,h4575];omega))|exact Xw) ?_
    refine X3.denil 4 [(AV.list true (List.map X0 ([]:List Xb)))] rfl rfl ?_
    revert h
    refine bI fun u5034 h5035=>rnI [.no] (o:=by repeat' first|apply Ya|exact pcM|(refine X8 h4810 rfl ?_;first|(simp;done)|(simp;omega)|(simp[hc,h4575];done)|(simp[hc,h4575];omega))|(refine X2 h4810 (by decide) ?_;first|(simp;done)|(simp;omega)|(simp[hc,h4575];done)|(simp[hc,h4575];omega))|(refine X8 h4814 rfl ?_;first|(simp;done)|(simp;omega)|(simp[hc,h4575];done)|(simp[hc,h4575];omega))|(refine X2 h4814 (by decide) ?_;first|(simp;done)|(simp;omega)|(simp[hc,h4575];done)|(simp[hc,h4575];omega))|(refine X8 h4816 rfl ?_;first|(simp;done)|(simp;omega)|(simp[hc,h4575];done)|(simp[hc,h4575];omega))|(refine X2 h4816 (by decide) ?_;first|(simp;done)|(simp;omega)|(simp[hc,h4575];done)|(simp[hc,h4575];omega))|(refine X8 h5035 rfl ?_;first|(simp;done)|(simp;omega)|(simp[hc,h4575];done)|(simp[hc,h4575];omega))|(refine X2 h5035 (by decide) ?_;first|(simp;done)|(simp;omega)|(simp[hc,h4575];done)|(simp[hc,h4575];omega))|exact Xw) ?_
    intro h
    exact wkT [(2,5)] (ih (k+1) hx1 _ _ nbF nbF o h C0)
   obtain rfl:=X0v rfl
   rcases X05 with ⟨_|_,X01⟩
   ·
    rcases Xr with ⟨_|_,Xj⟩
    ·
     refine X0l [.stop 999998] (o:=by repeat' first|apply Ya|exact pcM|(refine X8 h4810 rfl ?_;first|(simp;done)|(simp;omega)|(simp[hc,h4575];done)|(simp[hc,h4575];omega))|(refine X2 h4810 (by decide) ?_;first|(simp;done)|(simp;omega)|(simp[hc,h4575];done)|(simp[hc,h4575];omega))|(refine X8 h4814 rfl ?_;first|(simp;done)|(simp;omega)|(simp[hc,h4575];done)|(simp[hc,h4575];omega))|(refine X2 h4814 (by decide) ?_;first|(simp;done)|(simp;omega)|(simp[hc,h4575];done)|(simp[hc,h4575];omega))|(refine X8 h4816 rfl ?_;first|(simp;done)|(simp;omega)|(simp[hc,h4575];done)|(simp[hc,h4575];omega))|(refine X2 h4816 (by decide) ?_;first|(simp;done)|(simp;omega)|(simp[hc,h4575];done)|(simp[hc,h4575];omega))|exact Xw) ?_
     refine X3.freeze 3 (Xi.map X0) [1,2,5,6,15,17,146,148] [(0,Ob [AV.agg [(aI .u8 X6.Agg),(Lf (X6.Arg.map X1)),(Lf (List.map (aI .i64) X6.Sources)),(aB X6.Join),(Lf (X6.Where.map X1)),(aI .u8 X6.Window.Kind),(aI .i64 X6.Window.Size),(aI .i64 X6.Window.Every),(aB X6.ByKey),(aI .u8 X6.Late)]] 10),(2,Ob (List.map (X0e true X0) X08) 1),(4,Ob [(AV.list true (Xi.map X0))] 1)] rfl (by first|rfl|(simp[hc,h4575];done)|(simp[hc,h4575];rfl)) (X04 Xp Xi) ?_ (by repeat' first|exact X0q|refine Ya ?_ ?_) (by repeat' first|exact X0q|refine Ya ?_ ?_)
     revert h
     refine bI fun u5036 h5037=>rnI [.no] (o:=by repeat' first|apply Ya|exact pcM|(refine X8 h4810 rfl ?_;first|(simp;done)|(simp;omega)|(simp[hc,h4575];done)|(simp[hc,h4575];omega))|(refine X2 h4810 (by decide) ?_;first|(simp;done)|(simp;omega)|(simp[hc,h4575];done)|(simp[hc,h4575];omega))|(refine X8 h4814 rfl ?_;first|(simp;done)|(simp;omega)|(simp[hc,h4575];done)|(simp[hc,h4575];omega))|(refine X2 h4814 (by decide) ?_;first|(simp;done)|(simp;omega)|(simp[hc,h4575];done)|(simp[hc,h4575];omega))|(refine X8 h4816 rfl ?_;first|(simp;done)|(simp;omega)|(simp[hc,h4575];done)|(simp[hc,h4575];omega))|(refine X2 h4816 (by decide) ?_;first|(simp;done)|(simp;omega)|(simp[hc,h4575];done)|(simp[hc,h4575];omega))|(refine X8 h5037 rfl ?_;first|(simp;done)|(simp;omega)|(simp[hc,h4575];done)|(simp[hc,h4575];omega))|(refine X2 h5037 (by decide) ?_;first|(simp;done)|(simp;omega)|(simp[hc,h4575];done)|(simp[hc,h4575];omega))|exact Xw) ?_
     intro h
     exact wkT [(2,5)] (ih (k+1) hx1 _ _ nbS nbF o h C0)
    obtain rfl:=Xj rfl
    refine X0l [.stop 999998] (o:=by repeat' first|apply Ya|exact pcM|(refine X8 h4810 rfl ?_;first|(simp;done)|(simp;omega)|(simp[hc,h4575];done)|(simp[hc,h4575];omega))|(refine X2 h4810 (by decide) ?_;first|(simp;done)|(simp;omega)|(simp[hc,h4575];done)|(simp[hc,h4575];omega))|(refine X8 h4814 rfl ?_;first|(simp;done)|(simp;omega)|(simp[hc,h4575];done)|(simp[hc,h4575];omega))|(refine X2 h4814 (by decide) ?_;first|(simp;done)|(simp;omega)|(simp[hc,h4575];done)|(simp[hc,h4575];omega))|(refine X8 h4816 rfl ?_;first|(simp;done)|(simp;omega)|(simp[hc,h4575];done)|(simp[hc,h4575];omega))|(refine X2 h4816 (by decide) ?_;first|(simp;done)|(simp;omega)|(simp[hc,h4575];done)|(simp[hc,h4575];omega))|exact Xw) ?_
    refine X3.denil 4 [(AV.list true (List.map X0 ([]:List Xb)))] rfl rfl ?_
    revert h
    refine bI fun u5038 h5039=>rnI [.no] (o:=by repeat' first|apply Ya|exact pcM|(refine X8 h4810 rfl ?_;first|(simp;done)|(simp;omega)|(simp[hc,h4575];done)|(simp[hc,h4575];omega))|(refine X2 h4810 (by decide) ?_;first|(simp;done)|(simp;omega)|(simp[hc,h4575];done)|(simp[hc,h4575];omega))|(refine X8 h4814 rfl ?_;first|(simp;done)|(simp;omega)|(simp[hc,h4575];done)|(simp[hc,h4575];omega))|(refine X2 h4814 (by decide) ?_;first|(simp;done)|(simp;omega)|(simp[hc,h4575];done)|(simp[hc,h4575];omega))|(refine X8 h4816 rfl ?_;first|(simp;done)|(simp;omega)|(simp[hc,h4575];done)|(simp[hc,h4575];omega))|(refine X2 h4816 (by decide) ?_;first|(simp;done)|(simp;omega)|(simp[hc,h4575];done)|(simp[hc,h4575];omega))|(refine X8 h5039 rfl ?_;first|(simp;done)|(simp;omega)|(simp[hc,h4575];done)|(simp[hc,h4575];omega))|(refine X2 h5039 (by decide) ?_;first|(simp;done)|(simp;omega)|(simp[hc,h4575];done)|(simp[hc,h4575];omega))|exact Xw) ?_
    intro h
    exact wkT [(2,5)] (ih (k+1) hx1 _ _ nbS nbF o h C0)
   obtain rfl:=X01 rfl
   rcases Xr with ⟨_|_,Xj⟩
   ·
    refine X0l [.stop 999998] (o:=by repeat' first|apply Ya|exact pcM|(refine X8 h4810 rfl ?_;first|(simp;done)|(simp;omega)|(simp[hc,h4575];done)|(simp[hc,h4575];omega))|(refine X2 h4810 (by decide) ?_;first|(simp;done)|(simp;omega)|(simp[hc,h4575];done)|(simp[hc,h4575];omega))|(refine X8 h4814 rfl ?_;first|(simp;done)|(simp;omega)|(simp[hc,h4575];done)|(simp[hc,h4575];omega))|(refine X2 h4814 (by decide) ?_;first|(simp;done)|(simp;omega)|(simp[hc,h4575];done)|(simp[hc,h4575];omega))|(refine X8 h4816 rfl ?_;first|(simp;done)|(simp;omega)|(simp[hc,h4575];done)|(simp[hc,h4575];omega))|(refine X2 h4816 (by decide) ?_;first|(simp;done)|(simp;omega)|(simp[hc,h4575];done)|(simp[hc,h4575];omega))|exact Xw) ?_
    refine X3.freeze 3 (Xi.map X0) [1,2,5,6,15,17,146,148] [(0,Ob [AV.agg [(aI .u8 X6.Agg),(Lf (X6.Arg.map X1)),(Lf (List.map (aI .i64) X6.Sources)),(aB X6.Join),(Lf (X6.Where.map X1)),(aI .u8 X6.Window.Kind),(aI .i64 X6.Window.Size),(aI .i64 X6.Window.Every),(aB X6.ByKey),(aI .u8 X6.Late)]] 10),(4,Ob [(AV.list true (Xi.map X0))] 1)] rfl (by first|rfl|(simp[hc,h4575];done)|(simp[hc,h4575];rfl)) (X04 Xp Xi) ?_ (by repeat' first|exact X0q|refine Ya ?_ ?_) (by repeat' first|exact X0q|refine Ya ?_ ?_)
    revert h
    refine bI fun u5040 h5041=>rnI [.no] (o:=by repeat' first|apply Ya|exact pcM|(refine X8 h4810 rfl ?_;first|(simp;done)|(simp;omega)|(simp[hc,h4575];done)|(simp[hc,h4575];omega))|(refine X2 h4810 (by decide) ?_;first|(simp;done)|(simp;omega)|(simp[hc,h4575];done)|(simp[hc,h4575];omega))|(refine X8 h4814 rfl ?_;first|(simp;done)|(simp;omega)|(simp[hc,h4575];done)|(simp[hc,h4575];omega))|(refine X2 h4814 (by decide) ?_;first|(simp;done)|(simp;omega)|(simp[hc,h4575];done)|(simp[hc,h4575];omega))|(refine X8 h4816 rfl ?_;first|(simp;done)|(simp;omega)|(simp[hc,h4575];done)|(simp[hc,h4575];omega))|(refine X2 h4816 (by decide) ?_;first|(simp;done)|(simp;omega)|(simp[hc,h4575];done)|(simp[hc,h4575];omega))|(refine X8 h5041 rfl ?_;first|(simp;done)|(simp;omega)|(simp[hc,h4575];done)|(simp[hc,h4575];omega))|(refine X2 h5041 (by decide) ?_;first|(simp;done)|(simp;omega)|(simp[hc,h4575];done)|(simp[hc,h4575];omega))|exact Xw) ?_
    intro h
    exact wkT [(2,5)] (ih (k+1) hx1 _ _ nbS nbF o h C0)
   obtain rfl:=Xj rfl
   refine X0l [.stop 999998] (o:=by repeat' first|apply Ya|exact pcM|(refine X8 h4810 rfl ?_;first|(simp;done)|(simp;omega)|(simp[hc,h4575];done)|(simp[hc,h4575];omega))|(refine X2 h4810 (by decide) ?_;first|(simp;done)|(simp;omega)|(simp[hc,h4575];done)|(simp[hc,h4575];omega))|(refine X8 h4814 rfl ?_;first|(simp;done)|(simp;omega)|(simp[hc,h4575];done)|(simp[hc,h4575];omega))|(refine X2 h4814 (by decide) ?_;first|(simp;done)|(simp;omega)|(simp[hc,h4575];done)|(simp[hc,h4575];omega))|(refine X8 h4816 rfl ?_;first|(simp;done)|(simp;omega)|(simp[hc,h4575];done)|(simp[hc,h4575];omega))|(refine X2 h4816 (by decide) ?_;first|(simp;done)|(simp;omega)|(simp[hc,h4575];done)|(simp[hc,h4575];omega))|exact Xw) ?_
   refine X3.denil 4 [(AV.list true (List.map X0 ([]:List Xb)))] rfl rfl ?_
   revert h
   refine bI fun u5042 h5043=>rnI [.no] (o:=by repeat' first|apply Ya|exact pcM|(refine X8 h4810 rfl ?_;first|(simp;done)|(simp;omega)|(simp[hc,h4575];done)|(simp[hc,h4575];omega))|(refine X2 h4810 (by decide) ?_;first|(simp;done)|(simp;omega)|(simp[hc,h4575];done)|(simp[hc,h4575];omega))|(refine X8 h4814 rfl ?_;first|(simp;done)|(simp;omega)|(simp[hc,h4575];done)|(simp[hc,h4575];omega))|(refine X2 h4814 (by decide) ?_;first|(simp;done)|(simp;omega)|(simp[hc,h4575];done)|(simp[hc,h4575];omega))|(refine X8 h4816 rfl ?_;first|(simp;done)|(simp;omega)|(simp[hc,h4575];done)|(simp[hc,h4575];omega))|(refine X2 h4816 (by decide) ?_;first|(simp;done)|(simp;omega)|(simp[hc,h4575];done)|(simp[hc,h4575];omega))|(refine X8 h5043 rfl ?_;first|(simp;done)|(simp;omega)|(simp[hc,h4575];done)|(simp[hc,h4575];omega))|(refine X2 h5043 (by decide) ?_;first|(simp;done)|(simp;omega)|(simp[hc,h4575];done)|(simp[hc,h4575];omega))|exact Xw) ?_
   intro h
   exact wkT [(2,5)] (ih (k+1) hx1 _ _ nbS nbF o h C0)
  obtain rfl:=X7i rfl
  rcases X41 with ⟨_|_,X55⟩
  ·
   refine X3.round ?_
   revert h
   refine brI (fun q=>?_) fun q=>?_
   ·
    intro h
    have h5044:x=[]:=List.isEmpty_iff.1 q
    revert h
    refine bI fun v5045 h5046=>bI fun u5047 h5048=>rnI [.el (aI .i64 (X8l.length:Int)),Bt,.el (X0e false X0 x),.ne false,.pure _ (X0 v5045),.no,.stop 999998] (o:=by repeat' first|apply Ya|exact pcM|(refine X8 h5048 rfl ?_;first|(simp;done)|(simp;omega)|(simp[hc,h5044];done)|(simp[hc,h5044];omega))|(refine X2 h5048 (by decide) ?_;first|(simp;done)|(simp;omega)|(simp[hc,h5044];done)|(simp[hc,h5044];omega))|exact Xw) ?_
    intro h
    refine X3.freeze 6 (List.map X0 (x++[v5045])) [1,2,5,6,16,17,106,116] [(0,Ob [AV.agg [(aI .u8 X6.Agg),(Lf (X6.Arg.map X1)),(Lf (List.map (aI .i64) X6.Sources)),(aB X6.Join),(Lf (X6.Where.map X1)),(aI .u8 X6.Window.Kind),(aI .i64 X6.Window.Size),(aI .i64 X6.Window.Every),(aB X6.ByKey),(aI .u8 X6.Late)]] 10),(2,Ob (List.map (X0e true X0) X6d) 1),(5,Ob [AV.agg [(aB v5045.Mark),(aI .i64 v5045.Time),(aI .i64 v5045.Record.Key),(aI .i64 v5045.Record.Time),(aI .i64 v5045.Record.Value)]] 5),(7,Ob [(AV.list true (List.map X0 (x++[v5045])))] 1)] rfl (by first|rfl|(simp[hc,h5044];done)|(simp[hc,h5044];rfl)) (X04 Xp (x++[v5045])) ?_ (by repeat' first|exact X0q|refine Ya ?_ ?_) (by repeat' first|exact X0q|refine Ya ?_ ?_)
    revert h
    refine bI fun u5049 h5050=>bI fun o5260 h5261=>rnI [.no] (o:=by repeat' first|apply Ya|exact pcM|(refine X8 h5048 rfl ?_;first|(simp;done)|(simp;omega)|(simp[hc,h5044];done)|(simp[hc,h5044];omega))|(refine X2 h5048 (by decide) ?_;first|(simp;done)|(simp;omega)|(simp[hc,h5044];done)|(simp[hc,h5044];omega))|(refine X8 h5050 rfl ?_;first|(simp;done)|(simp;omega)|(simp[hc,h5044];done)|(simp[hc,h5044];omega))|(refine X2 h5050 (by decide) ?_;first|(simp;done)|(simp;omega)|(simp[hc,h5044];done)|(simp[hc,h5044];omega))|exact Xw) ?_
    intro h
    refine wkT [(1,8)] (X3.cut (X12 X8l X6 Xo6 Xo5 (([]:List (List Xb))++[(x++[v5045])]) X6d (k:Int) nbF nbF _ _ _ nbS _ h5261 ?_))
    intro X0j X08 Xi X0g X05 Xr eo5260;subst eo5260
    refine X3.glue ?_
    try dsimp only at h
    rcases X0g with ⟨_|_,X0v⟩
    ·
     rcases X05 with ⟨_|_,X01⟩
     ·
      rcases Xr with ⟨_|_,Xj⟩
      ·
       refine X0l [.stop 999998] (o:=by repeat' first|apply Ya|exact pcM|(refine X8 h5048 rfl ?_;first|(simp;done)|(simp;omega)|(simp[hc,h5044];done)|(simp[hc,h5044];omega))|(refine X2 h5048 (by decide) ?_;first|(simp;done)|(simp;omega)|(simp[hc,h5044];done)|(simp[hc,h5044];omega))|(refine X8 h5050 rfl ?_;first|(simp;done)|(simp;omega)|(simp[hc,h5044];done)|(simp[hc,h5044];omega))|(refine X2 h5050 (by decide) ?_;first|(simp;done)|(simp;omega)|(simp[hc,h5044];done)|(simp[hc,h5044];omega))|exact Xw) ?_
       refine X3.freeze 3 (Xi.map X0) [1,2,5,6,15,17,146,148] [(0,Ob [AV.agg [(aI .u8 X6.Agg),(Lf (X6.Arg.map X1)),(Lf (List.map (aI .i64) X6.Sources)),(aB X6.Join),(Lf (X6.Where.map X1)),(aI .u8 X6.Window.Kind),(aI .i64 X6.Window.Size),(aI .i64 X6.Window.Every),(aB X6.ByKey),(aI .u8 X6.Late)]] 10),(1,Ob (List.map (X0e true X0) X0j) 1),(2,Ob (List.map (X0e true X0) X08) 1),(4,Ob [(AV.list true (Xi.map X0))] 1)] rfl (by first|rfl|(simp[hc,h5044];done)|(simp[hc,h5044];rfl)) (X04 Xp Xi) ?_ (by repeat' first|exact X0q|refine Ya ?_ ?_) (by repeat' first|exact X0q|refine Ya ?_ ?_)
       revert h
       refine bI fun u5262 h5263=>rnI [.no] (o:=by repeat' first|apply Ya|exact pcM|(refine X8 h5048 rfl ?_;first|(simp;done)|(simp;omega)|(simp[hc,h5044];done)|(simp[hc,h5044];omega))|(refine X2 h5048 (by decide) ?_;first|(simp;done)|(simp;omega)|(simp[hc,h5044];done)|(simp[hc,h5044];omega))|(refine X8 h5050 rfl ?_;first|(simp;done)|(simp;omega)|(simp[hc,h5044];done)|(simp[hc,h5044];omega))|(refine X2 h5050 (by decide) ?_;first|(simp;done)|(simp;omega)|(simp[hc,h5044];done)|(simp[hc,h5044];omega))|(refine X8 h5263 rfl ?_;first|(simp;done)|(simp;omega)|(simp[hc,h5044];done)|(simp[hc,h5044];omega))|(refine X2 h5263 (by decide) ?_;first|(simp;done)|(simp;omega)|(simp[hc,h5044];done)|(simp[hc,h5044];omega))|exact Xw) ?_
       intro h
       exact wkT [(2,5)] (ih (k+1) hx1 _ _ nbF nbF o h C0)
      obtain rfl:=Xj rfl
      refine X0l [.stop 999998] (o:=by repeat' first|apply Ya|exact pcM|(refine X8 h5048 rfl ?_;first|(simp;done)|(simp;omega)|(simp[hc,h5044];done)|(simp[hc,h5044];omega))|(refine X2 h5048 (by decide) ?_;first|(simp;done)|(simp;omega)|(simp[hc,h5044];done)|(simp[hc,h5044];omega))|(refine X8 h5050 rfl ?_;first|(simp;done)|(simp;omega)|(simp[hc,h5044];done)|(simp[hc,h5044];omega))|(refine X2 h5050 (by decide) ?_;first|(simp;done)|(simp;omega)|(simp[hc,h5044];done)|(simp[hc,h5044];omega))|exact Xw) ?_
      refine X3.denil 4 [(AV.list true (List.map X0 ([]:List Xb)))] rfl rfl ?_
      revert h
      refine bI fun u5264 h5265=>rnI [.no] (o:=by repeat' first|apply Ya|exact pcM|(refine X8 h5048 rfl ?_;first|(simp;done)|(simp;omega)|(simp[hc,h5044];done)|(simp[hc,h5044];omega))|(refine X2 h5048 (by decide) ?_;first|(simp;done)|(simp;omega)|(simp[hc,h5044];done)|(simp[hc,h5044];omega))|(refine X8 h5050 rfl ?_;first|(simp;done)|(simp;omega)|(simp[hc,h5044];done)|(simp[hc,h5044];omega))|(refine X2 h5050 (by decide) ?_;first|(simp;done)|(simp;omega)|(simp[hc,h5044];done)|(simp[hc,h5044];omega))|(refine X8 h5265 rfl ?_;first|(simp;done)|(simp;omega)|(simp[hc,h5044];done)|(simp[hc,h5044];omega))|(refine X2 h5265 (by decide) ?_;first|(simp;done)|(simp;omega)|(simp[hc,h5044];done)|(simp[hc,h5044];omega))|exact Xw) ?_
      intro h
      exact wkT [(2,5)] (ih (k+1) hx1 _ _ nbF nbF o h C0)
     obtain rfl:=X01 rfl
     rcases Xr with ⟨_|_,Xj⟩
     ·
      refine X0l [.stop 999998] (o:=by repeat' first|apply Ya|exact pcM|(refine X8 h5048 rfl ?_;first|(simp;done)|(simp;omega)|(simp[hc,h5044];done)|(simp[hc,h5044];omega))|(refine X2 h5048 (by decide) ?_;first|(simp;done)|(simp;omega)|(simp[hc,h5044];done)|(simp[hc,h5044];omega))|(refine X8 h5050 rfl ?_;first|(simp;done)|(simp;omega)|(simp[hc,h5044];done)|(simp[hc,h5044];omega))|(refine X2 h5050 (by decide) ?_;first|(simp;done)|(simp;omega)|(simp[hc,h5044];done)|(simp[hc,h5044];omega))|exact Xw) ?_
      refine X3.freeze 3 (Xi.map X0) [1,2,5,6,15,17,146,148] [(0,Ob [AV.agg [(aI .u8 X6.Agg),(Lf (X6.Arg.map X1)),(Lf (List.map (aI .i64) X6.Sources)),(aB X6.Join),(Lf (X6.Where.map X1)),(aI .u8 X6.Window.Kind),(aI .i64 X6.Window.Size),(aI .i64 X6.Window.Every),(aB X6.ByKey),(aI .u8 X6.Late)]] 10),(1,Ob (List.map (X0e true X0) X0j) 1),(4,Ob [(AV.list true (Xi.map X0))] 1)] rfl (by first|rfl|(simp[hc,h5044];done)|(simp[hc,h5044];rfl)) (X04 Xp Xi) ?_ (by repeat' first|exact X0q|refine Ya ?_ ?_) (by repeat' first|exact X0q|refine Ya ?_ ?_)
      revert h
      refine bI fun u5266 h5267=>rnI [.no] (o:=by repeat' first|apply Ya|exact pcM|(refine X8 h5048 rfl ?_;first|(simp;done)|(simp;omega)|(simp[hc,h5044];done)|(simp[hc,h5044];omega))|(refine X2 h5048 (by decide) ?_;first|(simp;done)|(simp;omega)|(simp[hc,h5044];done)|(simp[hc,h5044];omega))|(refine X8 h5050 rfl ?_;first|(simp;done)|(simp;omega)|(simp[hc,h5044];done)|(simp[hc,h5044];omega))|(refine X2 h5050 (by decide) ?_;first|(simp;done)|(simp;omega)|(simp[hc,h5044];done)|(simp[hc,h5044];omega))|(refine X8 h5267 rfl ?_;first|(simp;done)|(simp;omega)|(simp[hc,h5044];done)|(simp[hc,h5044];omega))|(refine X2 h5267 (by decide) ?_;first|(simp;done)|(simp;omega)|(simp[hc,h5044];done)|(simp[hc,h5044];omega))|exact Xw) ?_
      intro h
      exact wkT [(2,5)] (ih (k+1) hx1 _ _ nbF nbF o h C0)
     obtain rfl:=Xj rfl
     refine X0l [.stop 999998] (o:=by repeat' first|apply Ya|exact pcM|(refine X8 h5048 rfl ?_;first|(simp;done)|(simp;omega)|(simp[hc,h5044];done)|(simp[hc,h5044];omega))|(refine X2 h5048 (by decide) ?_;first|(simp;done)|(simp;omega)|(simp[hc,h5044];done)|(simp[hc,h5044];omega))|(refine X8 h5050 rfl ?_;first|(simp;done)|(simp;omega)|(simp[hc,h5044];done)|(simp[hc,h5044];omega))|(refine X2 h5050 (by decide) ?_;first|(simp;done)|(simp;omega)|(simp[hc,h5044];done)|(simp[hc,h5044];omega))|exact Xw) ?_
     refine X3.denil 4 [(AV.list true (List.map X0 ([]:List Xb)))] rfl rfl ?_
     revert h
     refine bI fun u5268 h5269=>rnI [.no] (o:=by repeat' first|apply Ya|exact pcM|(refine X8 h5048 rfl ?_;first|(simp;done)|(simp;omega)|(simp[hc,h5044];done)|(simp[hc,h5044];omega))|(refine X2 h5048 (by decide) ?_;first|(simp;done)|(simp;omega)|(simp[hc,h5044];done)|(simp[hc,h5044];omega))|(refine X8 h5050 rfl ?_;first|(simp;done)|(simp;omega)|(simp[hc,h5044];done)|(simp[hc,h5044];omega))|(refine X2 h5050 (by decide) ?_;first|(simp;done)|(simp;omega)|(simp[hc,h5044];done)|(simp[hc,h5044];omega))|(refine X8 h5269 rfl ?_;first|(simp;done)|(simp;omega)|(simp[hc,h5044];done)|(simp[hc,h5044];omega))|(refine X2 h5269 (by decide) ?_;first|(simp;done)|(simp;omega)|(simp[hc,h5044];done)|(simp[hc,h5044];omega))|exact Xw) ?_
     intro h
     exact wkT [(2,5)] (ih (k+1) hx1 _ _ nbF nbF o h C0)
    obtain rfl:=X0v rfl
    rcases X05 with ⟨_|_,X01⟩
    ·
     rcases Xr with ⟨_|_,Xj⟩
     ·
      refine X0l [.stop 999998] (o:=by repeat' first|apply Ya|exact pcM|(refine X8 h5048 rfl ?_;first|(simp;done)|(simp;omega)|(simp[hc,h5044];done)|(simp[hc,h5044];omega))|(refine X2 h5048 (by decide) ?_;first|(simp;done)|(simp;omega)|(simp[hc,h5044];done)|(simp[hc,h5044];omega))|(refine X8 h5050 rfl ?_;first|(simp;done)|(simp;omega)|(simp[hc,h5044];done)|(simp[hc,h5044];omega))|(refine X2 h5050 (by decide) ?_;first|(simp;done)|(simp;omega)|(simp[hc,h5044];done)|(simp[hc,h5044];omega))|exact Xw) ?_
      refine X3.freeze 3 (Xi.map X0) [1,2,5,6,15,17,146,148] [(0,Ob [AV.agg [(aI .u8 X6.Agg),(Lf (X6.Arg.map X1)),(Lf (List.map (aI .i64) X6.Sources)),(aB X6.Join),(Lf (X6.Where.map X1)),(aI .u8 X6.Window.Kind),(aI .i64 X6.Window.Size),(aI .i64 X6.Window.Every),(aB X6.ByKey),(aI .u8 X6.Late)]] 10),(2,Ob (List.map (X0e true X0) X08) 1),(4,Ob [(AV.list true (Xi.map X0))] 1)] rfl (by first|rfl|(simp[hc,h5044];done)|(simp[hc,h5044];rfl)) (X04 Xp Xi) ?_ (by repeat' first|exact X0q|refine Ya ?_ ?_) (by repeat' first|exact X0q|refine Ya ?_ ?_)
      revert h
      refine bI fun u5270 h5271=>rnI [.no] (o:=by repeat' first|apply Ya|exact pcM|(refine X8 h5048 rfl ?_;first|(simp;done)|(simp;omega)|(simp[hc,h5044];done)|(simp[hc,h5044];omega))|(refine X2 h5048 (by decide) ?_;first|(simp;done)|(simp;omega)|(simp[hc,h5044];done)|(simp[hc,h5044];omega))|(refine X8 h5050 rfl ?_;first|(simp;done)|(simp;omega)|(simp[hc,h5044];done)|(simp[hc,h5044];omega))|(refine X2 h5050 (by decide) ?_;first|(simp;done)|(simp;omega)|(simp[hc,h5044];done)|(simp[hc,h5044];omega))|(refine X8 h5271 rfl ?_;first|(simp;done)|(simp;omega)|(simp[hc,h5044];done)|(simp[hc,h5044];omega))|(refine X2 h5271 (by decide) ?_;first|(simp;done)|(simp;omega)|(simp[hc,h5044];done)|(simp[hc,h5044];omega))|exact Xw) ?_
      intro h
      exact wkT [(2,5)] (ih (k+1) hx1 _ _ nbS nbF o h C0)
     obtain rfl:=Xj rfl
     refine X0l [.stop 999998] (o:=by repeat' first|apply Ya|exact pcM|(refine X8 h5048 rfl ?_;first|(simp;done)|(simp;omega)|(simp[hc,h5044];done)|(simp[hc,h5044];omega))|(refine X2 h5048 (by decide) ?_;first|(simp;done)|(simp;omega)|(simp[hc,h5044];done)|(simp[hc,h5044];omega))|(refine X8 h5050 rfl ?_;first|(simp;done)|(simp;omega)|(simp[hc,h5044];done)|(simp[hc,h5044];omega))|(refine X2 h5050 (by decide) ?_;first|(simp;done)|(simp;omega)|(simp[hc,h5044];done)|(simp[hc,h5044];omega))|exact Xw) ?_
     refine X3.denil 4 [(AV.list true (List.map X0 ([]:List Xb)))] rfl rfl ?_
     revert h
     refine bI fun u5272 h5273=>rnI [.no] (o:=by repeat' first|apply Ya|exact pcM|(refine X8 h5048 rfl ?_;first|(simp;done)|(simp;omega)|(simp[hc,h5044];done)|(simp[hc,h5044];omega))|(refine X2 h5048 (by decide) ?_;first|(simp;done)|(simp;omega)|(simp[hc,h5044];done)|(simp[hc,h5044];omega))|(refine X8 h5050 rfl ?_;first|(simp;done)|(simp;omega)|(simp[hc,h5044];done)|(simp[hc,h5044];omega))|(refine X2 h5050 (by decide) ?_;first|(simp;done)|(simp;omega)|(simp[hc,h5044];done)|(simp[hc,h5044];omega))|(refine X8 h5273 rfl ?_;first|(simp;done)|(simp;omega)|(simp[hc,h5044];done)|(simp[hc,h5044];omega))|(refine X2 h5273 (by decide) ?_;first|(simp;done)|(simp;omega)|(simp[hc,h5044];done)|(simp[hc,h5044];omega))|exact Xw) ?_
     intro h
     exact wkT [(2,5)] (ih (k+1) hx1 _ _ nbS nbF o h C0)
    obtain rfl:=X01 rfl
    rcases Xr with ⟨_|_,Xj⟩
    ·
     refine X0l [.stop 999998] (o:=by repeat' first|apply Ya|exact pcM|(refine X8 h5048 rfl ?_;first|(simp;done)|(simp;omega)|(simp[hc,h5044];done)|(simp[hc,h5044];omega))|(refine X2 h5048 (by decide) ?_;first|(simp;done)|(simp;omega)|(simp[hc,h5044];done)|(simp[hc,h5044];omega))|(refine X8 h5050 rfl ?_;first|(simp;done)|(simp;omega)|(simp[hc,h5044];done)|(simp[hc,h5044];omega))|(refine X2 h5050 (by decide) ?_;first|(simp;done)|(simp;omega)|(simp[hc,h5044];done)|(simp[hc,h5044];omega))|exact Xw) ?_
     refine X3.freeze 3 (Xi.map X0) [1,2,5,6,15,17,146,148] [(0,Ob [AV.agg [(aI .u8 X6.Agg),(Lf (X6.Arg.map X1)),(Lf (List.map (aI .i64) X6.Sources)),(aB X6.Join),(Lf (X6.Where.map X1)),(aI .u8 X6.Window.Kind),(aI .i64 X6.Window.Size),(aI .i64 X6.Window.Every),(aB X6.ByKey),(aI .u8 X6.Late)]] 10),(4,Ob [(AV.list true (Xi.map X0))] 1)] rfl (by first|rfl|(simp[hc,h5044];done)|(simp[hc,h5044];rfl)) (X04 Xp Xi) ?_ (by repeat' first|exact X0q|refine Ya ?_ ?_) (by repeat' first|exact X0q|refine Ya ?_ ?_)
     revert h
     refine bI fun u5274 h5275=>rnI [.no] (o:=by repeat' first|apply Ya|exact pcM|(refine X8 h5048 rfl ?_;first|(simp;done)|(simp;omega)|(simp[hc,h5044];done)|(simp[hc,h5044];omega))|(refine X2 h5048 (by decide) ?_;first|(simp;done)|(simp;omega)|(simp[hc,h5044];done)|(simp[hc,h5044];omega))|(refine X8 h5050 rfl ?_;first|(simp;done)|(simp;omega)|(simp[hc,h5044];done)|(simp[hc,h5044];omega))|(refine X2 h5050 (by decide) ?_;first|(simp;done)|(simp;omega)|(simp[hc,h5044];done)|(simp[hc,h5044];omega))|(refine X8 h5275 rfl ?_;first|(simp;done)|(simp;omega)|(simp[hc,h5044];done)|(simp[hc,h5044];omega))|(refine X2 h5275 (by decide) ?_;first|(simp;done)|(simp;omega)|(simp[hc,h5044];done)|(simp[hc,h5044];omega))|exact Xw) ?_
     intro h
     exact wkT [(2,5)] (ih (k+1) hx1 _ _ nbS nbF o h C0)
    obtain rfl:=Xj rfl
    refine X0l [.stop 999998] (o:=by repeat' first|apply Ya|exact pcM|(refine X8 h5048 rfl ?_;first|(simp;done)|(simp;omega)|(simp[hc,h5044];done)|(simp[hc,h5044];omega))|(refine X2 h5048 (by decide) ?_;first|(simp;done)|(simp;omega)|(simp[hc,h5044];done)|(simp[hc,h5044];omega))|(refine X8 h5050 rfl ?_;first|(simp;done)|(simp;omega)|(simp[hc,h5044];done)|(simp[hc,h5044];omega))|(refine X2 h5050 (by decide) ?_;first|(simp;done)|(simp;omega)|(simp[hc,h5044];done)|(simp[hc,h5044];omega))|exact Xw) ?_
    refine X3.denil 4 [(AV.list true (List.map X0 ([]:List Xb)))] rfl rfl ?_
    revert h
    refine bI fun u5276 h5277=>rnI [.no] (o:=by repeat' first|apply Ya|exact pcM|(refine X8 h5048 rfl ?_;first|(simp;done)|(simp;omega)|(simp[hc,h5044];done)|(simp[hc,h5044];omega))|(refine X2 h5048 (by decide) ?_;first|(simp;done)|(simp;omega)|(simp[hc,h5044];done)|(simp[hc,h5044];omega))|(refine X8 h5050 rfl ?_;first|(simp;done)|(simp;omega)|(simp[hc,h5044];done)|(simp[hc,h5044];omega))|(refine X2 h5050 (by decide) ?_;first|(simp;done)|(simp;omega)|(simp[hc,h5044];done)|(simp[hc,h5044];omega))|(refine X8 h5277 rfl ?_;first|(simp;done)|(simp;omega)|(simp[hc,h5044];done)|(simp[hc,h5044];omega))|(refine X2 h5277 (by decide) ?_;first|(simp;done)|(simp;omega)|(simp[hc,h5044];done)|(simp[hc,h5044];omega))|exact Xw) ?_
    intro h
    exact wkT [(2,5)] (ih (k+1) hx1 _ _ nbS nbF o h C0)
   intro h
   have h5044:¬ (x=[]):=(fun e=>by rw[e] at q;cases q)
   revert h
   refine bI fun u5278 h5279=>bI fun v5280 h5281=>bI fun u5282 h5283=>rnI [.el (aI .i64 (X8l.length:Int)),Bt,.el (X0e false X0 x),.via (AV.list true (x.map X0)),.pure _ (X0 v5280),.no,.stop 999998] (o:=by repeat' first|apply Ya|exact pcM|(refine X8 h5279 rfl ?_;first|(simp;done)|(simp;omega)|(simp[hc,h5044];done)|(simp[hc,h5044];omega))|(refine X2 h5279 (by decide) ?_;first|(simp;done)|(simp;omega)|(simp[hc,h5044];done)|(simp[hc,h5044];omega))|(refine X8 h5283 rfl ?_;first|(simp;done)|(simp;omega)|(simp[hc,h5044];done)|(simp[hc,h5044];omega))|(refine X2 h5283 (by decide) ?_;first|(simp;done)|(simp;omega)|(simp[hc,h5044];done)|(simp[hc,h5044];omega))|exact Xw) ?_
   intro h
   refine X3.freeze 6 (List.map X0 (x++[v5280])) [1,2,5,6,16,17,106,116] [(0,Ob [AV.agg [(aI .u8 X6.Agg),(Lf (X6.Arg.map X1)),(Lf (List.map (aI .i64) X6.Sources)),(aB X6.Join),(Lf (X6.Where.map X1)),(aI .u8 X6.Window.Kind),(aI .i64 X6.Window.Size),(aI .i64 X6.Window.Every),(aB X6.ByKey),(aI .u8 X6.Late)]] 10),(2,Ob (List.map (X0e true X0) X6d) 1),(5,Ob [AV.agg [(aB v5280.Mark),(aI .i64 v5280.Time),(aI .i64 v5280.Record.Key),(aI .i64 v5280.Record.Time),(aI .i64 v5280.Record.Value)]] 5),(7,Ob [(AV.list true (List.map X0 (x++[v5280])))] 1)] rfl (by first|rfl|(simp[hc,h5044];done)|(simp[hc,h5044];rfl)) (X04 Xp (x++[v5280])) ?_ (by repeat' first|exact X0q|refine Ya ?_ ?_) (by repeat' first|exact X0q|refine Ya ?_ ?_)
   revert h
   refine bI fun u5284 h5285=>bI fun o5495 h5496=>rnI [.no] (o:=by repeat' first|apply Ya|exact pcM|(refine X8 h5279 rfl ?_;first|(simp;done)|(simp;omega)|(simp[hc,h5044];done)|(simp[hc,h5044];omega))|(refine X2 h5279 (by decide) ?_;first|(simp;done)|(simp;omega)|(simp[hc,h5044];done)|(simp[hc,h5044];omega))|(refine X8 h5283 rfl ?_;first|(simp;done)|(simp;omega)|(simp[hc,h5044];done)|(simp[hc,h5044];omega))|(refine X2 h5283 (by decide) ?_;first|(simp;done)|(simp;omega)|(simp[hc,h5044];done)|(simp[hc,h5044];omega))|(refine X8 h5285 rfl ?_;first|(simp;done)|(simp;omega)|(simp[hc,h5044];done)|(simp[hc,h5044];omega))|(refine X2 h5285 (by decide) ?_;first|(simp;done)|(simp;omega)|(simp[hc,h5044];done)|(simp[hc,h5044];omega))|exact Xw) ?_
   intro h
   refine wkT [(1,8)] (X3.cut (X12 X8l X6 Xo6 Xo5 (([]:List (List Xb))++[(x++[v5280])]) X6d (k:Int) nbF nbF _ _ _ nbS _ h5496 ?_))
   intro X0j X08 Xi X0g X05 Xr eo5495;subst eo5495
   refine X3.glue ?_
   try dsimp only at h
   rcases X0g with ⟨_|_,X0v⟩
   ·
    rcases X05 with ⟨_|_,X01⟩
    ·
     rcases Xr with ⟨_|_,Xj⟩
     ·
      refine X0l [.stop 999998] (o:=by repeat' first|apply Ya|exact pcM|(refine X8 h5279 rfl ?_;first|(simp;done)|(simp;omega)|(simp[hc,h5044];done)|(simp[hc,h5044];omega))|(refine X2 h5279 (by decide) ?_;first|(simp;done)|(simp;omega)|(simp[hc,h5044];done)|(simp[hc,h5044];omega))|(refine X8 h5283 rfl ?_;first|(simp;done)|(simp;omega)|(simp[hc,h5044];done)|(simp[hc,h5044];omega))|(refine X2 h5283 (by decide) ?_;first|(simp;done)|(simp;omega)|(simp[hc,h5044];done)|(simp[hc,h5044];omega))|(refine X8 h5285 rfl ?_;first|(simp;done)|(simp;omega)|(simp[hc,h5044];done)|(simp[hc,h5044];omega))|(refine X2 h5285 (by decide) ?_;first|(simp;done)|(simp;omega)|(simp[hc,h5044];done)|(simp[hc,h5044];omega))|exact Xw) ?_
      refine X3.freeze 3 (Xi.map X0) [1,2,5,6,15,17,146,148] [(0,Ob [AV.agg [(aI .u8 X6.Agg),(Lf (X6.Arg.map X1)),(Lf (List.map (aI .i64) X6.Sources)),(aB X6.Join),(Lf (X6.Where.map X1)),(aI .u8 X6.Window.Kind),(aI .i64 X6.Window.Size),(aI .i64 X6.Window.Every),(aB X6.ByKey),(aI .u8 X6.Late)]] 10),(1,Ob (List.map (X0e true X0) X0j) 1),(2,Ob (List.map (X0e true X0) X08) 1),(4,Ob [(AV.list true (Xi.map X0))] 1)] rfl (by first|rfl|(simp[hc,h5044];done)|(simp[hc,h5044];rfl)) (X04 Xp Xi) ?_ (by repeat' first|exact X0q|refine Ya ?_ ?_) (by repeat' first|exact X0q|refine Ya ?_ ?_)
      revert h
      refine bI fun u5497 h5498=>rnI [.no] (o:=by repeat' first|apply Ya|exact pcM|(refine X8 h5279 rfl ?_;first|(simp;done)|(simp;omega)|(simp[hc,h5044];done)|(simp[hc,h5044];omega))|(refine X2 h5279 (by decide) ?_;first|(simp;done)|(simp;omega)|(simp[hc,h5044];done)|(simp[hc,h5044];omega))|(refine X8 h5283 rfl ?_;first|(simp;done)|(simp;omega)|(simp[hc,h5044];done)|(simp[hc,h5044];omega))|(refine X2 h5283 (by decide) ?_;first|(simp;done)|(simp;omega)|(simp[hc,h5044];done)|(simp[hc,h5044];omega))|(refine X8 h5285 rfl ?_;first|(simp;done)|(simp;omega)|(simp[hc,h5044];done)|(simp[hc,h5044];omega))|(refine X2 h5285 (by decide) ?_;first|(simp;done)|(simp;omega)|(simp[hc,h5044];done)|(simp[hc,h5044];omega))|(refine X8 h5498 rfl ?_;first|(simp;done)|(simp;omega)|(simp[hc,h5044];done)|(simp[hc,h5044];omega))|(refine X2 h5498 (by decide) ?_;first|(simp;done)|(simp;omega)|(simp[hc,h5044];done)|(simp[hc,h5044];omega))|exact Xw) ?_
      intro h
      exact wkT [(2,5)] (ih (k+1) hx1 _ _ nbF nbF o h C0)
     obtain rfl:=Xj rfl
     refine X0l [.stop 999998] (o:=by repeat' first|apply Ya|exact pcM|(refine X8 h5279 rfl ?_;first|(simp;done)|(simp;omega)|(simp[hc,h5044];done)|(simp[hc,h5044];omega))|(refine X2 h5279 (by decide) ?_;first|(simp;done)|(simp;omega)|(simp[hc,h5044];done)|(simp[hc,h5044];omega))|(refine X8 h5283 rfl ?_;first|(simp;done)|(simp;omega)|(simp[hc,h5044];done)|(simp[hc,h5044];omega))|(refine X2 h5283 (by decide) ?_;first|(simp;done)|(simp;omega)|(simp[hc,h5044];done)|(simp[hc,h5044];omega))|(refine X8 h5285 rfl ?_;first|(simp;done)|(simp;omega)|(simp[hc,h5044];done)|(simp[hc,h5044];omega))|(refine X2 h5285 (by decide) ?_;first|(simp;done)|(simp;omega)|(simp[hc,h5044];done)|(simp[hc,h5044];omega))|exact Xw) ?_
     refine X3.denil 4 [(AV.list true (List.map X0 ([]:List Xb)))] rfl rfl ?_
     revert h
     refine bI fun u5499 h5500=>rnI [.no] (o:=by repeat' first|apply Ya|exact pcM|(refine X8 h5279 rfl ?_;first|(simp;done)|(simp;omega)|(simp[hc,h5044];done)|(simp[hc,h5044];omega))|(refine X2 h5279 (by decide) ?_;first|(simp;done)|(simp;omega)|(simp[hc,h5044];done)|(simp[hc,h5044];omega))|(refine X8 h5283 rfl ?_;first|(simp;done)|(simp;omega)|(simp[hc,h5044];done)|(simp[hc,h5044];omega))|(refine X2 h5283 (by decide) ?_;first|(simp;done)|(simp;omega)|(simp[hc,h5044];done)|(simp[hc,h5044];omega))|(refine X8 h5285 rfl ?_;first|(simp;done)|(simp;omega)|(simp[hc,h5044];done)|(simp[hc,h5044];omega))|(refine X2 h5285 (by decide) ?_;first|(simp;done)|(simp;omega)|(simp[hc,h5044];done)|(simp[hc,h5044];omega))|(refine X8 h5500 rfl ?_;first|(simp;done)|(simp;omega)|(simp[hc,h5044];done)|(simp[hc,h5044];omega))|(refine X2 h5500 (by decide) ?_;first|(simp;done)|(simp;omega)|(simp[hc,h5044];done)|(simp[hc,h5044];omega))|exact Xw) ?_
     intro h
     exact wkT [(2,5)] (ih (k+1) hx1 _ _ nbF nbF o h C0)
    obtain rfl:=X01 rfl
    rcases Xr with ⟨_|_,Xj⟩
    ·
     refine X0l [.stop 999998] (o:=by repeat' first|apply Ya|exact pcM|(refine X8 h5279 rfl ?_;first|(simp;done)|(simp;omega)|(simp[hc,h5044];done)|(simp[hc,h5044];omega))|(refine X2 h5279 (by decide) ?_;first|(simp;done)|(simp;omega)|(simp[hc,h5044];done)|(simp[hc,h5044];omega))|(refine X8 h5283 rfl ?_;first|(simp;done)|(simp;omega)|(simp[hc,h5044];done)|(simp[hc,h5044];omega))|(refine X2 h5283 (by decide) ?_;first|(simp;done)|(simp;omega)|(simp[hc,h5044];done)|(simp[hc,h5044];omega))|(refine X8 h5285 rfl ?_;first|(simp;done)|(simp;omega)|(simp[hc,h5044];done)|(simp[hc,h5044];omega))|(refine X2 h5285 (by decide) ?_;first|(simp;done)|(simp;omega)|(simp[hc,h5044];done)|(simp[hc,h5044];omega))|exact Xw) ?_
     refine X3.freeze 3 (Xi.map X0) [1,2,5,6,15,17,146,148] [(0,Ob [AV.agg [(aI .u8 X6.Agg),(Lf (X6.Arg.map X1)),(Lf (List.map (aI .i64) X6.Sources)),(aB X6.Join),(Lf (X6.Where.map X1)),(aI .u8 X6.Window.Kind),(aI .i64 X6.Window.Size),(aI .i64 X6.Window.Every),(aB X6.ByKey),(aI .u8 X6.Late)]] 10),(1,Ob (List.map (X0e true X0) X0j) 1),(4,Ob [(AV.list true (Xi.map X0))] 1)] rfl (by first|rfl|(simp[hc,h5044];done)|(simp[hc,h5044];rfl)) (X04 Xp Xi) ?_ (by repeat' first|exact X0q|refine Ya ?_ ?_) (by repeat' first|exact X0q|refine Ya ?_ ?_)
     revert h
     refine bI fun u5501 h5502=>rnI [.no] (o:=by repeat' first|apply Ya|exact pcM|(refine X8 h5279 rfl ?_;first|(simp;done)|(simp;omega)|(simp[hc,h5044];done)|(simp[hc,h5044];omega))|(refine X2 h5279 (by decide) ?_;first|(simp;done)|(simp;omega)|(simp[hc,h5044];done)|(simp[hc,h5044];omega))|(refine X8 h5283 rfl ?_;first|(simp;done)|(simp;omega)|(simp[hc,h5044];done)|(simp[hc,h5044];omega))|(refine X2 h5283 (by decide) ?_;first|(simp;done)|(simp;omega)|(simp[hc,h5044];done)|(simp[hc,h5044];omega))|(refine X8 h5285 rfl ?_;first|(simp;done)|(simp;omega)|(simp[hc,h5044];done)|(simp[hc,h5044];omega))|(refine X2 h5285 (by decide) ?_;first|(simp;done)|(simp;omega)|(simp[hc,h5044];done)|(simp[hc,h5044];omega))|(refine X8 h5502 rfl ?_;first|(simp;done)|(simp;omega)|(simp[hc,h5044];done)|(simp[hc,h5044];omega))|(refine X2 h5502 (by decide) ?_;first|(simp;done)|(simp;omega)|(simp[hc,h5044];done)|(simp[hc,h5044];omega))|exact Xw) ?_
     intro h
     exact wkT [(2,5)] (ih (k+1) hx1 _ _ nbF nbF o h C0)
    obtain rfl:=Xj rfl
    refine X0l [.stop 999998] (o:=by repeat' first|apply Ya|exact pcM|(refine X8 h5279 rfl ?_;first|(simp;done)|(simp;omega)|(simp[hc,h5044];done)|(simp[hc,h5044];omega))|(refine X2 h5279 (by decide) ?_;first|(simp;done)|(simp;omega)|(simp[hc,h5044];done)|(simp[hc,h5044];omega))|(refine X8 h5283 rfl ?_;first|(simp;done)|(simp;omega)|(simp[hc,h5044];done)|(simp[hc,h5044];omega))|(refine X2 h5283 (by decide) ?_;first|(simp;done)|(simp;omega)|(simp[hc,h5044];done)|(simp[hc,h5044];omega))|(refine X8 h5285 rfl ?_;first|(simp;done)|(simp;omega)|(simp[hc,h5044];done)|(simp[hc,h5044];omega))|(refine X2 h5285 (by decide) ?_;first|(simp;done)|(simp;omega)|(simp[hc,h5044];done)|(simp[hc,h5044];omega))|exact Xw) ?_
    refine X3.denil 4 [(AV.list true (List.map X0 ([]:List Xb)))] rfl rfl ?_
    revert h
    refine bI fun u5503 h5504=>rnI [.no] (o:=by repeat' first|apply Ya|exact pcM|(refine X8 h5279 rfl ?_;first|(simp;done)|(simp;omega)|(simp[hc,h5044];done)|(simp[hc,h5044];omega))|(refine X2 h5279 (by decide) ?_;first|(simp;done)|(simp;omega)|(simp[hc,h5044];done)|(simp[hc,h5044];omega))|(refine X8 h5283 rfl ?_;first|(simp;done)|(simp;omega)|(simp[hc,h5044];done)|(simp[hc,h5044];omega))|(refine X2 h5283 (by decide) ?_;first|(simp;done)|(simp;omega)|(simp[hc,h5044];done)|(simp[hc,h5044];omega))|(refine X8 h5285 rfl ?_;first|(simp;done)|(simp;omega)|(simp[hc,h5044];done)|(simp[hc,h5044];omega))|(refine X2 h5285 (by decide) ?_;first|(simp;done)|(simp;omega)|(simp[hc,h5044];done)|(simp[hc,h5044];omega))|(refine X8 h5504 rfl ?_;first|(simp;done)|(simp;omega)|(simp[hc,h5044];done)|(simp[hc,h5044];omega))|(refine X2 h5504 (by decide) ?_;first|(simp;done)|(simp;omega)|(simp[hc,h5044];done)|(simp[hc,h5044];omega))|exact Xw) ?_
    intro h
    exact wkT [(2,5)] (ih (k+1) hx1 _ _ nbF nbF o h C0)
   obtain rfl:=X0v rfl
   rcases X05 with ⟨_|_,X01⟩
   ·
    rcases Xr with ⟨_|_,Xj⟩
    ·
     refine X0l [.stop 999998] (o:=by repeat' first|apply Ya|exact pcM|(refine X8 h5279 rfl ?_;first|(simp;done)|(simp;omega)|(simp[hc,h5044];done)|(simp[hc,h5044];omega))|(refine X2 h5279 (by decide) ?_;first|(simp;done)|(simp;omega)|(simp[hc,h5044];done)|(simp[hc,h5044];omega))|(refine X8 h5283 rfl ?_;first|(simp;done)|(simp;omega)|(simp[hc,h5044];done)|(simp[hc,h5044];omega))|(refine X2 h5283 (by decide) ?_;first|(simp;done)|(simp;omega)|(simp[hc,h5044];done)|(simp[hc,h5044];omega))|(refine X8 h5285 rfl ?_;first|(simp;done)|(simp;omega)|(simp[hc,h5044];done)|(simp[hc,h5044];omega))|(refine X2 h5285 (by decide) ?_;first|(simp;done)|(simp;omega)|(simp[hc,h5044];done)|(simp[hc,h5044];omega))|exact Xw) ?_
     refine X3.freeze 3 (Xi.map X0) [1,2,5,6,15,17,146,148] [(0,Ob [AV.agg [(aI .u8 X6.Agg),(Lf (X6.Arg.map X1)),(Lf (List.map (aI .i64) X6.Sources)),(aB X6.Join),(Lf (X6.Where.map X1)),(aI .u8 X6.Window.Kind),(aI .i64 X6.Window.Size),(aI .i64 X6.Window.Every),(aB X6.ByKey),(aI .u8 X6.Late)]] 10),(2,Ob (List.map (X0e true X0) X08) 1),(4,Ob [(AV.list true (Xi.map X0))] 1)] rfl (by first|rfl|(simp[hc,h5044];done)|(simp[hc,h5044];rfl)) (X04 Xp Xi) ?_ (by repeat' first|exact X0q|refine Ya ?_ ?_) (by repeat' first|exact X0q|refine Ya ?_ ?_)
     revert h
     refine bI fun u5505 h5506=>rnI [.no] (o:=by repeat' first|apply Ya|exact pcM|(refine X8 h5279 rfl ?_;first|(simp;done)|(simp;omega)|(simp[hc,h5044];done)|(simp[hc,h5044];omega))|(refine X2 h5279 (by decide) ?_;first|(simp;done)|(simp;omega)|(simp[hc,h5044];done)|(simp[hc,h5044];omega))|(refine X8 h5283 rfl ?_;first|(simp;done)|(simp;omega)|(simp[hc,h5044];done)|(simp[hc,h5044];omega))|(refine X2 h5283 (by decide) ?_;first|(simp;done)|(simp;omega)|(simp[hc,h5044];done)|(simp[hc,h5044];omega))|(refine X8 h5285 rfl ?_;first|(simp;done)|(simp;omega)|(simp[hc,h5044];done)|(simp[hc,h5044];omega))|(refine X2 h5285 (by decide) ?_;first|(simp;done)|(simp;omega)|(simp[hc,h5044];done)|(simp[hc,h5044];omega))|(refine X8 h5506 rfl ?_;first|(simp;done)|(simp;omega)|(simp[hc,h5044];done)|(simp[hc,h5044];omega))|(refine X2 h5506 (by decide) ?_;first|(simp;done)|(simp;omega)|(simp[hc,h5044];done)|(simp[hc,h5044];omega))|exact Xw) ?_
     intro h
     exact wkT [(2,5)] (ih (k+1) hx1 _ _ nbS nbF o h C0)
    obtain rfl:=Xj rfl
    refine X0l [.stop 999998] (o:=by repeat' first|apply Ya|exact pcM|(refine X8 h5279 rfl ?_;first|(simp;done)|(simp;omega)|(simp[hc,h5044];done)|(simp[hc,h5044];omega))|(refine X2 h5279 (by decide) ?_;first|(simp;done)|(simp;omega)|(simp[hc,h5044];done)|(simp[hc,h5044];omega))|(refine X8 h5283 rfl ?_;first|(simp;done)|(simp;omega)|(simp[hc,h5044];done)|(simp[hc,h5044];omega))|(refine X2 h5283 (by decide) ?_;first|(simp;done)|(simp;omega)|(simp[hc,h5044];done)|(simp[hc,h5044];omega))|(refine X8 h5285 rfl ?_;first|(simp;done)|(simp;omega)|(simp[hc,h5044];done)|(simp[hc,h5044];omega))|(refine X2 h5285 (by decide) ?_;first|(simp;done)|(simp;omega)|(simp[hc,h5044];done)|(simp[hc,h5044];omega))|exact Xw) ?_
    refine X3.denil 4 [(AV.list true (List.map X0 ([]:List Xb)))] rfl rfl ?_
    revert h
    refine bI fun u5507 h5508=>rnI [.no] (o:=by repeat' first|apply Ya|exact pcM|(refine X8 h5279 rfl ?_;first|(simp;done)|(simp;omega)|(simp[hc,h5044];done)|(simp[hc,h5044];omega))|(refine X2 h5279 (by decide) ?_;first|(simp;done)|(simp;omega)|(simp[hc,h5044];done)|(simp[hc,h5044];omega))|(refine X8 h5283 rfl ?_;first|(simp;done)|(simp;omega)|(simp[hc,h5044];done)|(simp[hc,h5044];omega))|(refine X2 h5283 (by decide) ?_;first|(simp;done)|(simp;omega)|(simp[hc,h5044];done)|(simp[hc,h5044];omega))|(refine X8 h5285 rfl ?_;first|(simp;done)|(simp;omega)|(simp[hc,h5044];done)|(simp[hc,h5044];omega))|(refine X2 h5285 (by decide) ?_;first|(simp;done)|(simp;omega)|(simp[hc,h5044];done)|(simp[hc,h5044];omega))|(refine X8 h5508 rfl ?_;first|(simp;done)|(simp;omega)|(simp[hc,h5044];done)|(simp[hc,h5044];omega))|(refine X2 h5508 (by decide) ?_;first|(simp;done)|(simp;omega)|(simp[hc,h5044];done)|(simp[hc,h5044];omega))|exact Xw) ?_
    intro h
    exact wkT [(2,5)] (ih (k+1) hx1 _ _ nbS nbF o h C0)
   obtain rfl:=X01 rfl
   rcases Xr with ⟨_|_,Xj⟩
   ·
    refine X0l [.stop 999998] (o:=by repeat' first|apply Ya|exact pcM|(refine X8 h5279 rfl ?_;first|(simp;done)|(simp;omega)|(simp[hc,h5044];done)|(simp[hc,h5044];omega))|(refine X2 h5279 (by decide) ?_;first|(simp;done)|(simp;omega)|(simp[hc,h5044];done)|(simp[hc,h5044];omega))|(refine X8 h5283 rfl ?_;first|(simp;done)|(simp;omega)|(simp[hc,h5044];done)|(simp[hc,h5044];omega))|(refine X2 h5283 (by decide) ?_;first|(simp;done)|(simp;omega)|(simp[hc,h5044];done)|(simp[hc,h5044];omega))|(refine X8 h5285 rfl ?_;first|(simp;done)|(simp;omega)|(simp[hc,h5044];done)|(simp[hc,h5044];omega))|(refine X2 h5285 (by decide) ?_;first|(simp;done)|(simp;omega)|(simp[hc,h5044];done)|(simp[hc,h5044];omega))|exact Xw) ?_
    refine X3.freeze 3 (Xi.map X0) [1,2,5,6,15,17,146,148] [(0,Ob [AV.agg [(aI .u8 X6.Agg),(Lf (X6.Arg.map X1)),(Lf (List.map (aI .i64) X6.Sources)),(aB X6.Join),(Lf (X6.Where.map X1)),(aI .u8 X6.Window.Kind),(aI .i64 X6.Window.Size),(aI .i64 X6.Window.Every),(aB X6.ByKey),(aI .u8 X6.Late)]] 10),(4,Ob [(AV.list true (Xi.map X0))] 1)] rfl (by first|rfl|(simp[hc,h5044];done)|(simp[hc,h5044];rfl)) (X04 Xp Xi) ?_ (by repeat' first|exact X0q|refine Ya ?_ ?_) (by repeat' first|exact X0q|refine Ya ?_ ?_)
    revert h
    refine bI fun u5509 h5510=>rnI [.no] (o:=by repeat' first|apply Ya|exact pcM|(refine X8 h5279 rfl ?_;first|(simp;done)|(simp;omega)|(simp[hc,h5044];done)|(simp[hc,h5044];omega))|(refine X2 h5279 (by decide) ?_;first|(simp;done)|(simp;omega)|(simp[hc,h5044];done)|(simp[hc,h5044];omega))|(refine X8 h5283 rfl ?_;first|(simp;done)|(simp;omega)|(simp[hc,h5044];done)|(simp[hc,h5044];omega))|(refine X2 h5283 (by decide) ?_;first|(simp;done)|(simp;omega)|(simp[hc,h5044];done)|(simp[hc,h5044];omega))|(refine X8 h5285 rfl ?_;first|(simp;done)|(simp;omega)|(simp[hc,h5044];done)|(simp[hc,h5044];omega))|(refine X2 h5285 (by decide) ?_;first|(simp;done)|(simp;omega)|(simp[hc,h5044];done)|(simp[hc,h5044];omega))|(refine X8 h5510 rfl ?_;first|(simp;done)|(simp;omega)|(simp[hc,h5044];done)|(simp[hc,h5044];omega))|(refine X2 h5510 (by decide) ?_;first|(simp;done)|(simp;omega)|(simp[hc,h5044];done)|(simp[hc,h5044];omega))|exact Xw) ?_
    intro h
    exact wkT [(2,5)] (ih (k+1) hx1 _ _ nbS nbF o h C0)
   obtain rfl:=Xj rfl
   refine X0l [.stop 999998] (o:=by repeat' first|apply Ya|exact pcM|(refine X8 h5279 rfl ?_;first|(simp;done)|(simp;omega)|(simp[hc,h5044];done)|(simp[hc,h5044];omega))|(refine X2 h5279 (by decide) ?_;first|(simp;done)|(simp;omega)|(simp[hc,h5044];done)|(simp[hc,h5044];omega))|(refine X8 h5283 rfl ?_;first|(simp;done)|(simp;omega)|(simp[hc,h5044];done)|(simp[hc,h5044];omega))|(refine X2 h5283 (by decide) ?_;first|(simp;done)|(simp;omega)|(simp[hc,h5044];done)|(simp[hc,h5044];omega))|(refine X8 h5285 rfl ?_;first|(simp;done)|(simp;omega)|(simp[hc,h5044];done)|(simp[hc,h5044];omega))|(refine X2 h5285 (by decide) ?_;first|(simp;done)|(simp;omega)|(simp[hc,h5044];done)|(simp[hc,h5044];omega))|exact Xw) ?_
   refine X3.denil 4 [(AV.list true (List.map X0 ([]:List Xb)))] rfl rfl ?_
   revert h
   refine bI fun u5511 h5512=>rnI [.no] (o:=by repeat' first|apply Ya|exact pcM|(refine X8 h5279 rfl ?_;first|(simp;done)|(simp;omega)|(simp[hc,h5044];done)|(simp[hc,h5044];omega))|(refine X2 h5279 (by decide) ?_;first|(simp;done)|(simp;omega)|(simp[hc,h5044];done)|(simp[hc,h5044];omega))|(refine X8 h5283 rfl ?_;first|(simp;done)|(simp;omega)|(simp[hc,h5044];done)|(simp[hc,h5044];omega))|(refine X2 h5283 (by decide) ?_;first|(simp;done)|(simp;omega)|(simp[hc,h5044];done)|(simp[hc,h5044];omega))|(refine X8 h5285 rfl ?_;first|(simp;done)|(simp;omega)|(simp[hc,h5044];done)|(simp[hc,h5044];omega))|(refine X2 h5285 (by decide) ?_;first|(simp;done)|(simp;omega)|(simp[hc,h5044];done)|(simp[hc,h5044];omega))|(refine X8 h5512 rfl ?_;first|(simp;done)|(simp;omega)|(simp[hc,h5044];done)|(simp[hc,h5044];omega))|(refine X2 h5512 (by decide) ?_;first|(simp;done)|(simp;omega)|(simp[hc,h5044];done)|(simp[hc,h5044];omega))|exact Xw) ?_
   intro h
   exact wkT [(2,5)] (ih (k+1) hx1 _ _ nbS nbF o h C0)
  obtain rfl:=X55 rfl
  refine X3.round ?_
  revert h
  refine brI (fun q=>?_) fun q=>?_
  ·
   intro h
   have h5513:x=[]:=List.isEmpty_iff.1 q
   revert h
   refine bI fun v5514 h5515=>bI fun u5516 h5517=>rnI [.el (aI .i64 (X8l.length:Int)),Bt,.el (X0e false X0 x),.ne false,.pure _ (X0 v5514),.no,.stop 999998] (o:=by repeat' first|apply Ya|exact pcM|(refine X8 h5517 rfl ?_;first|(simp;done)|(simp;omega)|(simp[hc,h5513];done)|(simp[hc,h5513];omega))|(refine X2 h5517 (by decide) ?_;first|(simp;done)|(simp;omega)|(simp[hc,h5513];done)|(simp[hc,h5513];omega))|exact Xw) ?_
   intro h
   refine X3.freeze 6 (List.map X0 (x++[v5514])) [1,2,5,6,16,17,106,116] [(0,Ob [AV.agg [(aI .u8 X6.Agg),(Lf (X6.Arg.map X1)),(Lf (List.map (aI .i64) X6.Sources)),(aB X6.Join),(Lf (X6.Where.map X1)),(aI .u8 X6.Window.Kind),(aI .i64 X6.Window.Size),(aI .i64 X6.Window.Every),(aB X6.ByKey),(aI .u8 X6.Late)]] 10),(5,Ob [AV.agg [(aB v5514.Mark),(aI .i64 v5514.Time),(aI .i64 v5514.Record.Key),(aI .i64 v5514.Record.Time),(aI .i64 v5514.Record.Value)]] 5),(7,Ob [(AV.list true (List.map X0 (x++[v5514])))] 1)] rfl (by first|rfl|(simp[hc,h5513];done)|(simp[hc,h5513];rfl)) (X04 Xp (x++[v5514])) ?_ (by repeat' first|exact X0q|refine Ya ?_ ?_) (by repeat' first|exact X0q|refine Ya ?_ ?_)
   revert h
   refine bI fun u5518 h5519=>bI fun o5729 h5730=>rnI [.no] (o:=by repeat' first|apply Ya|exact pcM|(refine X8 h5517 rfl ?_;first|(simp;done)|(simp;omega)|(simp[hc,h5513];done)|(simp[hc,h5513];omega))|(refine X2 h5517 (by decide) ?_;first|(simp;done)|(simp;omega)|(simp[hc,h5513];done)|(simp[hc,h5513];omega))|(refine X8 h5519 rfl ?_;first|(simp;done)|(simp;omega)|(simp[hc,h5513];done)|(simp[hc,h5513];omega))|(refine X2 h5519 (by decide) ?_;first|(simp;done)|(simp;omega)|(simp[hc,h5513];done)|(simp[hc,h5513];omega))|exact Xw) ?_
   intro h
   refine wkT [(1,8)] (X3.cut (X12 X8l X6 Xo6 Xo5 (([]:List (List Xb))++[(x++[v5514])]) ([]:List (List Xb)) (k:Int) nbF nbS _ _ _ nbS _ h5730 ?_))
   intro X0j X08 Xi X0g X05 Xr eo5729;subst eo5729
   refine X3.glue ?_
   try dsimp only at h
   rcases X0g with ⟨_|_,X0v⟩
   ·
    rcases X05 with ⟨_|_,X01⟩
    ·
     rcases Xr with ⟨_|_,Xj⟩
     ·
      refine X0l [.stop 999998] (o:=by repeat' first|apply Ya|exact pcM|(refine X8 h5517 rfl ?_;first|(simp;done)|(simp;omega)|(simp[hc,h5513];done)|(simp[hc,h5513];omega))|(refine X2 h5517 (by decide) ?_;first|(simp;done)|(simp;omega)|(simp[hc,h5513];done)|(simp[hc,h5513];omega))|(refine X8 h5519 rfl ?_;first|(simp;done)|(simp;omega)|(simp[hc,h5513];done)|(simp[hc,h5513];omega))|(refine X2 h5519 (by decide) ?_;first|(simp;done)|(simp;omega)|(simp[hc,h5513];done)|(simp[hc,h5513];omega))|exact Xw) ?_
      refine X3.freeze 3 (Xi.map X0) [1,2,5,6,15,17,146,148] [(0,Ob [AV.agg [(aI .u8 X6.Agg),(Lf (X6.Arg.map X1)),(Lf (List.map (aI .i64) X6.Sources)),(aB X6.Join),(Lf (X6.Where.map X1)),(aI .u8 X6.Window.Kind),(aI .i64 X6.Window.Size),(aI .i64 X6.Window.Every),(aB X6.ByKey),(aI .u8 X6.Late)]] 10),(1,Ob (List.map (X0e true X0) X0j) 1),(2,Ob (List.map (X0e true X0) X08) 1),(4,Ob [(AV.list true (Xi.map X0))] 1)] rfl (by first|rfl|(simp[hc,h5513];done)|(simp[hc,h5513];rfl)) (X04 Xp Xi) ?_ (by repeat' first|exact X0q|refine Ya ?_ ?_) (by repeat' first|exact X0q|refine Ya ?_ ?_)
      revert h
      refine bI fun u5731 h5732=>rnI [.no] (o:=by repeat' first|apply Ya|exact pcM|(refine X8 h5517 rfl ?_;first|(simp;done)|(simp;omega)|(simp[hc,h5513];done)|(simp[hc,h5513];omega))|(refine X2 h5517 (by decide) ?_;first|(simp;done)|(simp;omega)|(simp[hc,h5513];done)|(simp[hc,h5513];omega))|(refine X8 h5519 rfl ?_;first|(simp;done)|(simp;omega)|(simp[hc,h5513];done)|(simp[hc,h5513];omega))|(refine X2 h5519 (by decide) ?_;first|(simp;done)|(simp;omega)|(simp[hc,h5513];done)|(simp[hc,h5513];omega))|(refine X8 h5732 rfl ?_;first|(simp;done)|(simp;omega)|(simp[hc,h5513];done)|(simp[hc,h5513];omega))|(refine X2 h5732 (by decide) ?_;first|(simp;done)|(simp;omega)|(simp[hc,h5513];done)|(simp[hc,h5513];omega))|exact Xw) ?_
      intro h
      exact wkT [(2,5)] (ih (k+1) hx1 _ _ nbF nbF o h C0)
     obtain rfl:=Xj rfl
     refine X0l [.stop 999998] (o:=by repeat' first|apply Ya|exact pcM|(refine X8 h5517 rfl ?_;first|(simp;done)|(simp;omega)|(simp[hc,h5513];done)|(simp[hc,h5513];omega))|(refine X2 h5517 (by decide) ?_;first|(simp;done)|(simp;omega)|(simp[hc,h5513];done)|(simp[hc,h5513];omega))|(refine X8 h5519 rfl ?_;first|(simp;done)|(simp;omega)|(simp[hc,h5513];done)|(simp[hc,h5513];omega))|(refine X2 h5519 (by decide) ?_;first|(simp;done)|(simp;omega)|(simp[hc,h5513];done)|(simp[hc,h5513];omega))|exact Xw) ?_
     refine X3.denil 4 [(AV.list true (List.map X0 ([]:List Xb)))] rfl rfl ?_
     revert h
     refine bI fun u5733 h5734=>rnI [.no] (o:=by repeat' first|apply Ya|exact pcM|(refine X8 h5517 rfl ?_;first|(simp;done)|(simp;omega)|(simp[hc,h5513];done)|(simp[hc,h5513];omega))|(refine X2 h5517 (by decide) ?_;first|(simp;done)|(simp;omega)|(simp[hc,h5513];done)|(simp[hc,h5513];omega))|(refine X8 h5519 rfl ?_;first|(simp;done)|(simp;omega)|(simp[hc,h5513];done)|(simp[hc,h5513];omega))|(refine X2 h5519 (by decide) ?_;first|(simp;done)|(simp;omega)|(simp[hc,h5513];done)|(simp[hc,h5513];omega))|(refine X8 h5734 rfl ?_;first|(simp;done)|(simp;omega)|(simp[hc,h5513];done)|(simp[hc,h5513];omega))|(refine X2 h5734 (by decide) ?_;first|(simp;done)|(simp;omega)|(simp[hc,h5513];done)|(simp[hc,h5513];omega))|exact Xw) ?_
     intro h
     exact wkT [(2,5)] (ih (k+1) hx1 _ _ nbF nbF o h C0)
    obtain rfl:=X01 rfl
    rcases Xr with ⟨_|_,Xj⟩
    ·
     refine X0l [.stop 999998] (o:=by repeat' first|apply Ya|exact pcM|(refine X8 h5517 rfl ?_;first|(simp;done)|(simp;omega)|(simp[hc,h5513];done)|(simp[hc,h5513];omega))|(refine X2 h5517 (by decide) ?_;first|(simp;done)|(simp;omega)|(simp[hc,h5513];done)|(simp[hc,h5513];omega))|(refine X8 h5519 rfl ?_;first|(simp;done)|(simp;omega)|(simp[hc,h5513];done)|(simp[hc,h5513];omega))|(refine X2 h5519 (by decide) ?_;first|(simp;done)|(simp;omega)|(simp[hc,h5513];done)|(simp[hc,h5513];omega))|exact Xw) ?_
     refine X3.freeze 3 (Xi.map X0) [1,2,5,6,15,17,146,148] [(0,Ob [AV.agg [(aI .u8 X6.Agg),(Lf (X6.Arg.map X1)),(Lf (List.map (aI .i64) X6.Sources)),(aB X6.Join),(Lf (X6.Where.map X1)),(aI .u8 X6.Window.Kind),(aI .i64 X6.Window.Size),(aI .i64 X6.Window.Every),(aB X6.ByKey),(aI .u8 X6.Late)]] 10),(1,Ob (List.map (X0e true X0) X0j) 1),(4,Ob [(AV.list true (Xi.map X0))] 1)] rfl (by first|rfl|(simp[hc,h5513];done)|(simp[hc,h5513];rfl)) (X04 Xp Xi) ?_ (by repeat' first|exact X0q|refine Ya ?_ ?_) (by repeat' first|exact X0q|refine Ya ?_ ?_)
     revert h
     refine bI fun u5735 h5736=>rnI [.no] (o:=by repeat' first|apply Ya|exact pcM|(refine X8 h5517 rfl ?_;first|(simp;done)|(simp;omega)|(simp[hc,h5513];done)|(simp[hc,h5513];omega))|(refine X2 h5517 (by decide) ?_;first|(simp;done)|(simp;omega)|(simp[hc,h5513];done)|(simp[hc,h5513];omega))|(refine X8 h5519 rfl ?_;first|(simp;done)|(simp;omega)|(simp[hc,h5513];done)|(simp[hc,h5513];omega))|(refine X2 h5519 (by decide) ?_;first|(simp;done)|(simp;omega)|(simp[hc,h5513];done)|(simp[hc,h5513];omega))|(refine X8 h5736 rfl ?_;first|(simp;done)|(simp;omega)|(simp[hc,h5513];done)|(simp[hc,h5513];omega))|(refine X2 h5736 (by decide) ?_;first|(simp;done)|(simp;omega)|(simp[hc,h5513];done)|(simp[hc,h5513];omega))|exact Xw) ?_
     intro h
     exact wkT [(2,5)] (ih (k+1) hx1 _ _ nbF nbF o h C0)
    obtain rfl:=Xj rfl
    refine X0l [.stop 999998] (o:=by repeat' first|apply Ya|exact pcM|(refine X8 h5517 rfl ?_;first|(simp;done)|(simp;omega)|(simp[hc,h5513];done)|(simp[hc,h5513];omega))|(refine X2 h5517 (by decide) ?_;first|(simp;done)|(simp;omega)|(simp[hc,h5513];done)|(simp[hc,h5513];omega))|(refine X8 h5519 rfl ?_;first|(simp;done)|(simp;omega)|(simp[hc,h5513];done)|(simp[hc,h5513];omega))|(refine X2 h5519 (by decide) ?_;first|(simp;done)|(simp;omega)|(simp[hc,h5513];done)|(simp[hc,h5513];omega))|exact Xw) ?_
    refine X3.denil 4 [(AV.list true (List.map X0 ([]:List Xb)))] rfl rfl ?_
    revert h
    refine bI fun u5737 h5738=>rnI [.no] (o:=by repeat' first|apply Ya|exact pcM|(refine X8 h5517 rfl ?_;first|(simp;done)|(simp;omega)|(simp[hc,h5513];done)|(simp[hc,h5513];omega))|(refine X2 h5517 (by decide) ?_;first|(simp;done)|(simp;omega)|(simp[hc,h5513];done)|(simp[hc,h5513];omega))|(refine X8 h5519 rfl ?_;first|(simp;done)|(simp;omega)|(simp[hc,h5513];done)|(simp[hc,h5513];omega))|(refine X2 h5519 (by decide) ?_;first|(simp;done)|(simp;omega)|(simp[hc,h5513];done)|(simp[hc,h5513];omega))|(refine X8 h5738 rfl ?_;first|(simp;done)|(simp;omega)|(simp[hc,h5513];done)|(simp[hc,h5513];omega))|(refine X2 h5738 (by decide) ?_;first|(simp;done)|(simp;omega)|(simp[hc,h5513];done)|(simp[hc,h5513];omega))|exact Xw) ?_
    intro h
    exact wkT [(2,5)] (ih (k+1) hx1 _ _ nbF nbF o h C0)
   obtain rfl:=X0v rfl
   rcases X05 with ⟨_|_,X01⟩
   ·
    rcases Xr with ⟨_|_,Xj⟩
    ·
     refine X0l [.stop 999998] (o:=by repeat' first|apply Ya|exact pcM|(refine X8 h5517 rfl ?_;first|(simp;done)|(simp;omega)|(simp[hc,h5513];done)|(simp[hc,h5513];omega))|(refine X2 h5517 (by decide) ?_;first|(simp;done)|(simp;omega)|(simp[hc,h5513];done)|(simp[hc,h5513];omega))|(refine X8 h5519 rfl ?_;first|(simp;done)|(simp;omega)|(simp[hc,h5513];done)|(simp[hc,h5513];omega))|(refine X2 h5519 (by decide) ?_;first|(simp;done)|(simp;omega)|(simp[hc,h5513];done)|(simp[hc,h5513];omega))|exact Xw) ?_
     refine X3.freeze 3 (Xi.map X0) [1,2,5,6,15,17,146,148] [(0,Ob [AV.agg [(aI .u8 X6.Agg),(Lf (X6.Arg.map X1)),(Lf (List.map (aI .i64) X6.Sources)),(aB X6.Join),(Lf (X6.Where.map X1)),(aI .u8 X6.Window.Kind),(aI .i64 X6.Window.Size),(aI .i64 X6.Window.Every),(aB X6.ByKey),(aI .u8 X6.Late)]] 10),(2,Ob (List.map (X0e true X0) X08) 1),(4,Ob [(AV.list true (Xi.map X0))] 1)] rfl (by first|rfl|(simp[hc,h5513];done)|(simp[hc,h5513];rfl)) (X04 Xp Xi) ?_ (by repeat' first|exact X0q|refine Ya ?_ ?_) (by repeat' first|exact X0q|refine Ya ?_ ?_)
     revert h
     refine bI fun u5739 h5740=>rnI [.no] (o:=by repeat' first|apply Ya|exact pcM|(refine X8 h5517 rfl ?_;first|(simp;done)|(simp;omega)|(simp[hc,h5513];done)|(simp[hc,h5513];omega))|(refine X2 h5517 (by decide) ?_;first|(simp;done)|(simp;omega)|(simp[hc,h5513];done)|(simp[hc,h5513];omega))|(refine X8 h5519 rfl ?_;first|(simp;done)|(simp;omega)|(simp[hc,h5513];done)|(simp[hc,h5513];omega))|(refine X2 h5519 (by decide) ?_;first|(simp;done)|(simp;omega)|(simp[hc,h5513];done)|(simp[hc,h5513];omega))|(refine X8 h5740 rfl ?_;first|(simp;done)|(simp;omega)|(simp[hc,h5513];done)|(simp[hc,h5513];omega))|(refine X2 h5740 (by decide) ?_;first|(simp;done)|(simp;omega)|(simp[hc,h5513];done)|(simp[hc,h5513];omega))|exact Xw) ?_
     intro h
     exact wkT [(2,5)] (ih (k+1) hx1 _ _ nbS nbF o h C0)
    obtain rfl:=Xj rfl
    refine X0l [.stop 999998] (o:=by repeat' first|apply Ya|exact pcM|(refine X8 h5517 rfl ?_;first|(simp;done)|(simp;omega)|(simp[hc,h5513];done)|(simp[hc,h5513];omega))|(refine X2 h5517 (by decide) ?_;first|(simp;done)|(simp;omega)|(simp[hc,h5513];done)|(simp[hc,h5513];omega))|(refine X8 h5519 rfl ?_;first|(simp;done)|(simp;omega)|(simp[hc,h5513];done)|(simp[hc,h5513];omega))|(refine X2 h5519 (by decide) ?_;first|(simp;done)|(simp;omega)|(simp[hc,h5513];done)|(simp[hc,h5513];omega))|exact Xw) ?_
    refine X3.denil 4 [(AV.list true (List.map X0 ([]:List Xb)))] rfl rfl ?_
    revert h
    refine bI fun u5741 h5742=>rnI [.no] (o:=by repeat' first|apply Ya|exact pcM|(refine X8 h5517 rfl ?_;first|(simp;done)|(simp;omega)|(simp[hc,h5513];done)|(simp[hc,h5513];omega))|(refine X2 h5517 (by decide) ?_;first|(simp;done)|(simp;omega)|(simp[hc,h5513];done)|(simp[hc,h5513];omega))|(refine X8 h5519 rfl ?_;first|(simp;done)|(simp;omega)|(simp[hc,h5513];done)|(simp[hc,h5513];omega))|(refine X2 h5519 (by decide) ?_;first|(simp;done)|(simp;omega)|(simp[hc,h5513];done)|(simp[hc,h5513];omega))|(refine X8 h5742 rfl ?_;first|(simp;done)|(simp;omega)|(simp[hc,h5513];done)|(simp[hc,h5513];omega))|(refine X2 h5742 (by decide) ?_;first|(simp;done)|(simp;omega)|(simp[hc,h5513];done)|(simp[hc,h5513];omega))|exact Xw) ?_
    intro h
    exact wkT [(2,5)] (ih (k+1) hx1 _ _ nbS nbF o h C0)
   obtain rfl:=X01 rfl
   rcases Xr with ⟨_|_,Xj⟩
   ·
    refine X0l [.stop 999998] (o:=by repeat' first|apply Ya|exact pcM|(refine X8 h5517 rfl ?_;first|(simp;done)|(simp;omega)|(simp[hc,h5513];done)|(simp[hc,h5513];omega))|(refine X2 h5517 (by decide) ?_;first|(simp;done)|(simp;omega)|(simp[hc,h5513];done)|(simp[hc,h5513];omega))|(refine X8 h5519 rfl ?_;first|(simp;done)|(simp;omega)|(simp[hc,h5513];done)|(simp[hc,h5513];omega))|(refine X2 h5519 (by decide) ?_;first|(simp;done)|(simp;omega)|(simp[hc,h5513];done)|(simp[hc,h5513];omega))|exact Xw) ?_
    refine X3.freeze 3 (Xi.map X0) [1,2,5,6,15,17,146,148] [(0,Ob [AV.agg [(aI .u8 X6.Agg),(Lf (X6.Arg.map X1)),(Lf (List.map (aI .i64) X6.Sources)),(aB X6.Join),(Lf (X6.Where.map X1)),(aI .u8 X6.Window.Kind),(aI .i64 X6.Window.Size),(aI .i64 X6.Window.Every),(aB X6.ByKey),(aI .u8 X6.Late)]] 10),(4,Ob [(AV.list true (Xi.map X0))] 1)] rfl (by first|rfl|(simp[hc,h5513];done)|(simp[hc,h5513];rfl)) (X04 Xp Xi) ?_ (by repeat' first|exact X0q|refine Ya ?_ ?_) (by repeat' first|exact X0q|refine Ya ?_ ?_)
    revert h
    refine bI fun u5743 h5744=>rnI [.no] (o:=by repeat' first|apply Ya|exact pcM|(refine X8 h5517 rfl ?_;first|(simp;done)|(simp;omega)|(simp[hc,h5513];done)|(simp[hc,h5513];omega))|(refine X2 h5517 (by decide) ?_;first|(simp;done)|(simp;omega)|(simp[hc,h5513];done)|(simp[hc,h5513];omega))|(refine X8 h5519 rfl ?_;first|(simp;done)|(simp;omega)|(simp[hc,h5513];done)|(simp[hc,h5513];omega))|(refine X2 h5519 (by decide) ?_;first|(simp;done)|(simp;omega)|(simp[hc,h5513];done)|(simp[hc,h5513];omega))|(refine X8 h5744 rfl ?_;first|(simp;done)|(simp;omega)|(simp[hc,h5513];done)|(simp[hc,h5513];omega))|(refine X2 h5744 (by decide) ?_;first|(simp;done)|(simp;omega)|(simp[hc,h5513];done)|(simp[hc,h5513];omega))|exact Xw) ?_
    intro h
    exact wkT [(2,5)] (ih (k+1) hx1 _ _ nbS nbF o h C0)
   obtain rfl:=Xj rfl
   refine X0l [.stop 999998] (o:=by repeat' first|apply Ya|exact pcM|(refine X8 h5517 rfl ?_;first|(simp;done)|(simp;omega)|(simp[hc,h5513];done)|(simp[hc,h5513];omega))|(refine X2 h5517 (by decide) ?_;first|(simp;done)|(simp;omega)|(simp[hc,h5513];done)|(simp[hc,h5513];omega))|(refine X8 h5519 rfl ?_;first|(simp;done)|(simp;omega)|(simp[hc,h5513];done)|(simp[hc,h5513];omega))|(refine X2 h5519 (by decide) ?_;first|(simp;done)|(simp;omega)|(simp[hc,h5513];done)|(simp[hc,h5513];omega))|exact Xw) ?_
   refine X3.denil 4 [(AV.list true (List.map X0 ([]:List Xb)))] rfl rfl ?_
   revert h
   refine bI fun u5745 h5746=>rnI [.no] (o:=by repeat' first|apply Ya|exact pcM|(refine X8 h5517 rfl ?_;first|(simp;done)|(simp;omega)|(simp[hc,h5513];done)|(simp[hc,h5513];omega))|(refine X2 h5517 (by decide) ?_;first|(simp;done)|(simp;omega)|(simp[hc,h5513];done)|(simp[hc,h5513];omega))|(refine X8 h5519 rfl ?_;first|(simp;done)|(simp;omega)|(simp[hc,h5513];done)|(simp[hc,h5513];omega))|(refine X2 h5519 (by decide) ?_;first|(simp;done)|(simp;omega)|(simp[hc,h5513];done)|(simp[hc,h5513];omega))|(refine X8 h5746 rfl ?_;first|(simp;done)|(simp;omega)|(simp[hc,h5513];done)|(simp[hc,h5513];omega))|(refine X2 h5746 (by decide) ?_;first|(simp;done)|(simp;omega)|(simp[hc,h5513];done)|(simp[hc,h5513];omega))|exact Xw) ?_
   intro h
   exact wkT [(2,5)] (ih (k+1) hx1 _ _ nbS nbF o h C0)
  intro h
  have h5513:¬ (x=[]):=(fun e=>by rw[e] at q;cases q)
  revert h
  refine bI fun u5747 h5748=>bI fun v5749 h5750=>bI fun u5751 h5752=>rnI [.el (aI .i64 (X8l.length:Int)),Bt,.el (X0e false X0 x),.via (AV.list true (x.map X0)),.pure _ (X0 v5749),.no,.stop 999998] (o:=by repeat' first|apply Ya|exact pcM|(refine X8 h5748 rfl ?_;first|(simp;done)|(simp;omega)|(simp[hc,h5513];done)|(simp[hc,h5513];omega))|(refine X2 h5748 (by decide) ?_;first|(simp;done)|(simp;omega)|(simp[hc,h5513];done)|(simp[hc,h5513];omega))|(refine X8 h5752 rfl ?_;first|(simp;done)|(simp;omega)|(simp[hc,h5513];done)|(simp[hc,h5513];omega))|(refine X2 h5752 (by decide) ?_;first|(simp;done)|(simp;omega)|(simp[hc,h5513];done)|(simp[hc,h5513];omega))|exact Xw) ?_
  intro h
  refine X3.freeze 6 (List.map X0 (x++[v5749])) [1,2,5,6,16,17,106,116] [(0,Ob [AV.agg [(aI .u8 X6.Agg),(Lf (X6.Arg.map X1)),(Lf (List.map (aI .i64) X6.Sources)),(aB X6.Join),(Lf (X6.Where.map X1)),(aI .u8 X6.Window.Kind),(aI .i64 X6.Window.Size),(aI .i64 X6.Window.Every),(aB X6.ByKey),(aI .u8 X6.Late)]] 10),(5,Ob [AV.agg [(aB v5749.Mark),(aI .i64 v5749.Time),(aI .i64 v5749.Record.Key),(aI .i64 v5749.Record.Time),(aI .i64 v5749.Record.Value)]] 5),(7,Ob [(AV.list true (List.map X0 (x++[v5749])))] 1)] rfl (by first|rfl|(simp[hc,h5513];done)|(simp[hc,h5513];rfl)) (X04 Xp (x++[v5749])) ?_ (by repeat' first|exact X0q|refine Ya ?_ ?_) (by repeat' first|exact X0q|refine Ya ?_ ?_)
  revert h
  refine bI fun u5753 h5754=>bI fun o5964 h5965=>rnI [.no] (o:=by repeat' first|apply Ya|exact pcM|(refine X8 h5748 rfl ?_;first|(simp;done)|(simp;omega)|(simp[hc,h5513];done)|(simp[hc,h5513];omega))|(refine X2 h5748 (by decide) ?_;first|(simp;done)|(simp;omega)|(simp[hc,h5513];done)|(simp[hc,h5513];omega))|(refine X8 h5752 rfl ?_;first|(simp;done)|(simp;omega)|(simp[hc,h5513];done)|(simp[hc,h5513];omega))|(refine X2 h5752 (by decide) ?_;first|(simp;done)|(simp;omega)|(simp[hc,h5513];done)|(simp[hc,h5513];omega))|(refine X8 h5754 rfl ?_;first|(simp;done)|(simp;omega)|(simp[hc,h5513];done)|(simp[hc,h5513];omega))|(refine X2 h5754 (by decide) ?_;first|(simp;done)|(simp;omega)|(simp[hc,h5513];done)|(simp[hc,h5513];omega))|exact Xw) ?_
  intro h
  refine wkT [(1,8)] (X3.cut (X12 X8l X6 Xo6 Xo5 (([]:List (List Xb))++[(x++[v5749])]) ([]:List (List Xb)) (k:Int) nbF nbS _ _ _ nbS _ h5965 ?_))
  intro X0j X08 Xi X0g X05 Xr eo5964;subst eo5964
  refine X3.glue ?_
  try dsimp only at h
  rcases X0g with ⟨_|_,X0v⟩
  ·
   rcases X05 with ⟨_|_,X01⟩
   ·
    rcases Xr with ⟨_|_,Xj⟩
    ·
     refine X0l [.stop 999998] (o:=by repeat' first|apply Ya|exact pcM|(refine X8 h5748 rfl ?_;first|(simp;done)|(simp;omega)|(simp[hc,h5513];done)|(simp[hc,h5513];omega))|(refine X2 h5748 (by decide) ?_;first|(simp;done)|(simp;omega)|(simp[hc,h5513];done)|(simp[hc,h5513];omega))|(refine X8 h5752 rfl ?_;first|(simp;done)|(simp;omega)|(simp[hc,h5513];done)|(simp[hc,h5513];omega))|(refine X2 h5752 (by decide) ?_;first|(simp;done)|(simp;omega)|(simp[hc,h5513];done)|(simp[hc,h5513];omega))|(refine X8 h5754 rfl ?_;first|(simp;done)|(simp;omega)|(simp[hc,h5513];done)|(simp[hc,h5513];omega))|(refine X2 h5754 (by decide) ?_;first|(simp;done)|(simp;omega)|(simp[hc,h5513];done)|(simp[hc,h5513];omega))|exact Xw) ?_
     refine X3.freeze 3 (Xi.map X0) [1,2,5,6,15,17,146,148] [(0,Ob [AV.agg [(aI .u8 X6.Agg),(Lf (X6.Arg.map X1)),(Lf (List.map (aI .i64) X6.Sources)),(aB X6.Join),(Lf (X6.Where.map X1)),(aI .u8 X6.Window.Kind),(aI .i64 X6.Window.Size),(aI .i64 X6.Window.Every),(aB X6.ByKey),(aI .u8 X6.Late)]] 10),(1,Ob (List.map (X0e true X0) X0j) 1),(2,Ob (List.map (X0e true X0) X08) 1),(4,Ob [(AV.list true (Xi.map X0))] 1)] rfl (by first|rfl|(simp[hc,h5513];done)|(simp[hc,h5513];rfl)) (X04 Xp Xi) ?_ (by repeat' first|exact X0q|refine Ya ?_ ?_) (by repeat' first|exact X0q|refine Ya ?_ ?_)
     revert h
     refine bI fun u5966 h5967=>rnI [.no] (o:=by repeat' first|apply Ya|exact pcM|(refine X8 h5748 rfl ?_;first|(simp;done)|(simp;omega)|(simp[hc,h5513];done)|(simp[hc,h5513];omega))|(refine X2 h5748 (by decide) ?_;first|(simp;done)|(simp;omega)|(simp[hc,h5513];done)|(simp[hc,h5513];omega))|(refine X8 h5752 rfl ?_;first|(simp;done)|(simp;omega)|(simp[hc,h5513];done)|(simp[hc,h5513];omega))|(refine X2 h5752 (by decide) ?_;first|(simp;done)|(simp;omega)|(simp[hc,h5513];done)|(simp[hc,h5513];omega))|(refine X8 h5754 rfl ?_;first|(simp;done)|(simp;omega)|(simp[hc,h5513];done)|(simp[hc,h5513];omega))|(refine X2 h5754 (by decide) ?_;first|(simp;done)|(simp;omega)|(simp[hc,h5513];done)|(simp[hc,h5513];omega))|(refine X8 h5967 rfl ?_;first|(simp;done)|(simp;omega)|(simp[hc,h5513];done)|(simp[hc,h5513];omega))|(refine X2 h5967 (by decide) ?_;first|(simp;done)|(simp;omega)|(simp[hc,h5513];done)|(simp[hc,h5513];omega))|exact Xw) ?_
     intro h
     exact wkT [(2,5)] (ih (k+1) hx1 _ _ nbF nbF o h C0)
    obtain rfl:=Xj rfl
    refine X0l [.stop 999998] (o:=by repeat' first|apply Ya|exact pcM|(refine X8 h5748 rfl ?_;first|(simp;done)|(simp;omega)|(simp[hc,h5513];done)|(simp[hc,h5513];omega))|(refine X2 h5748 (by decide) ?_;first|(simp;done)|(simp;omega)|(simp[hc,h5513];done)|(simp[hc,h5513];omega))|(refine X8 h5752 rfl ?_;first|(simp;done)|(simp;omega)|(simp[hc,h5513];done)|(simp[hc,h5513];omega))|(refine X2 h5752 (by decide) ?_;first|(simp;done)|(simp;omega)|(simp[hc,h5513];done)|(simp[hc,h5513];omega))|(refine X8 h5754 rfl ?_;first|(simp;done)|(simp;omega)|(simp[hc,h5513];done)|(simp[hc,h5513];omega))|(refine X2 h5754 (by decide) ?_;first|(simp;done)|(simp;omega)|(simp[hc,h5513];done)|(simp[hc,h5513];omega))|exact Xw) ?_
    refine X3.denil 4 [(AV.list true (List.map X0 ([]:List Xb)))] rfl rfl ?_
    revert h
    refine bI fun u5968 h5969=>rnI [.no] (o:=by repeat' first|apply Ya|exact pcM|(refine X8 h5748 rfl ?_;first|(simp;done)|(simp;omega)|(simp[hc,h5513];done)|(simp[hc,h5513];omega))|(refine X2 h5748 (by decide) ?_;first|(simp;done)|(simp;omega)|(simp[hc,h5513];done)|(simp[hc,h5513];omega))|(refine X8 h5752 rfl ?_;first|(simp;done)|(simp;omega)|(simp[hc,h5513];done)|(simp[hc,h5513];omega))|(refine X2 h5752 (by decide) ?_;first|(simp;done)|(simp;omega)|(simp[hc,h5513];done)|(simp[hc,h5513];omega))|(refine X8 h5754 rfl ?_;first|(simp;done)|(simp;omega)|(simp[hc,h5513];done)|(simp[hc,h5513];omega))|(refine X2 h5754 (by decide) ?_;first|(simp;done)|(simp;omega)|(simp[hc,h5513];done)|(simp[hc,h5513];omega))|(refine X8 h5969 rfl ?_;first|(simp;done)|(simp;omega)|(simp[hc,h5513];done)|(simp[hc,h5513];omega))|(refine X2 h5969 (by decide) ?_;first|(simp;done)|(simp;omega)|(simp[hc,h5513];done)|(simp[hc,h5513];omega))|exact Xw) ?_
    intro h
    exact wkT [(2,5)] (ih (k+1) hx1 _ _ nbF nbF o h C0)
   obtain rfl:=X01 rfl
   rcases Xr with ⟨_|_,Xj⟩
   ·
    refine X0l [.stop 999998] (o:=by repeat' first|apply Ya|exact pcM|(refine X8 h5748 rfl ?_;first|(simp;done)|(simp;omega)|(simp[hc,h5513];done)|(simp[hc,h5513];omega))|(refine X2 h5748 (by decide) ?_;first|(simp;done)|(simp;omega)|(simp[hc,h5513];done)|(simp[hc,h5513];omega))|(refine X8 h5752 rfl ?_;first|(simp;done)|(simp;omega)|(simp[hc,h5513];done)|(simp[hc,h5513];omega))|(refine X2 h5752 (by decide) ?_;first|(simp;done)|(simp;omega)|(simp[hc,h5513];done)|(simp[hc,h5513];omega))|(refine X8 h5754 rfl ?_;first|(simp;done)|(simp;omega)|(simp[hc,h5513];done)|(simp[hc,h5513];omega))|(refine X2 h5754 (by decide) ?_;first|(simp;done)|(simp;omega)|(simp[hc,h5513];done)|(simp[hc,h5513];omega))|exact Xw) ?_
    refine X3.freeze 3 (Xi.map X0) [1,2,5,6,15,17,146,148] [(0,Ob [AV.agg [(aI .u8 X6.Agg),(Lf (X6.Arg.map X1)),(Lf (List.map (aI .i64) X6.Sources)),(aB X6.Join),(Lf (X6.Where.map X1)),(aI .u8 X6.Window.Kind),(aI .i64 X6.Window.Size),(aI .i64 X6.Window.Every),(aB X6.ByKey),(aI .u8 X6.Late)]] 10),(1,Ob (List.map (X0e true X0) X0j) 1),(4,Ob [(AV.list true (Xi.map X0))] 1)] rfl (by first|rfl|(simp[hc,h5513];done)|(simp[hc,h5513];rfl)) (X04 Xp Xi) ?_ (by repeat' first|exact X0q|refine Ya ?_ ?_) (by repeat' first|exact X0q|refine Ya ?_ ?_)
    revert h
    refine bI fun u5970 h5971=>rnI [.no] (o:=by repeat' first|apply Ya|exact pcM|(refine X8 h5748 rfl ?_;first|(simp;done)|(simp;omega)|(simp[hc,h5513];done)|(simp[hc,h5513];omega))|(refine X2 h5748 (by decide) ?_;first|(simp;done)|(simp;omega)|(simp[hc,h5513];done)|(simp[hc,h5513];omega))|(refine X8 h5752 rfl ?_;first|(simp;done)|(simp;omega)|(simp[hc,h5513];done)|(simp[hc,h5513];omega))|(refine X2 h5752 (by decide) ?_;first|(simp;done)|(simp;omega)|(simp[hc,h5513];done)|(simp[hc,h5513];omega))|(refine X8 h5754 rfl ?_;first|(simp;done)|(simp;omega)|(simp[hc,h5513];done)|(simp[hc,h5513];omega))|(refine X2 h5754 (by decide) ?_;first|(simp;done)|(simp;omega)|(simp[hc,h5513];done)|(simp[hc,h5513];omega))|(refine X8 h5971 rfl ?_;first|(simp;done)|(simp;omega)|(simp[hc,h5513];done)|(simp[hc,h5513];omega))|(refine X2 h5971 (by decide) ?_;first|(simp;done)|(simp;omega)|(simp[hc,h5513];done)|(simp[hc,h5513];omega))|exact Xw) ?_
    intro h
    exact wkT [(2,5)] (ih (k+1) hx1 _ _ nbF nbF o h C0)
   obtain rfl:=Xj rfl
   refine X0l [.stop 999998] (o:=by repeat' first|apply Ya|exact pcM|(refine X8 h5748 rfl ?_;first|(simp;done)|(simp;omega)|(simp[hc,h5513];done)|(simp[hc,h5513];omega))|(refine X2 h5748 (by decide) ?_;first|(simp;done)|(simp;omega)|(simp[hc,h5513];done)|(simp[hc,h5513];omega))|(refine X8 h5752 rfl ?_;first|(simp;done)|(simp;omega)|(simp[hc,h5513];done)|(simp[hc,h5513];omega))|(refine X2 h5752 (by decide) ?_;first|(simp;done)|(simp;omega)|(simp[hc,h5513];done)|(simp[hc,h5513];omega))|(refine X8 h5754 rfl ?_;first|(simp;done)|(simp;omega)|(simp[hc,h5513];done)|(simp[hc,h5513];omega))|(refine X2 h5754 (by decide) ?_;first|(simp;done)|(simp;omega)|(simp[hc,h5513];done)|(simp[hc,h5513];omega))|exact Xw) ?_
   refine X3.denil 4 [(AV.list true (List.map X0 ([]:List Xb)))] rfl rfl ?_
   revert h
   refine bI fun u5972 h5973=>rnI [.no] (o:=by repeat' first|apply Ya|exact pcM|(refine X8 h5748 rfl ?_;first|(simp;done)|(simp;omega)|(simp[hc,h5513];done)|(simp[hc,h5513];omega))|(refine X2 h5748 (by decide) ?_;first|(simp;done)|(simp;omega)|(simp[hc,h5513];done)|(simp[hc,h5513];omega))|(refine X8 h5752 rfl ?_;first|(simp;done)|(simp;omega)|(simp[hc,h5513];done)|(simp[hc,h5513];omega))|(refine X2 h5752 (by decide) ?_;first|(simp;done)|(simp;omega)|(simp[hc,h5513];done)|(simp[hc,h5513];omega))|(refine X8 h5754 rfl ?_;first|(simp;done)|(simp;omega)|(simp[hc,h5513];done)|(simp[hc,h5513];omega))|(refine X2 h5754 (by decide) ?_;first|(simp;done)|(simp;omega)|(simp[hc,h5513];done)|(simp[hc,h5513];omega))|(refine X8 h5973 rfl ?_;first|(simp;done)|(simp;omega)|(simp[hc,h5513];done)|(simp[hc,h5513];omega))|(refine X2 h5973 (by decide) ?_;first|(simp;done)|(simp;omega)|(simp[hc,h5513];done)|(simp[hc,h5513];omega))|exact Xw) ?_
   intro h
   exact wkT [(2,5)] (ih (k+1) hx1 _ _ nbF nbF o h C0)
  obtain rfl:=X0v rfl
  rcases X05 with ⟨_|_,X01⟩
  ·
   rcases Xr with ⟨_|_,Xj⟩
   ·
    refine X0l [.stop 999998] (o:=by repeat' first|apply Ya|exact pcM|(refine X8 h5748 rfl ?_;first|(simp;done)|(simp;omega)|(simp[hc,h5513];done)|(simp[hc,h5513];omega))|(refine X2 h5748 (by decide) ?_;first|(simp;done)|(simp;omega)|(simp[hc,h5513];done)|(simp[hc,h5513];omega))|(refine X8 h5752 rfl ?_;first|(simp;done)|(simp;omega)|(simp[hc,h5513];done)|(simp[hc,h5513];omega))|(refine X2 h5752 (by decide) ?_;first|(simp;done)|(simp;omega)|(simp[hc,h5513];done)|(simp[hc,h5513];omega))|(refine X8 h5754 rfl ?_;first|(simp;done)|(simp;omega)|(simp[hc,h5513];done)|(simp[hc,h5513];omega))|(refine X2 h5754 (by decide) ?_;first|(simp;done)|(simp;omega)|(simp[hc,h5513];done)|(simp[hc,h5513];omega))|exact Xw) ?_
    refine X3.freeze 3 (Xi.map X0) [1,2,5,6,15,17,146,148] [(0,Ob [AV.agg [(aI .u8 X6.Agg),(Lf (X6.Arg.map X1)),(Lf (List.map (aI .i64) X6.Sources)),(aB X6.Join),(Lf (X6.Where.map X1)),(aI .u8 X6.Window.Kind),(aI .i64 X6.Window.Size),(aI .i64 X6.Window.Every),(aB X6.ByKey),(aI .u8 X6.Late)]] 10),(2,Ob (List.map (X0e true X0) X08) 1),(4,Ob [(AV.list true (Xi.map X0))] 1)] rfl (by first|rfl|(simp[hc,h5513];done)|(simp[hc,h5513];rfl)) (X04 Xp Xi) ?_ (by repeat' first|exact X0q|refine Ya ?_ ?_) (by repeat' first|exact X0q|refine Ya ?_ ?_)
    revert h
    refine bI fun u5974 h5975=>rnI [.no] (o:=by repeat' first|apply Ya|exact pcM|(refine X8 h5748 rfl ?_;first|(simp;done)|(simp;omega)|(simp[hc,h5513];done)|(simp[hc,h5513];omega))|(refine X2 h5748 (by decide) ?_;first|(simp;done)|(simp;omega)|(simp[hc,h5513];done)|(simp[hc,h5513];omega))|(refine X8 h5752 rfl ?_;first|(simp;done)|(simp;omega)|(simp[hc,h5513];done)|(simp[hc,h5513];omega))|(refine X2 h5752 (by decide) ?_;first|(simp;done)|(simp;omega)|(simp[hc,h5513];done)|(simp[hc,h5513];omega))|(refine X8 h5754 rfl ?_;first|(simp;done)|(simp;omega)|(simp[hc,h5513];done)|(simp[hc,h5513];omega))|(refine X2 h5754 (by decide) ?_;first|(simp;done)|(simp;omega)|(simp[hc,h5513];done)|(simp[hc,h5513];omega))|(refine X8 h5975 rfl ?_;first|(simp;done)|(simp;omega)|(simp[hc,h5513];done)|(simp[hc,h5513];omega))|(refine X2 h5975 (by decide) ?_;first|(simp;done)|(simp;omega)|(simp[hc,h5513];done)|(simp[hc,h5513];omega))|exact Xw) ?_
    intro h
    exact wkT [(2,5)] (ih (k+1) hx1 _ _ nbS nbF o h C0)
   obtain rfl:=Xj rfl
   refine X0l [.stop 999998] (o:=by repeat' first|apply Ya|exact pcM|(refine X8 h5748 rfl ?_;first|(simp;done)|(simp;omega)|(simp[hc,h5513];done)|(simp[hc,h5513];omega))|(refine X2 h5748 (by decide) ?_;first|(simp;done)|(simp;omega)|(simp[hc,h5513];done)|(simp[hc,h5513];omega))|(refine X8 h5752 rfl ?_;first|(simp;done)|(simp;omega)|(simp[hc,h5513];done)|(simp[hc,h5513];omega))|(refine X2 h5752 (by decide) ?_;first|(simp;done)|(simp;omega)|(simp[hc,h5513];done)|(simp[hc,h5513];omega))|(refine X8 h5754 rfl ?_;first|(simp;done)|(simp;omega)|(simp[hc,h5513];done)|(simp[hc,h5513];omega))|(refine X2 h5754 (by decide) ?_;first|(simp;done)|(simp;omega)|(simp[hc,h5513];done)|(simp[hc,h5513];omega))|exact Xw) ?_
   refine X3.denil 4 [(AV.list true (List.map X0 ([]:List Xb)))] rfl rfl ?_
   revert h
   refine bI fun u5976 h5977=>rnI [.no] (o:=by repeat' first|apply Ya|exact pcM|(refine X8 h5748 rfl ?_;first|(simp;done)|(simp;omega)|(simp[hc,h5513];done)|(simp[hc,h5513];omega))|(refine X2 h5748 (by decide) ?_;first|(simp;done)|(simp;omega)|(simp[hc,h5513];done)|(simp[hc,h5513];omega))|(refine X8 h5752 rfl ?_;first|(simp;done)|(simp;omega)|(simp[hc,h5513];done)|(simp[hc,h5513];omega))|(refine X2 h5752 (by decide) ?_;first|(simp;done)|(simp;omega)|(simp[hc,h5513];done)|(simp[hc,h5513];omega))|(refine X8 h5754 rfl ?_;first|(simp;done)|(simp;omega)|(simp[hc,h5513];done)|(simp[hc,h5513];omega))|(refine X2 h5754 (by decide) ?_;first|(simp;done)|(simp;omega)|(simp[hc,h5513];done)|(simp[hc,h5513];omega))|(refine X8 h5977 rfl ?_;first|(simp;done)|(simp;omega)|(simp[hc,h5513];done)|(simp[hc,h5513];omega))|(refine X2 h5977 (by decide) ?_;first|(simp;done)|(simp;omega)|(simp[hc,h5513];done)|(simp[hc,h5513];omega))|exact Xw) ?_
   intro h
   exact wkT [(2,5)] (ih (k+1) hx1 _ _ nbS nbF o h C0)
  obtain rfl:=X01 rfl
  rcases Xr with ⟨_|_,Xj⟩
  ·
   refine X0l [.stop 999998] (o:=by repeat' first|apply Ya|exact pcM|(refine X8 h5748 rfl ?_;first|(simp;done)|(simp;omega)|(simp[hc,h5513];done)|(simp[hc,h5513];omega))|(refine X2 h5748 (by decide) ?_;first|(simp;done)|(simp;omega)|(simp[hc,h5513];done)|(simp[hc,h5513];omega))|(refine X8 h5752 rfl ?_;first|(simp;done)|(simp;omega)|(simp[hc,h5513];done)|(simp[hc,h5513];omega))|(refine X2 h5752 (by decide) ?_;first|(simp;done)|(simp;omega)|(simp[hc,h5513];done)|(simp[hc,h5513];omega))|(refine X8 h5754 rfl ?_;first|(simp;done)|(simp;omega)|(simp[hc,h5513];done)|(simp[hc,h5513];omega))|(refine X2 h5754 (by decide) ?_;first|(simp;done)|(simp;omega)|(simp[hc,h5513];done)|(simp[hc,h5513];omega))|exact Xw) ?_
   refine X3.freeze 3 (Xi.map X0) [1,2,5,6,15,17,146,148] [(0,Ob [AV.agg [(aI .u8 X6.Agg),(Lf (X6.Arg.map X1)),(Lf (List.map (aI .i64) X6.Sources)),(aB X6.Join),(Lf (X6.Where.map X1)),(aI .u8 X6.Window.Kind),(aI .i64 X6.Window.Size),(aI .i64 X6.Window.Every),(aB X6.ByKey),(aI .u8 X6.Late)]] 10),(4,Ob [(AV.list true (Xi.map X0))] 1)] rfl (by first|rfl|(simp[hc,h5513];done)|(simp[hc,h5513];rfl)) (X04 Xp Xi) ?_ (by repeat' first|exact X0q|refine Ya ?_ ?_) (by repeat' first|exact X0q|refine Ya ?_ ?_)
   revert h
   refine bI fun u5978 h5979=>rnI [.no] (o:=by repeat' first|apply Ya|exact pcM|(refine X8 h5748 rfl ?_;first|(simp;done)|(simp;omega)|(simp[hc,h5513];done)|(simp[hc,h5513];omega))|(refine X2 h5748 (by decide) ?_;first|(simp;done)|(simp;omega)|(simp[hc,h5513];done)|(simp[hc,h5513];omega))|(refine X8 h5752 rfl ?_;first|(simp;done)|(simp;omega)|(simp[hc,h5513];done)|(simp[hc,h5513];omega))|(refine X2 h5752 (by decide) ?_;first|(simp;done)|(simp;omega)|(simp[hc,h5513];done)|(simp[hc,h5513];omega))|(refine X8 h5754 rfl ?_;first|(simp;done)|(simp;omega)|(simp[hc,h5513];done)|(simp[hc,h5513];omega))|(refine X2 h5754 (by decide) ?_;first|(simp;done)|(simp;omega)|(simp[hc,h5513];done)|(simp[hc,h5513];omega))|(refine X8 h5979 rfl ?_;first|(simp;done)|(simp;omega)|(simp[hc,h5513];done)|(simp[hc,h5513];omega))|(refine X2 h5979 (by decide) ?_;first|(simp;done)|(simp;omega)|(simp[hc,h5513];done)|(simp[hc,h5513];omega))|exact Xw) ?_
   intro h
   exact wkT [(2,5)] (ih (k+1) hx1 _ _ nbS nbF o h C0)
  obtain rfl:=Xj rfl
  refine X0l [.stop 999998] (o:=by repeat' first|apply Ya|exact pcM|(refine X8 h5748 rfl ?_;first|(simp;done)|(simp;omega)|(simp[hc,h5513];done)|(simp[hc,h5513];omega))|(refine X2 h5748 (by decide) ?_;first|(simp;done)|(simp;omega)|(simp[hc,h5513];done)|(simp[hc,h5513];omega))|(refine X8 h5752 rfl ?_;first|(simp;done)|(simp;omega)|(simp[hc,h5513];done)|(simp[hc,h5513];omega))|(refine X2 h5752 (by decide) ?_;first|(simp;done)|(simp;omega)|(simp[hc,h5513];done)|(simp[hc,h5513];omega))|(refine X8 h5754 rfl ?_;first|(simp;done)|(simp;omega)|(simp[hc,h5513];done)|(simp[hc,h5513];omega))|(refine X2 h5754 (by decide) ?_;first|(simp;done)|(simp;omega)|(simp[hc,h5513];done)|(simp[hc,h5513];omega))|exact Xw) ?_
  refine X3.denil 4 [(AV.list true (List.map X0 ([]:List Xb)))] rfl rfl ?_
  revert h
  refine bI fun u5980 h5981=>rnI [.no] (o:=by repeat' first|apply Ya|exact pcM|(refine X8 h5748 rfl ?_;first|(simp;done)|(simp;omega)|(simp[hc,h5513];done)|(simp[hc,h5513];omega))|(refine X2 h5748 (by decide) ?_;first|(simp;done)|(simp;omega)|(simp[hc,h5513];done)|(simp[hc,h5513];omega))|(refine X8 h5752 rfl ?_;first|(simp;done)|(simp;omega)|(simp[hc,h5513];done)|(simp[hc,h5513];omega))|(refine X2 h5752 (by decide) ?_;first|(simp;done)|(simp;omega)|(simp[hc,h5513];done)|(simp[hc,h5513];omega))|(refine X8 h5754 rfl ?_;first|(simp;done)|(simp;omega)|(simp[hc,h5513];done)|(simp[hc,h5513];omega))|(refine X2 h5754 (by decide) ?_;first|(simp;done)|(simp;omega)|(simp[hc,h5513];done)|(simp[hc,h5513];omega))|(refine X8 h5981 rfl ?_;first|(simp;done)|(simp;omega)|(simp[hc,h5513];done)|(simp[hc,h5513];omega))|(refine X2 h5981 (by decide) ?_;first|(simp;done)|(simp;omega)|(simp[hc,h5513];done)|(simp[hc,h5513];omega))|exact Xw) ?_
  intro h
  exact wkT [(2,5)] (ih (k+1) hx1 _ _ nbS nbF o h C0)
end Go.Av.Tryz