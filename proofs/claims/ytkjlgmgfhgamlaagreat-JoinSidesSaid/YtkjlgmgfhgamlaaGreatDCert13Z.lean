/- Printed by decomp.py: that the program computes the functions. -/
import Derived.Test.YtkjlgmgfhgamlaaGreatDCert11Z
set_option linter.all false

namespace Go.Av.Tryz
open Go.Proofs Go.D
set_option maxRecDepth 10000
set_option maxHeartbeats 40000000
theorem X1b {Q:X00->St->Mu->Prop} {μ:Mu} (y1_9:Bool) (Xa2:(List X1r)) (Xph:(List X1r)) (hl:Xa2.length<=140737488355328):∀ (xs:List X1r) (k:Nat) (hx:Xa2.drop k=xs) (o:X48) (h:X2h y1_9 Xa2 Xph xs k  = some o)
  (C0:o=X48.x0->X3 Tryz.prog 207 0 Q (.exit (.exit 2)) [] ⟨fr [(9,(aB y1_9))],hp ([]),0⟩ μ)
  (C1:o=X48.x1->X3 Tryz.prog 207 0 Q (.exit .ret) [] ⟨fr [(8,(aB false))],hp ([]),0⟩ μ),
  X3 Tryz.prog 207 0 Q (.loop (X5f 1 (Xi Tryz.f3))) [] ⟨fr [(9,(aB y1_9)),(15,(AV.list true (Xa2.map Xe))),(18,(AV.list true (Xph.map Xe))),(20,(aI .i64 (k:Int)))],hp ([]),0⟩ μ:=by
 intro xs
 induction xs with
 |nil =>
  intro k hx  o h C0 C1
  have hk:=drop_nil hx
  have hc:decide ((k:Int)<(Xa2.length:Int))=false:=Yf (by omega)
  rw[X2h] at h
  refine X3.round ?_
  revert h
  exact fun e=>X9 [.el (aI .i64 (Xa2.length:Int)),Bf] (k:=wkT [] (C0  (oj e).symm))
 |cons x xs ih =>
  intro k hx  o h C0 C1
  obtain⟨hk,hg,hx1⟩:=X15 hx
  have hc:decide ((k:Int)<(Xa2.length:Int))=true:=Yt (by omega)
  rw[X2h] at h
  refine X3.round ?_
  revert h
  refine bI fun Xjy h646=>rnI [.el (aI .i64 (Xa2.length:Int)),Bt,.stop 21] ?_
  intro h
  refine X3.join (s':=⟨fr [(9,(aB y1_9)),(15,(AV.list true (Xa2.map Xe))),(18,(AV.list true (Xph.map Xe))),(20,(aI .i64 (k:Int))),(205,(aB Xjy))],hp ([]),0⟩) ?_ (fun J=>X3.cut ?_)
  ·
   revert h
   refine brI (fun h647=>fun e=>X9 [Bt] (k:=wkT [] (C1  (oj e).symm))) fun h647=>rnI [Bf] ?_
   intro h
   exact wkT [] (ih (k+1) hx1  o h C0 C1)
  clear h;revert h646
  refine bI fun e641 h642=>?_
  try have qh642:=Xs h642
  refine brI (fun h643=>?_) fun h643=>?_
  ·
   intro h
   obtain rfl:=oj h
   exact X9 [X25.el (Xe x),X25.el (Xe e641),.go false,.go false,.go false,.go false,.go false,.go false,.go false,.go false,.go false,.go false,.go false,.go true,.go false,.go false,.go false,.go false,.go false,.go false,.go false,.go false,.go false,.go false,.go false,.go false,.go false,.go true,.go false,.go false,.go false,.go false,.go false,.go false,.go false,.go false,.go false,.go false,.go false,.go false,.go false,.go true] (k:=wkT [] (X3.glue J))
  refine brI (fun h644=>?_) fun h644=>?_
  ·
   intro h
   obtain rfl:=oj h
   exact X9 [X25.el (Xe x),X25.el (Xe e641),.go true,.go true,.go true,X25.el (Xe x),.go true,.go true,.go true,.go true,.go true,X25.el (Xe e641),.go true,.go true,.go true,.go false,.go false,.go false,.go false,.go false,.go false,.go false,.go false,.go false,.go false,.go false,.go false,.go false,.go true,.go false,.go false,.go false,.go false,.go false,.go false,.go false,.go false,.go false,.go false,.go false,.go false,.go false,.go true] (o:=by repeat' first|apply Ya|exact pcM|exact((Xa h643 h644))|exact(Xf (Xa h643 h644))|exact Xu) (k:=wkT [] (X3.glue J))
  refine brI (fun h645=>?_) fun h645=>?_
  ·
   intro h
   obtain rfl:=oj h
   exact X9 [X25.el (Xe x),X25.el (Xe e641),.go true,.go true,.go true,X25.el (Xe x),.go true,.go true,.go true,.go true,.go true,X25.el (Xe e641),.go true,.go true,.go true,.go true,.go true,.go true,X25.el (Xe x),.go true,.go true,.ix 0,.go true,.go true,.go true,.go true,X25.el (Xe e641),.go true,.go true,.ix 1,.go true,.go true,.go false,.go false,.go false,.go false,.go false,.go false,.go false,.go false,.go false,.go false,.go false,.go false,.go false,.go true] (o:=by repeat' first|apply Ya|exact pcM|exact((Xa h643 h644))|exact(Xf (Xa h643 h644))|exact(Xb6 (Xa h643 h644))|exact((Xa (Xa h643 h644) h645))|exact(Xf (Xa (Xa h643 h644) h645))|exact Xu) (k:=wkT [] (X3.glue J))
  intro h
  obtain rfl:=oj h
  exact X9 [X25.el (Xe x),X25.el (Xe e641),.go true,.go true,.go true,X25.el (Xe x),.go true,.go true,.go true,.go true,.go true,X25.el (Xe e641),.go true,.go true,.go true,.go true,.go true,.go true,X25.el (Xe x),.go true,.go true,.ix 0,.go true,.go true,.go true,.go true,X25.el (Xe e641),.go true,.go true,.ix 1,.go true,.go true,.go true,.go true,.go true,X25.el (Xe x),.go true,.go true,.ix 1,.go true,.go true,.go true,.go true,X25.el (Xe e641),.go true,.go true,.ix 0,.go true,.go true] (o:=by repeat' first|apply Ya|exact pcM|exact((Xa h643 h644))|exact(Xf (Xa h643 h644))|exact(Xb6 (Xa h643 h644))|exact((Xa (Xa h643 h644) h645))|exact(Xf (Xa (Xa h643 h644) h645))|exact(Xb6 (Xa (Xa h643 h644) h645))|exact Xu) (k:=wkT [] (X3.glue J))
end Go.Av.Tryz