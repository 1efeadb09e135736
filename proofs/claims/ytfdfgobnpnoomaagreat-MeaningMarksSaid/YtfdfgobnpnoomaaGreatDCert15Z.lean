/- Printed by decomp.py: that the program computes the functions. -/
import Derived.Test.YtfdfgobnpnoomaaGreatDCert14Z
set_option linter.all false

namespace Go.Av.Tryz
open Go.Proofs Go.D
set_option maxRecDepth 10000
set_option maxHeartbeats 40000000
theorem Xbc {Q:X07->St->Mu->Prop} {μ:Mu} (Xel:(List (List Xb))) (Xs:X03) (Xob:Bool) (Xdz:(List X2u)) (Xko:(List X2u)) (Xv3:Int) (hl:Xdz.length<=140737488355328):∀ (xs:List X2u) (k:Nat) (hx:Xdz.drop k=xs) (o:X3a) (h:X1o Xel Xs Xob Xdz Xko Xv3 xs k  = some o)
  (C0:o=X3a.x0->X3 Tryz.prog 188 0 Q (.exit (.exit 0)) [] ⟨fr [(1,(Lf (List.map (X0e false X0) Xel))),(2,(AV.ptr 0 0 0)),(5,(aB Xob)),(6,(AV.list true (Xdz.map Xg)))],hp ([(0,Ob [(Xl false Xs)] 10)]),1⟩ μ)
  (C1:o=X3a.x1->X3 Tryz.prog 188 0 Q (.exit .ret) [] ⟨fr [(4,(aB false))],hp ([]),0⟩ μ),
  X3 Tryz.prog 188 0 Q (.loop (X4t 0 (Xu Tryz.f7))) [] ⟨fr [(1,(Lf (List.map (X0e false X0) Xel))),(2,(AV.ptr 0 0 0)),(5,(aB Xob)),(6,(AV.list true (Xdz.map Xg))),(9,(AV.list true (Xko.map Xg))),(12,(aI .i64 Xv3)),(14,(aI .i64 (k:Int)))],hp ([(0,Ob [(Xl false Xs)] 10)]),1⟩ μ:=by
 intro xs
 induction xs with
 |nil =>
  intro k hx  o h C0 C1
  have hk:=X1e hx
  have hc:decide ((k:Int)<(Xdz.length:Int))=false:=Yf (by omega)
  rw[X1o] at h
  refine X3.round ?_
  revert h
  exact fun e=>Xc [.el (aI .i64 (Xdz.length:Int)),Bf] (k:=wkT [] (C0  (oj e).symm))
 |cons x xs ih =>
  intro k hx  o h C0 C1
  obtain⟨hk,hg,hx1⟩:=X0t hx
  have hc:decide ((k:Int)<(Xdz.length:Int))=true:=Yt (by omega)
  rw[X1o] at h
  refine X3.round ?_
  revert h
  refine brI (fun h36=>fun e=>Xc [.el (aI .i64 (Xdz.length:Int)),Bt,.el (Xg x),.el (aI .i64 (Xko.length:Int)),Bt] (k:=wkT [] (C1  (oj e).symm))) fun h36=>rnI [.el (aI .i64 (Xdz.length:Int)),Bt,.el (Xg x),.el (aI .i64 (Xko.length:Int)),Bf] ?_
  intro h
  exact wkT [] (ih (k+1) hx1  o h C0 C1)
end Go.Av.Tryz