/- Printed by decomp.py: the law PrefixOrder, from its arguments as they lie. -/
import Derived.Test.YtoodllakhlkekaaGreatDoorDCertZ
import Derived.Test.YtoodllakhlkekaaGreatDoorPza
import Derived.Test.YtoodllakhlkekaaGreatDoorAliveA
set_option linter.all false

namespace Go.Av.Tryz
open Go.Proofs Go.D
set_option maxRecDepth 100000
theorem X76 {n:Nat} {a:AV} (h:X1r Tryz.prog (n+1) 2 a):∃ x:Int,a=(aI .i64 x)/\wfI .i64 x:=by
 unfold X1r at h;simp only[Tryz.underlying2] at h;obtain⟨z,rfl,h⟩:=h;exact⟨z,rfl,h⟩
theorem Xp6 {n:Nat} {a:AV} (h:X1r Tryz.prog (n+2) 27 a):∃ x:Xkn,a=(Xib x)/\Xc7 x:=by
 unfold X1r at h;simp only[Tryz.underlying27] at h;obtain⟨l,rfl,g0⟩:=h;obtain⟨y0,r0,rfl,h0,g1⟩:=X0s g0;obtain⟨x0,rfl,w0⟩:=X76 (n:=n+0) h0;obtain⟨y1,r1,rfl,h1,g2⟩:=X0s g1;obtain⟨x1,rfl,w1⟩:=X76 (n:=n+0) h1;obtain rfl:=X64 g2;exact⟨Xkn.mk x0 x1,rfl,⟨w0,w1⟩⟩
theorem Xp5 {n:Nat} {a:AV} (h:X1r Tryz.prog (n+2) 28 a):∃ x:(V2 Int),a=(Xe1 x)/\Xc6 x:=by
 unfold X1r at h;simp only[Tryz.underlying28] at h;obtain⟨l,rfl,hm,hs⟩:=h;obtain⟨y0,y1,rfl⟩:∃ y0 y1,l=[y0,y1]:=by
  match l,hm with
  |[y0,y1],_=>exact⟨y0,y1,rfl⟩
 obtain⟨x0,rfl,w0⟩:=X76 (n:=n) (hs y0 (by simp));obtain⟨x1,rfl,w1⟩:=X76 (n:=n) (hs y1 (by simp));exact⟨V2.mk x0 x1,rfl,⟨w0,w1⟩⟩
theorem Xfe {n:Nat} {a:AV} (h:X1r Tryz.prog (n+3) 30 a):∃ x:X1v,a=(Xj x)/\X3x x:=by
 unfold X1r at h;simp only[Tryz.underlying30] at h;obtain⟨l,rfl,g0⟩:=h;obtain⟨y0,r0,rfl,h0,g1⟩:=X0s g0;obtain⟨x0,rfl,w0⟩:=X76 (n:=n+1) h0;obtain⟨y1,r1,rfl,h1,g2⟩:=X0s g1;obtain⟨x1,rfl,w1⟩:=Xp6 (n:=n+0) h1;obtain⟨y2,r2,rfl,h2,g3⟩:=X0s g2;obtain⟨x2,rfl,w2⟩:=Xp5 (n:=n+0) h2;obtain rfl:=X64 g3;exact⟨X1v.mk x0 x1 x2,rfl,⟨w0,w1,w2⟩⟩
theorem Xp8 {n:Nat} {a:AV} (h:X1r Tryz.prog (n+4) 22 a):∃ x:(List X1v),a=(AV.list false (List.map Xj x))/\(List.length x<=maxLen/\∀ y∈x,X3x y):=by
 unfold X1r at h;simp only[Tryz.underlying22] at h;obtain⟨es,rfl,hl,hs⟩:=h;obtain⟨l,rfl,hw⟩:=X9e λx hx=>Xfe (n:=n) (hs x hx);exact⟨l,rfl,by simpa using hl,hw⟩
theorem Xp4 {n:Nat} {a:AV} (h:X1r Tryz.prog (n+2) 35 a):∃ x:Xk,a=(Xg x)/\X1t x:=by
 unfold X1r at h;simp only[Tryz.underlying35] at h;obtain⟨l,rfl,g0⟩:=h;obtain⟨y0,r0,rfl,h0,g1⟩:=X0s g0;obtain⟨x0,rfl,w0⟩:=X76 (n:=n+0) h0;obtain⟨y1,r1,rfl,h1,g2⟩:=X0s g1;obtain⟨x1,rfl,w1⟩:=X76 (n:=n+0) h1;obtain⟨y2,r2,rfl,h2,g3⟩:=X0s g2;obtain⟨x2,rfl,w2⟩:=X76 (n:=n+0) h2;obtain rfl:=X64 g3;exact⟨Xk.mk x0 x1 x2,rfl,⟨w0,w1,w2⟩⟩
theorem Xp7 {n:Nat} {a:AV} (h:X1r Tryz.prog (n+3) 23 a):∃ x:(List Xk),a=(AV.list false (List.map Xg x))/\(List.length x<=maxLen/\∀ y∈x,X1t y):=by
 unfold X1r at h;simp only[Tryz.underlying23] at h;obtain⟨es,rfl,hl,hs⟩:=h;obtain⟨l,rfl,hw⟩:=X9e λx hx=>Xp4 (n:=n) (hs x hx);exact⟨l,rfl,by simpa using hl,hw⟩
theorem Xbr {n:Nat} {a:AV} (h:X1r Tryz.prog (n+5) 25 a):∃ x:Xb,a=(Xe false x)/\X2v x:=by
 unfold X1r at h;simp only[Tryz.underlying25] at h;obtain⟨l,rfl,g0⟩:=h;obtain⟨y0,r0,rfl,h0,g1⟩:=X0s g0;obtain⟨x0,rfl,w0⟩:=Xp8 (n:=n+0) h0;obtain⟨y1,r1,rfl,h1,g2⟩:=X0s g1;obtain⟨x1,rfl,w1⟩:=Xp7 (n:=n+1) h1;obtain rfl:=X64 g2;exact⟨Xb.mk x0 x1,rfl,⟨w0,w1⟩⟩
instance:AliveH:=⟨Xv8⟩
theorem PrefixOrder_run (xs:List AV) (g0:Xbj (λt a=>X1r Tryz.prog 5 t a) [25,25,25,30] xs):Xu Tryz.prog 3 xs (.sc (.bool true)):=by
 obtain⟨y0,r0,rfl,h0,g1⟩:=X0s g0;obtain⟨x0,rfl,w0⟩:=Xbr (n:=0) h0;obtain⟨y1,r1,rfl,h1,g2⟩:=X0s g1;obtain⟨x1,rfl,w1⟩:=Xbr (n:=0) h1;obtain⟨y2,r2,rfl,h2,g3⟩:=X0s g2;obtain⟨x2,rfl,w2⟩:=Xbr (n:=0) h2;obtain⟨y3,r3,rfl,h3,g4⟩:=X0s g3;obtain⟨x3,rfl,w3⟩:=Xfe (n:=2) h3;obtain rfl:=X64 g4;exact X59.ok x0 x1 x2 x3 true (X5a x0 x1 x2 x3 w0 w1 w2 w3)
end Go.Av.Tryz
