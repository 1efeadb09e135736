/- Printed by decomp.py: the law RewriteOrder, from its arguments as they lie. -/
import Derived.Test.YtnfamdbgcgjlaaaGreatDoorDCertZ
import Derived.Test.YtnfamdbgcgjlaaaGreatDoorPza
set_option linter.all false

namespace Go.Av.Tryz
open Go.Proofs Go.D
set_option maxRecDepth 100000
theorem X7n {n:Nat} {a:AV} (h:X0v Tryz.prog (n+1) 5 a):∃ x:Int,a=(aI .u8 x)/\wfI .u8 x:=by
 unfold X0v at h;simp only[Tryz.underlying5] at h;obtain⟨z,rfl,h⟩:=h;exact⟨z,rfl,h⟩
theorem X9j {n:Nat} {a:AV} (h:X0v Tryz.prog (n+1) 2 a):∃ x:Int,a=(aI .i64 x)/\wfI .i64 x:=by
 unfold X0v at h;simp only[Tryz.underlying2] at h;obtain⟨z,rfl,h⟩:=h;exact⟨z,rfl,h⟩
theorem X6j {n:Nat} {a:AV} (h:X0v Tryz.prog (n+1) 3 a):∃ x:Int,a=(aI .i64 x)/\wfI .i64 x:=by
 unfold X0v at h;simp only[Tryz.underlying3] at h;obtain⟨z,rfl,h⟩:=h;exact⟨z,rfl,h⟩
theorem Xef {n:Nat} {a:AV} (h:X0v Tryz.prog (n+2) 78 a):∃ x:X1,a=(X0 x)/\X7k x:=by
 unfold X0v at h;simp only[Tryz.underlying78] at h;obtain⟨l,rfl,g0⟩:=h;obtain⟨y0,r0,rfl,h0,g1⟩:=Xl g0;obtain⟨x0,rfl,w0⟩:=X7n (n:=n+0) h0;obtain⟨y1,r1,rfl,h1,g2⟩:=Xl g1;obtain⟨x1,rfl,w1⟩:=X9j (n:=n+0) h1;obtain⟨y2,r2,rfl,h2,g3⟩:=Xl g2;obtain⟨x2,rfl,w2⟩:=X6j (n:=n+0) h2;obtain⟨y3,r3,rfl,h3,g4⟩:=Xl g3;obtain⟨x3,rfl,w3⟩:=X6j (n:=n+0) h3;obtain⟨y4,r4,rfl,h4,g5⟩:=Xl g4;obtain⟨x4,rfl,w4⟩:=X6j (n:=n+0) h4;obtain rfl:=X4j g5;exact⟨X1.mk x0 x1 x2 x3 x4,rfl,⟨w0,w1,w2,w3,w4⟩⟩
theorem X9i {n:Nat} {a:AV} (h:X0v Tryz.prog (n+3) 23 a):∃ x:(List X1),a=(AV.list false (List.map X0 x))/\(List.length x<=maxLen/\∀ y∈x,X7k y):=by
 unfold X0v at h;simp only[Tryz.underlying23] at h;obtain⟨es,rfl,hl,hs⟩:=h;obtain⟨l,rfl,hw⟩:=X6t λx hx=>Xef (n:=n) (hs x hx);exact⟨l,rfl,by simpa using hl,hw⟩
theorem Xei {n:Nat} {a:AV} (h:X0v Tryz.prog (n+2) 24 a):∃ x:(List Int),a=(AV.list false (List.map (aI .i64) x))/\(List.length x<=maxLen/\∀ y∈x,wfI .i64 y):=by
 unfold X0v at h;simp only[Tryz.underlying24] at h;obtain⟨es,rfl,hl,hs⟩:=h;obtain⟨l,rfl,hw⟩:=X6t λx hx=>X6j (n:=n) (hs x hx);exact⟨l,rfl,by simpa using hl,hw⟩
theorem Xd1 {n:Nat} {a:AV} (h:X0v Tryz.prog (n+1) 4 a):∃ x:Bool,a=(aB x)/\True:=by
 unfold X0v at h;simp only[Tryz.underlying4] at h;obtain⟨b,rfl⟩:=h;exact⟨b,rfl,trivial⟩
theorem Xeh {n:Nat} {a:AV} (h:X0v Tryz.prog (n+2) 26 a):∃ x:Xk,a=(X45 x)/\Xa7 x:=by
 unfold X0v at h;simp only[Tryz.underlying26] at h;obtain⟨l,rfl,g0⟩:=h;obtain⟨y0,r0,rfl,h0,g1⟩:=Xl g0;obtain⟨x0,rfl,w0⟩:=X7n (n:=n+0) h0;obtain⟨y1,r1,rfl,h1,g2⟩:=Xl g1;obtain⟨x1,rfl,w1⟩:=X9j (n:=n+0) h1;obtain⟨y2,r2,rfl,h2,g3⟩:=Xl g2;obtain⟨x2,rfl,w2⟩:=X9j (n:=n+0) h2;obtain rfl:=X4j g3;exact⟨Xk.mk x0 x1 x2,rfl,⟨w0,w1,w2⟩⟩
theorem Xeg {n:Nat} {a:AV} (h:X0v Tryz.prog (n+4) 28 a):∃ x:Xa,a=(X8 false x)/\X65 x:=by
 unfold X0v at h;simp only[Tryz.underlying28] at h;obtain⟨l,rfl,g0⟩:=h;obtain⟨y0,r0,rfl,h0,g1⟩:=Xl g0;obtain⟨x0,rfl,w0⟩:=X7n (n:=n+2) h0;obtain⟨y1,r1,rfl,h1,g2⟩:=Xl g1;obtain⟨x1,rfl,w1⟩:=X9i (n:=n+0) h1;obtain⟨y2,r2,rfl,h2,g3⟩:=Xl g2;obtain⟨x2,rfl,w2⟩:=Xei (n:=n+1) h2;obtain⟨y3,r3,rfl,h3,g4⟩:=Xl g3;obtain⟨x3,rfl,w3⟩:=Xd1 (n:=n+2) h3;obtain⟨y4,r4,rfl,h4,g5⟩:=Xl g4;obtain⟨x4,rfl,w4⟩:=X9i (n:=n+0) h4;obtain⟨y5,r5,rfl,h5,g6⟩:=Xl g5;obtain⟨x5,rfl,w5⟩:=Xeh (n:=n+1) h5;obtain⟨y6,r6,rfl,h6,g7⟩:=Xl g6;obtain⟨x6,rfl,w6⟩:=Xd1 (n:=n+2) h6;obtain⟨y7,r7,rfl,h7,g8⟩:=Xl g7;obtain⟨x7,rfl,w7⟩:=X7n (n:=n+2) h7;obtain rfl:=X4j g8;exact⟨Xa.mk x0 x1 x2 x3 x4 x5 x6 x7,rfl,⟨w0,w1,w2,w3,w4,w5,w6,w7⟩⟩
theorem RewriteOrder_run (xs:List AV) (g0:Xi9 (λt a=>X0v Tryz.prog 4 t a) [28,3,3] xs):X06 Tryz.prog 5 xs (.sc (.bool true)):=by
 obtain⟨y0,r0,rfl,h0,g1⟩:=Xl g0;obtain⟨x0,rfl,w0⟩:=Xeg (n:=0) h0;obtain⟨y1,r1,rfl,h1,g2⟩:=Xl g1;obtain⟨x1,rfl,w1⟩:=X6j (n:=3) h1;obtain⟨y2,r2,rfl,h2,g3⟩:=Xl g2;obtain⟨x2,rfl,w2⟩:=X6j (n:=3) h2;obtain rfl:=X4j g3;exact X9p.ok x0 x1 x2 true (X9q x0 x1 x2 w0 w1 w2)
end Go.Av.Tryz
