/- Printed by decomp.py: the law AggOrder, from its arguments as they lie. -/
import Derived.Test.YtkjlgmgfhgamlaaGreatDCertZ
import Derived.Test.YtkjlgmgfhgamlaaGreatPza
set_option linter.all false

namespace Go.Av.Tryz
open Go.Proofs Go.D
set_option maxRecDepth 100000
theorem Xpk {n:Nat} {a:AV} (h:X4p Tryz.prog (n+1) 5 a):∃ x:Int,a=(aI .u8 x)/\wfI .u8 x:=by
 unfold X4p at h;simp only[Tryz.underlying5] at h;obtain⟨z,rfl,h⟩:=h;exact⟨z,rfl,h⟩
theorem Xhq {n:Nat} {a:AV} (h:X4p Tryz.prog (n+1) 2 a):∃ x:Int,a=(aI .i64 x)/\wfI .i64 x:=by
 unfold X4p at h;simp only[Tryz.underlying2] at h;obtain⟨z,rfl,h⟩:=h;exact⟨z,rfl,h⟩
theorem Xpl {n:Nat} {a:AV} (h:X4p Tryz.prog (n+1) 3 a):∃ x:Int,a=(aI .i64 x)/\wfI .i64 x:=by
 unfold X4p at h;simp only[Tryz.underlying3] at h;obtain⟨z,rfl,h⟩:=h;exact⟨z,rfl,h⟩
theorem Xvw {n:Nat} {a:AV} (h:X4p Tryz.prog (n+2) 147 a):∃ x:X05,a=(X4 x)/\Xgv x:=by
 unfold X4p at h;simp only[Tryz.underlying147] at h;obtain⟨l,rfl,g0⟩:=h;obtain⟨y0,r0,rfl,h0,g1⟩:=X1m g0;obtain⟨x0,rfl,w0⟩:=Xpk (n:=n+0) h0;obtain⟨y1,r1,rfl,h1,g2⟩:=X1m g1;obtain⟨x1,rfl,w1⟩:=Xhq (n:=n+0) h1;obtain⟨y2,r2,rfl,h2,g3⟩:=X1m g2;obtain⟨x2,rfl,w2⟩:=Xpl (n:=n+0) h2;obtain⟨y3,r3,rfl,h3,g4⟩:=X1m g3;obtain⟨x3,rfl,w3⟩:=Xpl (n:=n+0) h3;obtain⟨y4,r4,rfl,h4,g5⟩:=X1m g4;obtain⟨x4,rfl,w4⟩:=Xpl (n:=n+0) h4;obtain rfl:=Xdw g5;exact⟨X05.mk x0 x1 x2 x3 x4,rfl,⟨w0,w1,w2,w3,w4⟩⟩
theorem Xsg {n:Nat} {a:AV} (h:X4p Tryz.prog (n+3) 22 a):∃ x:(List X05),a=(AV.list false (List.map X4 x))/\(List.length x<=maxLen/\∀ y∈x,Xgv y):=by
 unfold X4p at h;simp only[Tryz.underlying22] at h;obtain⟨es,rfl,hl,hs⟩:=h;obtain⟨l,rfl,hw⟩:=Xew λx hx=>Xvw (n:=n) (hs x hx);exact⟨l,rfl,by simpa using hl,hw⟩
theorem Xyj {n:Nat} {a:AV} (h:X4p Tryz.prog (n+2) 23 a):∃ x:(List Int),a=(AV.list false (List.map (aI .i64) x))/\(List.length x<=maxLen/\∀ y∈x,wfI .i64 y):=by
 unfold X4p at h;simp only[Tryz.underlying23] at h;obtain⟨es,rfl,hl,hs⟩:=h;obtain⟨l,rfl,hw⟩:=Xew λx hx=>Xpl (n:=n) (hs x hx);exact⟨l,rfl,by simpa using hl,hw⟩
theorem Xxp {n:Nat} {a:AV} (h:X4p Tryz.prog (n+1) 4 a):∃ x:Bool,a=(aB x)/\True:=by
 unfold X4p at h;simp only[Tryz.underlying4] at h;obtain⟨b,rfl⟩:=h;exact⟨b,rfl,trivial⟩
theorem Xyi {n:Nat} {a:AV} (h:X4p Tryz.prog (n+2) 25 a):∃ x:X0l,a=(X33 x)/\Xjq x:=by
 unfold X4p at h;simp only[Tryz.underlying25] at h;obtain⟨l,rfl,g0⟩:=h;obtain⟨y0,r0,rfl,h0,g1⟩:=X1m g0;obtain⟨x0,rfl,w0⟩:=Xpk (n:=n+0) h0;obtain⟨y1,r1,rfl,h1,g2⟩:=X1m g1;obtain⟨x1,rfl,w1⟩:=Xhq (n:=n+0) h1;obtain⟨y2,r2,rfl,h2,g3⟩:=X1m g2;obtain⟨x2,rfl,w2⟩:=Xhq (n:=n+0) h2;obtain rfl:=Xdw g3;exact⟨X0l.mk x0 x1 x2,rfl,⟨w0,w1,w2⟩⟩
theorem Xyh {n:Nat} {a:AV} (h:X4p Tryz.prog (n+4) 27 a):∃ x:X08,a=(X06 false x)/\Xhd x:=by
 unfold X4p at h;simp only[Tryz.underlying27] at h;obtain⟨l,rfl,g0⟩:=h;obtain⟨y0,r0,rfl,h0,g1⟩:=X1m g0;obtain⟨x0,rfl,w0⟩:=Xpk (n:=n+2) h0;obtain⟨y1,r1,rfl,h1,g2⟩:=X1m g1;obtain⟨x1,rfl,w1⟩:=Xsg (n:=n+0) h1;obtain⟨y2,r2,rfl,h2,g3⟩:=X1m g2;obtain⟨x2,rfl,w2⟩:=Xyj (n:=n+1) h2;obtain⟨y3,r3,rfl,h3,g4⟩:=X1m g3;obtain⟨x3,rfl,w3⟩:=Xxp (n:=n+2) h3;obtain⟨y4,r4,rfl,h4,g5⟩:=X1m g4;obtain⟨x4,rfl,w4⟩:=Xsg (n:=n+0) h4;obtain⟨y5,r5,rfl,h5,g6⟩:=X1m g5;obtain⟨x5,rfl,w5⟩:=Xyi (n:=n+1) h5;obtain⟨y6,r6,rfl,h6,g7⟩:=X1m g6;obtain⟨x6,rfl,w6⟩:=Xxp (n:=n+2) h6;obtain⟨y7,r7,rfl,h7,g8⟩:=X1m g7;obtain⟨x7,rfl,w7⟩:=Xpk (n:=n+2) h7;obtain rfl:=Xdw g8;exact⟨X08.mk x0 x1 x2 x3 x4 x5 x6 x7,rfl,⟨w0,w1,w2,w3,w4,w5,w6,w7⟩⟩
theorem Xyf {n:Nat} {a:AV} (h:X4p Tryz.prog (n+2) 35 a):∃ x:X8,a=(Xm x)/\Xjr x:=by
 unfold X4p at h;simp only[Tryz.underlying35] at h;obtain⟨l,rfl,g0⟩:=h;obtain⟨y0,r0,rfl,h0,g1⟩:=X1m g0;obtain⟨x0,rfl,w0⟩:=Xhq (n:=n+0) h0;obtain⟨y1,r1,rfl,h1,g2⟩:=X1m g1;obtain⟨x1,rfl,w1⟩:=Xhq (n:=n+0) h1;obtain⟨y2,r2,rfl,h2,g3⟩:=X1m g2;obtain⟨x2,rfl,w2⟩:=Xhq (n:=n+0) h2;obtain rfl:=Xdw g3;exact⟨X8.mk x0 x1 x2,rfl,⟨w0,w1,w2⟩⟩
theorem Xyg {n:Nat} {a:AV} (h:X4p Tryz.prog (n+3) 28 a):∃ x:(List X8),a=(AV.list false (List.map Xm x))/\(List.length x<=maxLen/\∀ y∈x,Xjr y):=by
 unfold X4p at h;simp only[Tryz.underlying28] at h;obtain⟨es,rfl,hl,hs⟩:=h;obtain⟨l,rfl,hw⟩:=Xew λx hx=>Xyf (n:=n) (hs x hx);exact⟨l,rfl,by simpa using hl,hw⟩
theorem AggOrder_run (xs:List AV) (g0:Xpb (λt a=>X4p Tryz.prog 4 t a) [27,28,2] xs):X0i Tryz.prog 5 xs (.sc (.bool true)):=by
 obtain⟨y0,r0,rfl,h0,g1⟩:=X1m g0;obtain⟨x0,rfl,w0⟩:=Xyh (n:=0) h0;obtain⟨y1,r1,rfl,h1,g2⟩:=X1m g1;obtain⟨x1,rfl,w1⟩:=Xyg (n:=1) h1;obtain⟨y2,r2,rfl,h2,g3⟩:=X1m g2;obtain⟨x2,rfl,w2⟩:=Xhq (n:=3) h2;obtain rfl:=Xdw g3;exact Xf5.ok x0 x1 x2 true (Xf6 x0 x1 x2 w0 w1 w2)
end Go.Av.Tryz
