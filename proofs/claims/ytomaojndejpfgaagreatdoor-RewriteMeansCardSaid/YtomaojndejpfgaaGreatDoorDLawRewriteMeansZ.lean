/- The law. -/
import Derived.Test.YtomaojndejpfgaaGreatDoorDCertZ
import Derived.Test.YtomaojndejpfgaaGreatDoorPza
set_option linter.all false
namespace Go.Av.Tryz
open Go.Proofs Go.D
set_option maxRecDepth 100000
variable {n:Nat} {a:AV}
theorem Xub (h:X40 Tryz.prog (n+1) 5 a):∃ x:Int,a=(aI .u8 x)/\wfI .u8 x:=by
 unfold X40 at h;simp only[Tryz.underlying5] at h;obtain⟨z,rfl,h⟩:=h;exact⟨z,rfl,h⟩
theorem Xjz (h:X40 Tryz.prog (n+1) 2 a):∃ x:Int,a=(aI .i64 x)/\wfI .i64 x:=by
 unfold X40 at h;simp only[Tryz.underlying2] at h;obtain⟨z,rfl,h⟩:=h;exact⟨z,rfl,h⟩
theorem Xq2 (h:X40 Tryz.prog (n+1) 3 a):∃ x:Int,a=(aI .i64 x)/\wfI .i64 x:=by
 unfold X40 at h;simp only[Tryz.underlying3] at h;obtain⟨z,rfl,h⟩:=h;exact⟨z,rfl,h⟩
theorem X08o (h:X40 Tryz.prog (n+2) 96 a):∃ x:X4,a=(X0 x)/\Xj0 x:=by
 unfold X40 at h;simp only[Tryz.underlying96] at h;obtain⟨l,rfl,g0⟩:=h;obtain⟨y0,r0,rfl,h0,g1⟩:=X11 g0;obtain⟨x0,rfl,w0⟩:=Xub (n:=n) h0;obtain⟨y1,r1,rfl,h1,g2⟩:=X11 g1;obtain⟨x1,rfl,w1⟩:=Xjz (n:=n) h1;obtain⟨y2,r2,rfl,h2,g3⟩:=X11 g2;obtain⟨x2,rfl,w2⟩:=Xq2 (n:=n) h2;obtain⟨y3,r3,rfl,h3,g4⟩:=X11 g3;obtain⟨x3,rfl,w3⟩:=Xq2 (n:=n) h3;obtain⟨y4,r4,rfl,h4,g5⟩:=X11 g4;obtain⟨x4,rfl,w4⟩:=Xq2 (n:=n) h4;obtain rfl:=Xds g5;exact⟨X4.mk x0 x1 x2 x3 x4,rfl,⟨w0,w1,w2,w3,w4⟩⟩
theorem Xyw (h:X40 Tryz.prog (n+3) 22 a):∃ x:(List X4),a=(AV.list false (List.map X0 x))/\(List.length x<=maxLen/\∀ y∈x,Xj0 y):=by
 unfold X40 at h;simp only[Tryz.underlying22] at h;obtain⟨es,rfl,hl,hs⟩:=h;obtain⟨l,rfl,hw⟩:=Xdq λx hx=>X08o (n:=n) (hs x hx);exact⟨l,rfl,by simpa using hl,hw⟩
theorem X08u (h:X40 Tryz.prog (n+2) 23 a):∃ x:(List Int),a=(AV.list false (List.map (aI .i64) x))/\(List.length x<=maxLen/\∀ y∈x,wfI .i64 y):=by
 unfold X40 at h;simp only[Tryz.underlying23] at h;obtain⟨es,rfl,hl,hs⟩:=h;obtain⟨l,rfl,hw⟩:=Xdq λx hx=>Xq2 (n:=n) (hs x hx);exact⟨l,rfl,by simpa using hl,hw⟩
theorem Xyv (h:X40 Tryz.prog (n+1) 4 a):∃ x:Bool,a=(aB x)/\True:=by
 unfold X40 at h;simp only[Tryz.underlying4] at h;obtain⟨b,rfl⟩:=h;exact⟨b,rfl,trivial⟩
theorem X08t (h:X40 Tryz.prog (n+2) 25 a):∃ x:Xn,a=(X39 x)/\Xmq x:=by
 unfold X40 at h;simp only[Tryz.underlying25] at h;obtain⟨l,rfl,g0⟩:=h;obtain⟨y0,r0,rfl,h0,g1⟩:=X11 g0;obtain⟨x0,rfl,w0⟩:=Xub (n:=n) h0;obtain⟨y1,r1,rfl,h1,g2⟩:=X11 g1;obtain⟨x1,rfl,w1⟩:=Xjz (n:=n) h1;obtain⟨y2,r2,rfl,h2,g3⟩:=X11 g2;obtain⟨x2,rfl,w2⟩:=Xjz (n:=n) h2;obtain rfl:=Xds g3;exact⟨Xn.mk x0 x1 x2,rfl,⟨w0,w1,w2⟩⟩
theorem X08s (h:X40 Tryz.prog (n+4) 27 a):∃ x:Xb,a=(Xc false x)/\Xfa x:=by
 unfold X40 at h;simp only[Tryz.underlying27] at h;obtain⟨l,rfl,g0⟩:=h;obtain⟨y0,r0,rfl,h0,g1⟩:=X11 g0;obtain⟨x0,rfl,w0⟩:=Xub (n:=n+2) h0;obtain⟨y1,r1,rfl,h1,g2⟩:=X11 g1;obtain⟨x1,rfl,w1⟩:=Xyw (n:=n) h1;obtain⟨y2,r2,rfl,h2,g3⟩:=X11 g2;obtain⟨x2,rfl,w2⟩:=X08u (n:=n+1) h2;obtain⟨y3,r3,rfl,h3,g4⟩:=X11 g3;obtain⟨x3,rfl,w3⟩:=Xyv (n:=n+2) h3;obtain⟨y4,r4,rfl,h4,g5⟩:=X11 g4;obtain⟨x4,rfl,w4⟩:=Xyw (n:=n) h4;obtain⟨y5,r5,rfl,h5,g6⟩:=X11 g5;obtain⟨x5,rfl,w5⟩:=X08t (n:=n+1) h5;obtain⟨y6,r6,rfl,h6,g7⟩:=X11 g6;obtain⟨x6,rfl,w6⟩:=Xyv (n:=n+2) h6;obtain⟨y7,r7,rfl,h7,g8⟩:=X11 g7;obtain⟨x7,rfl,w7⟩:=Xub (n:=n+2) h7;obtain rfl:=Xds g8;exact⟨Xb.mk x0 x1 x2 x3 x4 x5 x6 x7,rfl,⟨w0,w1,w2,w3,w4,w5,w6,w7⟩⟩
theorem X08p (h:X40 Tryz.prog (n+2) 58 a):∃ x:X9,a=(X2 x)/\Xmr x:=by
 unfold X40 at h;simp only[Tryz.underlying58] at h;obtain⟨l,rfl,g0⟩:=h;obtain⟨y0,r0,rfl,h0,g1⟩:=X11 g0;obtain⟨x0,rfl,w0⟩:=Xjz (n:=n) h0;obtain⟨y1,r1,rfl,h1,g2⟩:=X11 g1;obtain⟨x1,rfl,w1⟩:=Xjz (n:=n) h1;obtain⟨y2,r2,rfl,h2,g3⟩:=X11 g2;obtain⟨x2,rfl,w2⟩:=Xjz (n:=n) h2;obtain rfl:=Xds g3;exact⟨X9.mk x0 x1 x2,rfl,⟨w0,w1,w2⟩⟩
theorem X04c (h:X40 Tryz.prog (n+3) 113 a):∃ x:Xs,a=(Xg x)/\Xfb x:=by
 unfold X40 at h;simp only[Tryz.underlying113] at h;obtain⟨l,rfl,g0⟩:=h;obtain⟨y0,r0,rfl,h0,g1⟩:=X11 g0;obtain⟨x0,rfl,w0⟩:=Xyv (n:=n+1) h0;obtain⟨y1,r1,rfl,h1,g2⟩:=X11 g1;obtain⟨x1,rfl,w1⟩:=Xjz (n:=n+1) h1;obtain⟨y2,r2,rfl,h2,g3⟩:=X11 g2;obtain⟨x2,rfl,w2⟩:=X08p (n:=n) h2;obtain rfl:=Xds g3;exact⟨Xs.mk x0 x1 x2,rfl,⟨w0,w1,w2⟩⟩
theorem X08q (h:X40 Tryz.prog (n+4) 48 a):∃ x:(List Xs),a=(AV.list false (List.map Xg x))/\(List.length x<=maxLen/\∀ y∈x,Xfb y):=by
 unfold X40 at h;simp only[Tryz.underlying48] at h;obtain⟨es,rfl,hl,hs⟩:=h;obtain⟨l,rfl,hw⟩:=Xdq λx hx=>X04c (n:=n) (hs x hx);exact⟨l,rfl,by simpa using hl,hw⟩
theorem X08r (h:X40 Tryz.prog (n+5) 28 a):∃ x:(List (List Xs)),a=(AV.list false (List.map (X6t false Xg) x))/\(List.length x<=maxLen/\∀ y∈x,(List.length y<=maxLen/\∀ yy∈y,Xfb yy)):=by
 unfold X40 at h;simp only[Tryz.underlying28] at h;obtain⟨es,rfl,hl,hs⟩:=h;obtain⟨l,rfl,hw⟩:=Xdq λx hx=>X08q (n:=n) (hs x hx);exact⟨l,rfl,by simpa using hl,hw⟩
theorem RewriteMeans_run (xs:List AV) (g0:Xrm (λt a=>X40 Tryz.prog 5 t a) [27,28,3] xs):X76 Tryz.prog 3 xs (.sc (.bool true)):=by
 obtain⟨y0,r0,rfl,h0,g1⟩:=X11 g0;obtain⟨x0,rfl,w0⟩:=X08s (n:=1) h0;obtain⟨y1,r1,rfl,h1,g2⟩:=X11 g1;obtain⟨x1,rfl,w1⟩:=X08r (n:=0) h1;obtain⟨y2,r2,rfl,h2,g3⟩:=X11 g2;obtain⟨x2,rfl,w2⟩:=Xq2 (n:=4) h2;obtain rfl:=Xds g3;exact Xcy.ok x0 x1 x2 true (Xcz x0 x1 x2 w0 w1 w2)
end Go.Av.Tryz
