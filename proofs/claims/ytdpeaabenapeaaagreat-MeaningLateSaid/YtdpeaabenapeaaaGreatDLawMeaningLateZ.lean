/- Printed by decomp.py: the law MeaningLate, from its arguments as they lie. -/
import Derived.Test.YtdpeaabenapeaaaGreatDCertZ
import Derived.Test.YtdpeaabenapeaaaGreatPza
set_option linter.all false

namespace Go.Av.Tryz
open Go.Proofs Go.D
set_option maxRecDepth 100000
theorem Xod {n:Nat} {a:AV} (h:X3g Tryz.prog (n+1) 5 a):∃ x:Int,a=(aI .u8 x)/\wfI .u8 x:=by
 unfold X3g at h;simp only[Tryz.underlying5] at h;obtain⟨z,rfl,h⟩:=h;exact⟨z,rfl,h⟩
theorem Xga {n:Nat} {a:AV} (h:X3g Tryz.prog (n+1) 2 a):∃ x:Int,a=(aI .i64 x)/\wfI .i64 x:=by
 unfold X3g at h;simp only[Tryz.underlying2] at h;obtain⟨z,rfl,h⟩:=h;exact⟨z,rfl,h⟩
theorem Xoe {n:Nat} {a:AV} (h:X3g Tryz.prog (n+1) 3 a):∃ x:Int,a=(aI .i64 x)/\wfI .i64 x:=by
 unfold X3g at h;simp only[Tryz.underlying3] at h;obtain⟨z,rfl,h⟩:=h;exact⟨z,rfl,h⟩
theorem Xyd {n:Nat} {a:AV} (h:X3g Tryz.prog (n+2) 76 a):∃ x:Xu,a=(X4 x)/\Xfl x:=by
 unfold X3g at h;simp only[Tryz.underlying76] at h;obtain⟨l,rfl,g0⟩:=h;obtain⟨y0,r0,rfl,h0,g1⟩:=X10 g0;obtain⟨x0,rfl,w0⟩:=Xod (n:=n+0) h0;obtain⟨y1,r1,rfl,h1,g2⟩:=X10 g1;obtain⟨x1,rfl,w1⟩:=Xga (n:=n+0) h1;obtain⟨y2,r2,rfl,h2,g3⟩:=X10 g2;obtain⟨x2,rfl,w2⟩:=Xoe (n:=n+0) h2;obtain⟨y3,r3,rfl,h3,g4⟩:=X10 g3;obtain⟨x3,rfl,w3⟩:=Xoe (n:=n+0) h3;obtain⟨y4,r4,rfl,h4,g5⟩:=X10 g4;obtain⟨x4,rfl,w4⟩:=Xoe (n:=n+0) h4;obtain rfl:=Xbz g5;exact⟨Xu.mk x0 x1 x2 x3 x4,rfl,⟨w0,w1,w2,w3,w4⟩⟩
theorem Xs3 {n:Nat} {a:AV} (h:X3g Tryz.prog (n+3) 22 a):∃ x:(List Xu),a=(AV.list false (List.map X4 x))/\(List.length x<=maxLen/\∀ y∈x,Xfl y):=by
 unfold X3g at h;simp only[Tryz.underlying22] at h;obtain⟨es,rfl,hl,hs⟩:=h;obtain⟨l,rfl,hw⟩:=Xbx λx hx=>Xyd (n:=n) (hs x hx);exact⟨l,rfl,by simpa using hl,hw⟩
theorem Xyj {n:Nat} {a:AV} (h:X3g Tryz.prog (n+2) 23 a):∃ x:(List Int),a=(AV.list false (List.map (aI .i64) x))/\(List.length x<=maxLen/\∀ y∈x,wfI .i64 y):=by
 unfold X3g at h;simp only[Tryz.underlying23] at h;obtain⟨es,rfl,hl,hs⟩:=h;obtain⟨l,rfl,hw⟩:=Xbx λx hx=>Xoe (n:=n) (hs x hx);exact⟨l,rfl,by simpa using hl,hw⟩
theorem Xs1 {n:Nat} {a:AV} (h:X3g Tryz.prog (n+1) 4 a):∃ x:Bool,a=(aB x)/\True:=by
 unfold X3g at h;simp only[Tryz.underlying4] at h;obtain⟨b,rfl⟩:=h;exact⟨b,rfl,trivial⟩
theorem Xyi {n:Nat} {a:AV} (h:X3g Tryz.prog (n+2) 25 a):∃ x:X0g,a=(X2k x)/\Xi8 x:=by
 unfold X3g at h;simp only[Tryz.underlying25] at h;obtain⟨l,rfl,g0⟩:=h;obtain⟨y0,r0,rfl,h0,g1⟩:=X10 g0;obtain⟨x0,rfl,w0⟩:=Xod (n:=n+0) h0;obtain⟨y1,r1,rfl,h1,g2⟩:=X10 g1;obtain⟨x1,rfl,w1⟩:=Xga (n:=n+0) h1;obtain⟨y2,r2,rfl,h2,g3⟩:=X10 g2;obtain⟨x2,rfl,w2⟩:=Xga (n:=n+0) h2;obtain rfl:=Xbz g3;exact⟨X0g.mk x0 x1 x2,rfl,⟨w0,w1,w2⟩⟩
theorem Xyh {n:Nat} {a:AV} (h:X3g Tryz.prog (n+4) 27 a):∃ x:Xt,a=(Xk false x)/\Xg4 x:=by
 unfold X3g at h;simp only[Tryz.underlying27] at h;obtain⟨l,rfl,g0⟩:=h;obtain⟨y0,r0,rfl,h0,g1⟩:=X10 g0;obtain⟨x0,rfl,w0⟩:=Xod (n:=n+2) h0;obtain⟨y1,r1,rfl,h1,g2⟩:=X10 g1;obtain⟨x1,rfl,w1⟩:=Xs3 (n:=n+0) h1;obtain⟨y2,r2,rfl,h2,g3⟩:=X10 g2;obtain⟨x2,rfl,w2⟩:=Xyj (n:=n+1) h2;obtain⟨y3,r3,rfl,h3,g4⟩:=X10 g3;obtain⟨x3,rfl,w3⟩:=Xs1 (n:=n+2) h3;obtain⟨y4,r4,rfl,h4,g5⟩:=X10 g4;obtain⟨x4,rfl,w4⟩:=Xs3 (n:=n+0) h4;obtain⟨y5,r5,rfl,h5,g6⟩:=X10 g5;obtain⟨x5,rfl,w5⟩:=Xyi (n:=n+1) h5;obtain⟨y6,r6,rfl,h6,g7⟩:=X10 g6;obtain⟨x6,rfl,w6⟩:=Xs1 (n:=n+2) h6;obtain⟨y7,r7,rfl,h7,g8⟩:=X10 g7;obtain⟨x7,rfl,w7⟩:=Xod (n:=n+2) h7;obtain rfl:=Xbz g8;exact⟨Xt.mk x0 x1 x2 x3 x4 x5 x6 x7,rfl,⟨w0,w1,w2,w3,w4,w5,w6,w7⟩⟩
theorem Xs2 {n:Nat} {a:AV} (h:X3g Tryz.prog (n+2) 30 a):∃ x:X9,a=(X1 x)/\Xi9 x:=by
 unfold X3g at h;simp only[Tryz.underlying30] at h;obtain⟨l,rfl,g0⟩:=h;obtain⟨y0,r0,rfl,h0,g1⟩:=X10 g0;obtain⟨x0,rfl,w0⟩:=Xga (n:=n+0) h0;obtain⟨y1,r1,rfl,h1,g2⟩:=X10 g1;obtain⟨x1,rfl,w1⟩:=Xga (n:=n+0) h1;obtain⟨y2,r2,rfl,h2,g3⟩:=X10 g2;obtain⟨x2,rfl,w2⟩:=Xga (n:=n+0) h2;obtain rfl:=Xbz g3;exact⟨X9.mk x0 x1 x2,rfl,⟨w0,w1,w2⟩⟩
theorem Xye {n:Nat} {a:AV} (h:X3g Tryz.prog (n+3) 40 a):∃ x:Xa,a=(X0 x)/\Xg5 x:=by
 unfold X3g at h;simp only[Tryz.underlying40] at h;obtain⟨l,rfl,g0⟩:=h;obtain⟨y0,r0,rfl,h0,g1⟩:=X10 g0;obtain⟨x0,rfl,w0⟩:=Xs1 (n:=n+1) h0;obtain⟨y1,r1,rfl,h1,g2⟩:=X10 g1;obtain⟨x1,rfl,w1⟩:=Xga (n:=n+1) h1;obtain⟨y2,r2,rfl,h2,g3⟩:=X10 g2;obtain⟨x2,rfl,w2⟩:=Xs2 (n:=n+0) h2;obtain rfl:=Xbz g3;exact⟨Xa.mk x0 x1 x2,rfl,⟨w0,w1,w2⟩⟩
theorem Xyf {n:Nat} {a:AV} (h:X3g Tryz.prog (n+4) 38 a):∃ x:(List Xa),a=(AV.list false (List.map X0 x))/\(List.length x<=maxLen/\∀ y∈x,Xg5 y):=by
 unfold X3g at h;simp only[Tryz.underlying38] at h;obtain⟨es,rfl,hl,hs⟩:=h;obtain⟨l,rfl,hw⟩:=Xbx λx hx=>Xye (n:=n) (hs x hx);exact⟨l,rfl,by simpa using hl,hw⟩
theorem Xyg {n:Nat} {a:AV} (h:X3g Tryz.prog (n+5) 28 a):∃ x:(List (List Xa)),a=(AV.list false (List.map (X14 false X0) x))/\(List.length x<=maxLen/\∀ y∈x,(List.length y<=maxLen/\∀ yy∈y,Xg5 yy)):=by
 unfold X3g at h;simp only[Tryz.underlying28] at h;obtain⟨es,rfl,hl,hs⟩:=h;obtain⟨l,rfl,hw⟩:=Xbx λx hx=>Xyf (n:=n) (hs x hx);exact⟨l,rfl,by simpa using hl,hw⟩
theorem MeaningLate_run (xs:List AV) (g0:Xo6 (λt a=>X3g Tryz.prog 5 t a) [27,28,30] xs):X0j Tryz.prog 3 xs (.sc (.bool true)):=by
 obtain⟨y0,r0,rfl,h0,g1⟩:=X10 g0;obtain⟨x0,rfl,w0⟩:=Xyh (n:=1) h0;obtain⟨y1,r1,rfl,h1,g2⟩:=X10 g1;obtain⟨x1,rfl,w1⟩:=Xyg (n:=0) h1;obtain⟨y2,r2,rfl,h2,g3⟩:=X10 g2;obtain⟨x2,rfl,w2⟩:=Xs2 (n:=3) h2;obtain rfl:=Xbz g3;exact Xcg.ok x0 x1 x2 true (Xch x0 x1 x2 w0 w1 w2)
end Go.Av.Tryz
