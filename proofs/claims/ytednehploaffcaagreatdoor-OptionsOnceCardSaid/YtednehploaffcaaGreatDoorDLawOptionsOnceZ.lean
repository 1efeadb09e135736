/- Printed by decomp.py: the law OptionsOnce, from its arguments as they lie. -/
import Derived.Test.YtednehploaffcaaGreatDoorDCertZ
import Derived.Test.YtednehploaffcaaGreatDoorPza
set_option linter.all false

namespace Go.Av.Tryz
open Go.Proofs Go.D
set_option maxRecDepth 100000
theorem Xso {n:Nat} {a:AV} (h:X3y Tryz.prog (n+1) 5 a):∃ x:Int,a=(aI .u8 x)/\wfI .u8 x:=by
 unfold X3y at h;simp only[Tryz.underlying5] at h;obtain⟨z,rfl,h⟩:=h;exact⟨z,rfl,h⟩
theorem Xk7 {n:Nat} {a:AV} (h:X3y Tryz.prog (n+1) 2 a):∃ x:Int,a=(aI .i64 x)/\wfI .i64 x:=by
 unfold X3y at h;simp only[Tryz.underlying2] at h;obtain⟨z,rfl,h⟩:=h;exact⟨z,rfl,h⟩
theorem Xmw {n:Nat} {a:AV} (h:X3y Tryz.prog (n+1) 3 a):∃ x:Int,a=(aI .i64 x)/\wfI .i64 x:=by
 unfold X3y at h;simp only[Tryz.underlying3] at h;obtain⟨z,rfl,h⟩:=h;exact⟨z,rfl,h⟩
theorem X056 {n:Nat} {a:AV} (h:X3y Tryz.prog (n+2) 72 a):∃ x:X1,a=(X0 x)/\Xj6 x:=by
 unfold X3y at h;simp only[Tryz.underlying72] at h;obtain⟨l,rfl,g0⟩:=h;obtain⟨y0,r0,rfl,h0,g1⟩:=X19 g0;obtain⟨x0,rfl,w0⟩:=Xso (n:=n+0) h0;obtain⟨y1,r1,rfl,h1,g2⟩:=X19 g1;obtain⟨x1,rfl,w1⟩:=Xk7 (n:=n+0) h1;obtain⟨y2,r2,rfl,h2,g3⟩:=X19 g2;obtain⟨x2,rfl,w2⟩:=Xmw (n:=n+0) h2;obtain⟨y3,r3,rfl,h3,g4⟩:=X19 g3;obtain⟨x3,rfl,w3⟩:=Xmw (n:=n+0) h3;obtain⟨y4,r4,rfl,h4,g5⟩:=X19 g4;obtain⟨x4,rfl,w4⟩:=Xmw (n:=n+0) h4;obtain rfl:=Xc2 g5;exact⟨X1.mk x0 x1 x2 x3 x4,rfl,⟨w0,w1,w2,w3,w4⟩⟩
theorem Xwa {n:Nat} {a:AV} (h:X3y Tryz.prog (n+3) 22 a):∃ x:(List X1),a=(AV.list false (List.map X0 x))/\(List.length x<=maxLen/\∀ y∈x,Xj6 y):=by
 unfold X3y at h;simp only[Tryz.underlying22] at h;obtain⟨es,rfl,hl,hs⟩:=h;obtain⟨l,rfl,hw⟩:=Xdy λx hx=>X056 (n:=n) (hs x hx);exact⟨l,rfl,by simpa using hl,hw⟩
theorem X05e {n:Nat} {a:AV} (h:X3y Tryz.prog (n+2) 23 a):∃ x:(List Int),a=(AV.list false (List.map (aI .i64) x))/\(List.length x<=maxLen/\∀ y∈x,wfI .i64 y):=by
 unfold X3y at h;simp only[Tryz.underlying23] at h;obtain⟨es,rfl,hl,hs⟩:=h;obtain⟨l,rfl,hw⟩:=Xdy λx hx=>Xmw (n:=n) (hs x hx);exact⟨l,rfl,by simpa using hl,hw⟩
theorem Xsp {n:Nat} {a:AV} (h:X3y Tryz.prog (n+1) 4 a):∃ x:Bool,a=(aB x)/\True:=by
 unfold X3y at h;simp only[Tryz.underlying4] at h;obtain⟨b,rfl⟩:=h;exact⟨b,rfl,trivial⟩
theorem X05d {n:Nat} {a:AV} (h:X3y Tryz.prog (n+2) 25 a):∃ x:Xi,a=(X7y x)/\Xmr x:=by
 unfold X3y at h;simp only[Tryz.underlying25] at h;obtain⟨l,rfl,g0⟩:=h;obtain⟨y0,r0,rfl,h0,g1⟩:=X19 g0;obtain⟨x0,rfl,w0⟩:=Xso (n:=n+0) h0;obtain⟨y1,r1,rfl,h1,g2⟩:=X19 g1;obtain⟨x1,rfl,w1⟩:=Xk7 (n:=n+0) h1;obtain⟨y2,r2,rfl,h2,g3⟩:=X19 g2;obtain⟨x2,rfl,w2⟩:=Xk7 (n:=n+0) h2;obtain rfl:=Xc2 g3;exact⟨Xi.mk x0 x1 x2,rfl,⟨w0,w1,w2⟩⟩
theorem X05c {n:Nat} {a:AV} (h:X3y Tryz.prog (n+4) 27 a):∃ x:X6,a=(Xa false x)/\Xfu x:=by
 unfold X3y at h;simp only[Tryz.underlying27] at h;obtain⟨l,rfl,g0⟩:=h;obtain⟨y0,r0,rfl,h0,g1⟩:=X19 g0;obtain⟨x0,rfl,w0⟩:=Xso (n:=n+2) h0;obtain⟨y1,r1,rfl,h1,g2⟩:=X19 g1;obtain⟨x1,rfl,w1⟩:=Xwa (n:=n+0) h1;obtain⟨y2,r2,rfl,h2,g3⟩:=X19 g2;obtain⟨x2,rfl,w2⟩:=X05e (n:=n+1) h2;obtain⟨y3,r3,rfl,h3,g4⟩:=X19 g3;obtain⟨x3,rfl,w3⟩:=Xsp (n:=n+2) h3;obtain⟨y4,r4,rfl,h4,g5⟩:=X19 g4;obtain⟨x4,rfl,w4⟩:=Xwa (n:=n+0) h4;obtain⟨y5,r5,rfl,h5,g6⟩:=X19 g5;obtain⟨x5,rfl,w5⟩:=X05d (n:=n+1) h5;obtain⟨y6,r6,rfl,h6,g7⟩:=X19 g6;obtain⟨x6,rfl,w6⟩:=Xsp (n:=n+2) h6;obtain⟨y7,r7,rfl,h7,g8⟩:=X19 g7;obtain⟨x7,rfl,w7⟩:=Xso (n:=n+2) h7;obtain rfl:=Xc2 g8;exact⟨X6.mk x0 x1 x2 x3 x4 x5 x6 x7,rfl,⟨w0,w1,w2,w3,w4,w5,w6,w7⟩⟩
theorem X059 {n:Nat} {a:AV} (h:X3y Tryz.prog (n+2) 51 a):∃ x:X04,a=(X1x x)/\Xms x:=by
 unfold X3y at h;simp only[Tryz.underlying51] at h;obtain⟨l,rfl,g0⟩:=h;obtain⟨y0,r0,rfl,h0,g1⟩:=X19 g0;obtain⟨x0,rfl,w0⟩:=Xk7 (n:=n+0) h0;obtain⟨y1,r1,rfl,h1,g2⟩:=X19 g1;obtain⟨x1,rfl,w1⟩:=Xk7 (n:=n+0) h1;obtain⟨y2,r2,rfl,h2,g3⟩:=X19 g2;obtain⟨x2,rfl,w2⟩:=Xk7 (n:=n+0) h2;obtain rfl:=Xc2 g3;exact⟨X04.mk x0 x1 x2,rfl,⟨w0,w1,w2⟩⟩
theorem X058 {n:Nat} {a:AV} (h:X3y Tryz.prog (n+3) 53 a):∃ x:Xv,a=(Xd x)/\Xfv x:=by
 unfold X3y at h;simp only[Tryz.underlying53] at h;obtain⟨l,rfl,g0⟩:=h;obtain⟨y0,r0,rfl,h0,g1⟩:=X19 g0;obtain⟨x0,rfl,w0⟩:=Xsp (n:=n+1) h0;obtain⟨y1,r1,rfl,h1,g2⟩:=X19 g1;obtain⟨x1,rfl,w1⟩:=Xk7 (n:=n+1) h1;obtain⟨y2,r2,rfl,h2,g3⟩:=X19 g2;obtain⟨x2,rfl,w2⟩:=X059 (n:=n+0) h2;obtain rfl:=Xc2 g3;exact⟨Xv.mk x0 x1 x2,rfl,⟨w0,w1,w2⟩⟩
theorem X057 {n:Nat} {a:AV} (h:X3y Tryz.prog (n+4) 54 a):∃ x:(List Xv),a=(AV.list false (List.map Xd x))/\(List.length x<=maxLen/\∀ y∈x,Xfv y):=by
 unfold X3y at h;simp only[Tryz.underlying54] at h;obtain⟨es,rfl,hl,hs⟩:=h;obtain⟨l,rfl,hw⟩:=Xdy λx hx=>X058 (n:=n) (hs x hx);exact⟨l,rfl,by simpa using hl,hw⟩
theorem X05b {n:Nat} {a:AV} (h:X3y Tryz.prog (n+5) 28 a):∃ x:(List (List Xv)),a=(AV.list false (List.map (X82 false Xd) x))/\(List.length x<=maxLen/\∀ y∈x,(List.length y<=maxLen/\∀ yy∈y,Xfv yy)):=by
 unfold X3y at h;simp only[Tryz.underlying28] at h;obtain⟨es,rfl,hl,hs⟩:=h;obtain⟨l,rfl,hw⟩:=Xdy λx hx=>X057 (n:=n) (hs x hx);exact⟨l,rfl,by simpa using hl,hw⟩
theorem X05a {n:Nat} {a:AV} (h:X3y Tryz.prog (n+2) 30 a):∃ x:X2u,a=(X4b x)/\Xrf x:=by
 unfold X3y at h;simp only[Tryz.underlying30] at h;obtain⟨l,rfl,g0⟩:=h;obtain⟨y0,r0,rfl,h0,g1⟩:=X19 g0;obtain⟨x0,rfl,w0⟩:=Xmw (n:=n+0) h0;obtain⟨y1,r1,rfl,h1,g2⟩:=X19 g1;obtain⟨x1,rfl,w1⟩:=Xmw (n:=n+0) h1;obtain⟨y2,r2,rfl,h2,g3⟩:=X19 g2;obtain⟨x2,rfl,w2⟩:=Xsp (n:=n+0) h2;obtain rfl:=Xc2 g3;exact⟨X2u.mk x0 x1 x2,rfl,⟨w0,w1,w2⟩⟩
theorem OptionsOnce_run (xs:List AV) (g0:Xr2 (λt a=>X3y Tryz.prog 5 t a) [27,28,30] xs):X8t Tryz.prog 3 xs (.sc (.bool true)):=by
 obtain⟨y0,r0,rfl,h0,g1⟩:=X19 g0;obtain⟨x0,rfl,w0⟩:=X05c (n:=1) h0;obtain⟨y1,r1,rfl,h1,g2⟩:=X19 g1;obtain⟨x1,rfl,w1⟩:=X05b (n:=0) h1;obtain⟨y2,r2,rfl,h2,g3⟩:=X19 g2;obtain⟨x2,rfl,w2⟩:=X05a (n:=3) h2;obtain rfl:=Xc2 g3;exact Xej.ok x0 x1 x2 true (Xek x0 x1 x2 w0 w1 w2)
end Go.Av.Tryz
