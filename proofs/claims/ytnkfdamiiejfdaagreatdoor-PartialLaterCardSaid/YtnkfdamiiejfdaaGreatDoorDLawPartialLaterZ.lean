/- Printed by decomp.py: the law PartialLater, from its arguments as they lie. -/
import Derived.Test.YtnkfdamiiejfdaaGreatDoorDCertZ
import Derived.Test.YtnkfdamiiejfdaaGreatDoorPza
set_option linter.all false

namespace Go.Av.Tryz
open Go.Proofs Go.D
set_option maxRecDepth 100000
theorem Xt4 {n:Nat} {a:AV} (h:X43 Tryz.prog (n+1) 5 a):∃ x:Int,a=(aI .u8 x)/\wfI .u8 x:=by
 unfold X43 at h;simp only[Tryz.underlying5] at h;obtain⟨z,rfl,h⟩:=h;exact⟨z,rfl,h⟩
theorem Xf6 {n:Nat} {a:AV} (h:X43 Tryz.prog (n+1) 2 a):∃ x:Int,a=(aI .i64 x)/\wfI .i64 x:=by
 unfold X43 at h;simp only[Tryz.underlying2] at h;obtain⟨z,rfl,h⟩:=h;exact⟨z,rfl,h⟩
theorem Xt5 {n:Nat} {a:AV} (h:X43 Tryz.prog (n+1) 3 a):∃ x:Int,a=(aI .i64 x)/\wfI .i64 x:=by
 unfold X43 at h;simp only[Tryz.underlying3] at h;obtain⟨z,rfl,h⟩:=h;exact⟨z,rfl,h⟩
theorem X02x {n:Nat} {a:AV} (h:X43 Tryz.prog (n+2) 170 a):∃ x:Xy,a=(X3 x)/\Xi5 x:=by
 unfold X43 at h;simp only[Tryz.underlying170] at h;obtain⟨l,rfl,g0⟩:=h;obtain⟨y0,r0,rfl,h0,g1⟩:=X0w g0;obtain⟨x0,rfl,w0⟩:=Xt4 (n:=n+0) h0;obtain⟨y1,r1,rfl,h1,g2⟩:=X0w g1;obtain⟨x1,rfl,w1⟩:=Xf6 (n:=n+0) h1;obtain⟨y2,r2,rfl,h2,g3⟩:=X0w g2;obtain⟨x2,rfl,w2⟩:=Xt5 (n:=n+0) h2;obtain⟨y3,r3,rfl,h3,g4⟩:=X0w g3;obtain⟨x3,rfl,w3⟩:=Xt5 (n:=n+0) h3;obtain⟨y4,r4,rfl,h4,g5⟩:=X0w g4;obtain⟨x4,rfl,w4⟩:=Xt5 (n:=n+0) h4;obtain rfl:=Xd9 g5;exact⟨Xy.mk x0 x1 x2 x3 x4,rfl,⟨w0,w1,w2,w3,w4⟩⟩
theorem Xxt {n:Nat} {a:AV} (h:X43 Tryz.prog (n+3) 22 a):∃ x:(List Xy),a=(AV.list false (List.map X3 x))/\(List.length x<=maxLen/\∀ y∈x,Xi5 y):=by
 unfold X43 at h;simp only[Tryz.underlying22] at h;obtain⟨es,rfl,hl,hs⟩:=h;obtain⟨l,rfl,hw⟩:=Xd7 λx hx=>X02x (n:=n) (hs x hx);exact⟨l,rfl,by simpa using hl,hw⟩
theorem X072 {n:Nat} {a:AV} (h:X43 Tryz.prog (n+2) 23 a):∃ x:(List Int),a=(AV.list false (List.map (aI .i64) x))/\(List.length x<=maxLen/\∀ y∈x,wfI .i64 y):=by
 unfold X43 at h;simp only[Tryz.underlying23] at h;obtain⟨es,rfl,hl,hs⟩:=h;obtain⟨l,rfl,hw⟩:=Xd7 λx hx=>Xt5 (n:=n) (hs x hx);exact⟨l,rfl,by simpa using hl,hw⟩
theorem Xxs {n:Nat} {a:AV} (h:X43 Tryz.prog (n+1) 4 a):∃ x:Bool,a=(aB x)/\True:=by
 unfold X43 at h;simp only[Tryz.underlying4] at h;obtain⟨b,rfl⟩:=h;exact⟨b,rfl,trivial⟩
theorem X071 {n:Nat} {a:AV} (h:X43 Tryz.prog (n+2) 25 a):∃ x:X0r,a=(X39 x)/\Xlm x:=by
 unfold X43 at h;simp only[Tryz.underlying25] at h;obtain⟨l,rfl,g0⟩:=h;obtain⟨y0,r0,rfl,h0,g1⟩:=X0w g0;obtain⟨x0,rfl,w0⟩:=Xt4 (n:=n+0) h0;obtain⟨y1,r1,rfl,h1,g2⟩:=X0w g1;obtain⟨x1,rfl,w1⟩:=Xf6 (n:=n+0) h1;obtain⟨y2,r2,rfl,h2,g3⟩:=X0w g2;obtain⟨x2,rfl,w2⟩:=Xf6 (n:=n+0) h2;obtain rfl:=Xd9 g3;exact⟨X0r.mk x0 x1 x2,rfl,⟨w0,w1,w2⟩⟩
theorem X070 {n:Nat} {a:AV} (h:X43 Tryz.prog (n+4) 27 a):∃ x:X00,a=(Xz false x)/\Xiv x:=by
 unfold X43 at h;simp only[Tryz.underlying27] at h;obtain⟨l,rfl,g0⟩:=h;obtain⟨y0,r0,rfl,h0,g1⟩:=X0w g0;obtain⟨x0,rfl,w0⟩:=Xt4 (n:=n+2) h0;obtain⟨y1,r1,rfl,h1,g2⟩:=X0w g1;obtain⟨x1,rfl,w1⟩:=Xxt (n:=n+0) h1;obtain⟨y2,r2,rfl,h2,g3⟩:=X0w g2;obtain⟨x2,rfl,w2⟩:=X072 (n:=n+1) h2;obtain⟨y3,r3,rfl,h3,g4⟩:=X0w g3;obtain⟨x3,rfl,w3⟩:=Xxs (n:=n+2) h3;obtain⟨y4,r4,rfl,h4,g5⟩:=X0w g4;obtain⟨x4,rfl,w4⟩:=Xxt (n:=n+0) h4;obtain⟨y5,r5,rfl,h5,g6⟩:=X0w g5;obtain⟨x5,rfl,w5⟩:=X071 (n:=n+1) h5;obtain⟨y6,r6,rfl,h6,g7⟩:=X0w g6;obtain⟨x6,rfl,w6⟩:=Xxs (n:=n+2) h6;obtain⟨y7,r7,rfl,h7,g8⟩:=X0w g7;obtain⟨x7,rfl,w7⟩:=Xt4 (n:=n+2) h7;obtain rfl:=Xd9 g8;exact⟨X00.mk x0 x1 x2 x3 x4 x5 x6 x7,rfl,⟨w0,w1,w2,w3,w4,w5,w6,w7⟩⟩
theorem X06y {n:Nat} {a:AV} (h:X43 Tryz.prog (n+2) 59 a):∃ x:X6,a=(X0 x)/\Xln x:=by
 unfold X43 at h;simp only[Tryz.underlying59] at h;obtain⟨l,rfl,g0⟩:=h;obtain⟨y0,r0,rfl,h0,g1⟩:=X0w g0;obtain⟨x0,rfl,w0⟩:=Xf6 (n:=n+0) h0;obtain⟨y1,r1,rfl,h1,g2⟩:=X0w g1;obtain⟨x1,rfl,w1⟩:=Xf6 (n:=n+0) h1;obtain⟨y2,r2,rfl,h2,g3⟩:=X0w g2;obtain⟨x2,rfl,w2⟩:=Xf6 (n:=n+0) h2;obtain rfl:=Xd9 g3;exact⟨X6.mk x0 x1 x2,rfl,⟨w0,w1,w2⟩⟩
theorem X06x {n:Nat} {a:AV} (h:X43 Tryz.prog (n+3) 61 a):∃ x:Xq,a=(Xk x)/\Xiw x:=by
 unfold X43 at h;simp only[Tryz.underlying61] at h;obtain⟨l,rfl,g0⟩:=h;obtain⟨y0,r0,rfl,h0,g1⟩:=X0w g0;obtain⟨x0,rfl,w0⟩:=Xxs (n:=n+1) h0;obtain⟨y1,r1,rfl,h1,g2⟩:=X0w g1;obtain⟨x1,rfl,w1⟩:=Xf6 (n:=n+1) h1;obtain⟨y2,r2,rfl,h2,g3⟩:=X0w g2;obtain⟨x2,rfl,w2⟩:=X06y (n:=n+0) h2;obtain rfl:=Xd9 g3;exact⟨Xq.mk x0 x1 x2,rfl,⟨w0,w1,w2⟩⟩
theorem X06w {n:Nat} {a:AV} (h:X43 Tryz.prog (n+4) 64 a):∃ x:(List Xq),a=(AV.list false (List.map Xk x))/\(List.length x<=maxLen/\∀ y∈x,Xiw y):=by
 unfold X43 at h;simp only[Tryz.underlying64] at h;obtain⟨es,rfl,hl,hs⟩:=h;obtain⟨l,rfl,hw⟩:=Xd7 λx hx=>X06x (n:=n) (hs x hx);exact⟨l,rfl,by simpa using hl,hw⟩
theorem X06z {n:Nat} {a:AV} (h:X43 Tryz.prog (n+5) 28 a):∃ x:(List (List Xq)),a=(AV.list false (List.map (X6v false Xk) x))/\(List.length x<=maxLen/\∀ y∈x,(List.length y<=maxLen/\∀ yy∈y,Xiw yy)):=by
 unfold X43 at h;simp only[Tryz.underlying28] at h;obtain⟨es,rfl,hl,hs⟩:=h;obtain⟨l,rfl,hw⟩:=Xd7 λx hx=>X06w (n:=n) (hs x hx);exact⟨l,rfl,by simpa using hl,hw⟩
theorem PartialLater_run (xs:List AV) (g0:Xq6 (λt a=>X43 Tryz.prog 5 t a) [27,28,2,2] xs):X15 Tryz.prog 3 xs (.sc (.bool true)):=by
 obtain⟨y0,r0,rfl,h0,g1⟩:=X0w g0;obtain⟨x0,rfl,w0⟩:=X070 (n:=1) h0;obtain⟨y1,r1,rfl,h1,g2⟩:=X0w g1;obtain⟨x1,rfl,w1⟩:=X06z (n:=0) h1;obtain⟨y2,r2,rfl,h2,g3⟩:=X0w g2;obtain⟨x2,rfl,w2⟩:=Xf6 (n:=4) h2;obtain⟨y3,r3,rfl,h3,g4⟩:=X0w g3;obtain⟨x3,rfl,w3⟩:=Xf6 (n:=4) h3;obtain rfl:=Xd9 g4;exact Xco.ok x0 x1 x2 x3 true (Xcp x0 x1 x2 x3 w0 w1 w2 w3)
end Go.Av.Tryz
