/- Printed by decomp.py: the law AggTakes, from its arguments as they lie. -/
import Derived.Test.YtkjlgmgfhgamlaaGreatDCertZ
import Derived.Test.YtkjlgmgfhgamlaaGreatPzb
set_option linter.all false

namespace Go.Av.Tryz
open Go.Proofs Go.D
set_option maxRecDepth 100000
theorem Xne {n:Nat} {a:AV} (h:X1x Tryz.prog (n+1) 5 a):∃ x:Int,a=(aI .u8 x)/\wfI .u8 x:=by
 unfold X1x at h;simp only[Tryz.underlying5] at h;obtain⟨z,rfl,h⟩:=h;exact⟨z,rfl,h⟩
theorem X7o {n:Nat} {a:AV} (h:X1x Tryz.prog (n+1) 2 a):∃ x:Int,a=(aI .i64 x)/\wfI .i64 x:=by
 unfold X1x at h;simp only[Tryz.underlying2] at h;obtain⟨z,rfl,h⟩:=h;exact⟨z,rfl,h⟩
theorem Xgq {n:Nat} {a:AV} (h:X1x Tryz.prog (n+1) 3 a):∃ x:Int,a=(aI .i64 x)/\wfI .i64 x:=by
 unfold X1x at h;simp only[Tryz.underlying3] at h;obtain⟨z,rfl,h⟩:=h;exact⟨z,rfl,h⟩
theorem X02c {n:Nat} {a:AV} (h:X1x Tryz.prog (n+2) 147 a):∃ x:X0f,a=(X4 x)/\Xk8 x:=by
 unfold X1x at h;simp only[Tryz.underlying147] at h;obtain⟨l,rfl,g0⟩:=h;obtain⟨y0,r0,rfl,h0,g1⟩:=Xy g0;obtain⟨x0,rfl,w0⟩:=Xne (n:=n+0) h0;obtain⟨y1,r1,rfl,h1,g2⟩:=Xy g1;obtain⟨x1,rfl,w1⟩:=X7o (n:=n+0) h1;obtain⟨y2,r2,rfl,h2,g3⟩:=Xy g2;obtain⟨x2,rfl,w2⟩:=Xgq (n:=n+0) h2;obtain⟨y3,r3,rfl,h3,g4⟩:=Xy g3;obtain⟨x3,rfl,w3⟩:=Xgq (n:=n+0) h3;obtain⟨y4,r4,rfl,h4,g5⟩:=Xy g4;obtain⟨x4,rfl,w4⟩:=Xgq (n:=n+0) h4;obtain rfl:=X5c g5;exact⟨X0f.mk x0 x1 x2 x3 x4,rfl,⟨w0,w1,w2,w3,w4⟩⟩
theorem Xxe {n:Nat} {a:AV} (h:X1x Tryz.prog (n+3) 22 a):∃ x:(List X0f),a=(AV.list false (List.map X4 x))/\(List.length x<=maxLen/\∀ y∈x,Xk8 y):=by
 unfold X1x at h;simp only[Tryz.underlying22] at h;obtain⟨es,rfl,hl,hs⟩:=h;obtain⟨l,rfl,hw⟩:=X76 λx hx=>X02c (n:=n) (hs x hx);exact⟨l,rfl,by simpa using hl,hw⟩
theorem X05r {n:Nat} {a:AV} (h:X1x Tryz.prog (n+2) 23 a):∃ x:(List Int),a=(AV.list false (List.map (aI .i64) x))/\(List.length x<=maxLen/\∀ y∈x,wfI .i64 y):=by
 unfold X1x at h;simp only[Tryz.underlying23] at h;obtain⟨es,rfl,hl,hs⟩:=h;obtain⟨l,rfl,hw⟩:=X76 λx hx=>Xgq (n:=n) (hs x hx);exact⟨l,rfl,by simpa using hl,hw⟩
theorem Xxc {n:Nat} {a:AV} (h:X1x Tryz.prog (n+1) 4 a):∃ x:Bool,a=(aB x)/\True:=by
 unfold X1x at h;simp only[Tryz.underlying4] at h;obtain⟨b,rfl⟩:=h;exact⟨b,rfl,trivial⟩
theorem X05q {n:Nat} {a:AV} (h:X1x Tryz.prog (n+2) 25 a):∃ x:X1v,a=(X1y x)/\Xn8 x:=by
 unfold X1x at h;simp only[Tryz.underlying25] at h;obtain⟨l,rfl,g0⟩:=h;obtain⟨y0,r0,rfl,h0,g1⟩:=Xy g0;obtain⟨x0,rfl,w0⟩:=Xne (n:=n+0) h0;obtain⟨y1,r1,rfl,h1,g2⟩:=Xy g1;obtain⟨x1,rfl,w1⟩:=X7o (n:=n+0) h1;obtain⟨y2,r2,rfl,h2,g3⟩:=Xy g2;obtain⟨x2,rfl,w2⟩:=X7o (n:=n+0) h2;obtain rfl:=X5c g3;exact⟨X1v.mk x0 x1 x2,rfl,⟨w0,w1,w2⟩⟩
theorem X05p {n:Nat} {a:AV} (h:X1x Tryz.prog (n+4) 27 a):∃ x:X0l,a=(X0b false x)/\Xkz x:=by
 unfold X1x at h;simp only[Tryz.underlying27] at h;obtain⟨l,rfl,g0⟩:=h;obtain⟨y0,r0,rfl,h0,g1⟩:=Xy g0;obtain⟨x0,rfl,w0⟩:=Xne (n:=n+2) h0;obtain⟨y1,r1,rfl,h1,g2⟩:=Xy g1;obtain⟨x1,rfl,w1⟩:=Xxe (n:=n+0) h1;obtain⟨y2,r2,rfl,h2,g3⟩:=Xy g2;obtain⟨x2,rfl,w2⟩:=X05r (n:=n+1) h2;obtain⟨y3,r3,rfl,h3,g4⟩:=Xy g3;obtain⟨x3,rfl,w3⟩:=Xxc (n:=n+2) h3;obtain⟨y4,r4,rfl,h4,g5⟩:=Xy g4;obtain⟨x4,rfl,w4⟩:=Xxe (n:=n+0) h4;obtain⟨y5,r5,rfl,h5,g6⟩:=Xy g5;obtain⟨x5,rfl,w5⟩:=X05q (n:=n+1) h5;obtain⟨y6,r6,rfl,h6,g7⟩:=Xy g6;obtain⟨x6,rfl,w6⟩:=Xxc (n:=n+2) h6;obtain⟨y7,r7,rfl,h7,g8⟩:=Xy g7;obtain⟨x7,rfl,w7⟩:=Xne (n:=n+2) h7;obtain rfl:=X5c g8;exact⟨X0l.mk x0 x1 x2 x3 x4 x5 x6 x7,rfl,⟨w0,w1,w2,w3,w4,w5,w6,w7⟩⟩
theorem X05m {n:Nat} {a:AV} (h:X1x Tryz.prog (n+2) 45 a):∃ x:GOp,a=(X07j x)/\X04g x:=by
 unfold X1x at h;simp only[Tryz.underlying45] at h;obtain⟨l,rfl,g0⟩:=h;obtain⟨y0,r0,rfl,h0,g1⟩:=Xy g0;obtain⟨x0,rfl,w0⟩:=Xne (n:=n+0) h0;obtain⟨y1,r1,rfl,h1,g2⟩:=Xy g1;obtain⟨x1,rfl,w1⟩:=Xgq (n:=n+0) h1;obtain rfl:=X5c g2;exact⟨GOp.mk x0 x1,rfl,⟨w0,w1⟩⟩
theorem Xrd {n:Nat} {a:AV} (h:X1x Tryz.prog (n+2) 35 a):∃ x:Xc,a=(X5 x)/\Xco x:=by
 unfold X1x at h;simp only[Tryz.underlying35] at h;obtain⟨l,rfl,g0⟩:=h;obtain⟨y0,r0,rfl,h0,g1⟩:=Xy g0;obtain⟨x0,rfl,w0⟩:=X7o (n:=n+0) h0;obtain⟨y1,r1,rfl,h1,g2⟩:=Xy g1;obtain⟨x1,rfl,w1⟩:=X7o (n:=n+0) h1;obtain⟨y2,r2,rfl,h2,g3⟩:=Xy g2;obtain⟨x2,rfl,w2⟩:=X7o (n:=n+0) h2;obtain rfl:=X5c g3;exact⟨Xc.mk x0 x1 x2,rfl,⟨w0,w1,w2⟩⟩
theorem Xxd {n:Nat} {a:AV} (h:X1x Tryz.prog (n+2) 37 a):∃ x:Xz,a=(Xr x)/\Xny x:=by
 unfold X1x at h;simp only[Tryz.underlying37] at h;obtain⟨l,rfl,g0⟩:=h;obtain⟨y0,r0,rfl,h0,g1⟩:=Xy g0;obtain⟨x0,rfl,w0⟩:=X7o (n:=n+0) h0;obtain⟨y1,r1,rfl,h1,g2⟩:=Xy g1;obtain⟨x1,rfl,w1⟩:=X7o (n:=n+0) h1;obtain rfl:=X5c g2;exact⟨Xz.mk x0 x1,rfl,⟨w0,w1⟩⟩
theorem X05n {n:Nat} {a:AV} (h:X1x Tryz.prog (n+2) 38 a):∃ x:(V2 Int),a=(Xvy x)/\Xtj x:=by
 unfold X1x at h;simp only[Tryz.underlying38] at h;obtain⟨l,rfl,hm,hs⟩:=h;obtain⟨y0,y1,rfl⟩:∃ y0 y1,l=[y0,y1]:=by
  match l,hm with
  |[y0,y1],_=>exact⟨y0,y1,rfl⟩
 obtain⟨x0,rfl,w0⟩:=X7o (n:=n) (hs y0 (by simp));obtain⟨x1,rfl,w1⟩:=X7o (n:=n) (hs y1 (by simp));exact⟨V2.mk x0 x1,rfl,⟨w0,w1⟩⟩
theorem Xxb {n:Nat} {a:AV} (h:X1x Tryz.prog (n+3) 40 a):∃ x:X0y,a=(Xg x)/\Xo0 x:=by
 unfold X1x at h;simp only[Tryz.underlying40] at h;obtain⟨l,rfl,g0⟩:=h;obtain⟨y0,r0,rfl,h0,g1⟩:=Xy g0;obtain⟨x0,rfl,w0⟩:=X7o (n:=n+1) h0;obtain⟨y1,r1,rfl,h1,g2⟩:=Xy g1;obtain⟨x1,rfl,w1⟩:=Xxd (n:=n+0) h1;obtain⟨y2,r2,rfl,h2,g3⟩:=Xy g2;obtain⟨x2,rfl,w2⟩:=X05n (n:=n+0) h2;obtain rfl:=X5c g3;exact⟨X0y.mk x0 x1 x2,rfl,⟨w0,w1,w2⟩⟩
theorem Xxa {n:Nat} {a:AV} (h:X1x Tryz.prog (n+4) 42 a):∃ x:Xo,a=(X0k x)/\Xg7 x:=by
 unfold X1x at h;simp only[Tryz.underlying42] at h;obtain⟨l,rfl,g0⟩:=h;obtain⟨y0,r0,rfl,h0,g1⟩:=Xy g0;obtain⟨x0,rfl,w0⟩:=Xne (n:=n+2) h0;obtain⟨y1,r1,rfl,h1,g2⟩:=Xy g1;obtain⟨x1,rfl,w1⟩:=Xrd (n:=n+1) h1;obtain⟨y2,r2,rfl,h2,g3⟩:=Xy g2;obtain⟨x2,rfl,w2⟩:=X7o (n:=n+2) h2;obtain⟨y3,r3,rfl,h3,g4⟩:=Xy g3;obtain⟨x3,rfl,w3⟩:=Xxb (n:=n+0) h3;obtain rfl:=X5c g4;exact⟨Xo.mk x0 x1 x2 x3,rfl,⟨w0,w1,w2,w3⟩⟩
theorem X05e {n:Nat} {a:AV} (h:X1x Tryz.prog (n+5) 75 a):∃ x:X03,a=(Xf x)/\Xnz x:=by
 unfold X1x at h;simp only[Tryz.underlying75] at h;obtain⟨l,rfl,g0⟩:=h;obtain⟨y0,r0,rfl,h0,g1⟩:=Xy g0;obtain⟨x0,rfl,w0⟩:=Xgq (n:=n+3) h0;obtain⟨y1,r1,rfl,h1,g2⟩:=Xy g1;obtain⟨x1,rfl,w1⟩:=Xxa (n:=n+0) h1;obtain rfl:=X5c g2;exact⟨X03.mk x0 x1,rfl,⟨w0,w1⟩⟩
theorem X05l {n:Nat} {a:AV} (h:X1x Tryz.prog (n+6) 46 a):∃ x:(List X03),a=(AV.list false (List.map Xf x))/\(List.length x<=maxLen/\∀ y∈x,Xnz y):=by
 unfold X1x at h;simp only[Tryz.underlying46] at h;obtain⟨es,rfl,hl,hs⟩:=h;obtain⟨l,rfl,hw⟩:=X76 λx hx=>X05e (n:=n) (hs x hx);exact⟨l,rfl,by simpa using hl,hw⟩
theorem X05k {n:Nat} {a:AV} (h:X1x Tryz.prog (n+2) 47 a):∃ x:(List Int),a=(AV.list false (List.map (aI .i64) x))/\(List.length x<=maxLen/\∀ y∈x,wfI .i64 y):=by
 unfold X1x at h;simp only[Tryz.underlying47] at h;obtain⟨es,rfl,hl,hs⟩:=h;obtain⟨l,rfl,hw⟩:=X76 λx hx=>X7o (n:=n) (hs x hx);exact⟨l,rfl,by simpa using hl,hw⟩
theorem Xx9 {n:Nat} {a:AV} (h:X1x Tryz.prog (n+2) 70 a):∃ x:Xn,a=(Xw x)/\Xl2 x:=by
 unfold X1x at h;simp only[Tryz.underlying70] at h;obtain⟨l,rfl,g0⟩:=h;obtain⟨y0,r0,rfl,h0,g1⟩:=Xy g0;obtain⟨x0,rfl,w0⟩:=X7o (n:=n+0) h0;obtain⟨y1,r1,rfl,h1,g2⟩:=Xy g1;obtain⟨x1,rfl,w1⟩:=X7o (n:=n+0) h1;obtain⟨y2,r2,rfl,h2,g3⟩:=Xy g2;obtain⟨x2,rfl,w2⟩:=X7o (n:=n+0) h2;obtain⟨y3,r3,rfl,h3,g4⟩:=Xy g3;obtain⟨x3,rfl,w3⟩:=X7o (n:=n+0) h3;obtain rfl:=X5c g4;exact⟨Xn.mk x0 x1 x2 x3,rfl,⟨w0,w1,w2,w3⟩⟩
theorem X05f {n:Nat} {a:AV} (h:X1x Tryz.prog (n+3) 71 a):∃ x:(V2 Xn),a=(Xp4 x)/\Xky x:=by
 unfold X1x at h;simp only[Tryz.underlying71] at h;obtain⟨l,rfl,hm,hs⟩:=h;obtain⟨y0,y1,rfl⟩:∃ y0 y1,l=[y0,y1]:=by
  match l,hm with
  |[y0,y1],_=>exact⟨y0,y1,rfl⟩
 obtain⟨x0,rfl,w0⟩:=Xx9 (n:=n) (hs y0 (by simp));obtain⟨x1,rfl,w1⟩:=Xx9 (n:=n) (hs y1 (by simp));exact⟨V2.mk x0 x1,rfl,⟨w0,w1⟩⟩
theorem Xx8 {n:Nat} {a:AV} (h:X1x Tryz.prog (n+4) 73 a):∃ x:X1,a=(X0 x)/\Xl1 x:=by
 unfold X1x at h;simp only[Tryz.underlying73] at h;obtain⟨l,rfl,g0⟩:=h;obtain⟨y0,r0,rfl,h0,g1⟩:=Xy g0;obtain⟨x0,rfl,w0⟩:=X7o (n:=n+2) h0;obtain⟨y1,r1,rfl,h1,g2⟩:=Xy g1;obtain⟨x1,rfl,w1⟩:=Xxd (n:=n+1) h1;obtain⟨y2,r2,rfl,h2,g3⟩:=Xy g2;obtain⟨x2,rfl,w2⟩:=X05f (n:=n+0) h2;obtain rfl:=X5c g3;exact⟨X1.mk x0 x1 x2,rfl,⟨w0,w1,w2⟩⟩
theorem X05j {n:Nat} {a:AV} (h:X1x Tryz.prog (n+5) 48 a):∃ x:(List X1),a=(AV.list false (List.map X0 x))/\(List.length x<=maxLen/\∀ y∈x,Xl1 y):=by
 unfold X1x at h;simp only[Tryz.underlying48] at h;obtain⟨es,rfl,hl,hs⟩:=h;obtain⟨l,rfl,hw⟩:=X76 λx hx=>Xx8 (n:=n) (hs x hx);exact⟨l,rfl,by simpa using hl,hw⟩
theorem X02d {n:Nat} {a:AV} (h:X1x Tryz.prog (n+3) 107 a):∃ x:Xs,a=(X7 x)/\Xl0 x:=by
 unfold X1x at h;simp only[Tryz.underlying107] at h;obtain⟨l,rfl,g0⟩:=h;obtain⟨y0,r0,rfl,h0,g1⟩:=Xy g0;obtain⟨x0,rfl,w0⟩:=Xxc (n:=n+1) h0;obtain⟨y1,r1,rfl,h1,g2⟩:=Xy g1;obtain⟨x1,rfl,w1⟩:=X7o (n:=n+1) h1;obtain⟨y2,r2,rfl,h2,g3⟩:=Xy g2;obtain⟨x2,rfl,w2⟩:=Xrd (n:=n+0) h2;obtain rfl:=X5c g3;exact⟨Xs.mk x0 x1 x2,rfl,⟨w0,w1,w2⟩⟩
theorem X05i {n:Nat} {a:AV} (h:X1x Tryz.prog (n+4) 49 a):∃ x:(List Xs),a=(AV.list false (List.map X7 x))/\(List.length x<=maxLen/\∀ y∈x,Xl0 y):=by
 unfold X1x at h;simp only[Tryz.underlying49] at h;obtain⟨es,rfl,hl,hs⟩:=h;obtain⟨l,rfl,hw⟩:=X76 λx hx=>X02d (n:=n) (hs x hx);exact⟨l,rfl,by simpa using hl,hw⟩
theorem X05h {n:Nat} {a:AV} (h:X1x Tryz.prog (n+4) 50 a):∃ x:(List X0y),a=(AV.list false (List.map Xg x))/\(List.length x<=maxLen/\∀ y∈x,Xo0 y):=by
 unfold X1x at h;simp only[Tryz.underlying50] at h;obtain⟨es,rfl,hl,hs⟩:=h;obtain⟨l,rfl,hw⟩:=X76 λx hx=>Xxb (n:=n) (hs x hx);exact⟨l,rfl,by simpa using hl,hw⟩
theorem X05o {n:Nat} {a:AV} (h:X1x Tryz.prog (n+3) 28 a):∃ x:(List Xc),a=(AV.list false (List.map X5 x))/\(List.length x<=maxLen/\∀ y∈x,Xco y):=by
 unfold X1x at h;simp only[Tryz.underlying28] at h;obtain⟨es,rfl,hl,hs⟩:=h;obtain⟨l,rfl,hw⟩:=X76 λx hx=>Xrd (n:=n) (hs x hx);exact⟨l,rfl,by simpa using hl,hw⟩
theorem X05g {n:Nat} {a:AV} (h:X1x Tryz.prog (n+7) 52 a):∃ x:Xk,a=(Xa false x)/\X021 x:=by
 unfold X1x at h;simp only[Tryz.underlying52] at h;obtain⟨l,rfl,g0⟩:=h;obtain⟨y0,r0,rfl,h0,g1⟩:=Xy g0;obtain⟨x0,rfl,w0⟩:=X05m (n:=n+4) h0;obtain⟨y1,r1,rfl,h1,g2⟩:=Xy g1;obtain⟨x1,rfl,w1⟩:=Xgq (n:=n+5) h1;obtain⟨y2,r2,rfl,h2,g3⟩:=Xy g2;obtain⟨x2,rfl,w2⟩:=X05l (n:=n+0) h2;obtain⟨y3,r3,rfl,h3,g4⟩:=Xy g3;obtain⟨x3,rfl,w3⟩:=X05k (n:=n+4) h3;obtain⟨y4,r4,rfl,h4,g5⟩:=Xy g4;obtain⟨x4,rfl,w4⟩:=X05j (n:=n+1) h4;obtain⟨y5,r5,rfl,h5,g6⟩:=Xy g5;obtain⟨x5,rfl,w5⟩:=X05i (n:=n+2) h5;obtain⟨y6,r6,rfl,h6,g7⟩:=Xy g6;obtain⟨x6,rfl,w6⟩:=X05h (n:=n+2) h6;obtain⟨y7,r7,rfl,h7,g8⟩:=Xy g7;obtain⟨x7,rfl,w7⟩:=X05o (n:=n+3) h7;obtain rfl:=X5c g8;exact⟨Xk.mk x0 x1 x2 x3 x4 x5 x6 x7,rfl,⟨w0,w1,w2,w3,w4,w5,w6,w7⟩⟩
theorem AggTakes_run (xs:List AV) (g0:Xte (λt a=>X1x Tryz.prog 7 t a) [27,52,3,42,3,73] xs):X0a Tryz.prog 9 xs (.sc (.bool true)):=by
 obtain⟨y0,r0,rfl,h0,g1⟩:=Xy g0;obtain⟨x0,rfl,w0⟩:=X05p (n:=3) h0;obtain⟨y1,r1,rfl,h1,g2⟩:=Xy g1;obtain⟨x1,rfl,w1⟩:=X05g (n:=0) h1;obtain⟨y2,r2,rfl,h2,g3⟩:=Xy g2;obtain⟨x2,rfl,w2⟩:=Xgq (n:=6) h2;obtain⟨y3,r3,rfl,h3,g4⟩:=Xy g3;obtain⟨x3,rfl,w3⟩:=Xxa (n:=3) h3;obtain⟨y4,r4,rfl,h4,g5⟩:=Xy g4;obtain⟨x4,rfl,w4⟩:=Xgq (n:=6) h4;obtain⟨y5,r5,rfl,h5,g6⟩:=Xy g5;obtain⟨x5,rfl,w5⟩:=Xx8 (n:=3) h5;obtain rfl:=X5c g6;exact Xif.ok x0 x1 x2 x3 x4 x5 true (Xig x0 x1 x2 x3 x4 x5 w0 w1 w2 w3 w4 w5)
end Go.Av.Tryz
