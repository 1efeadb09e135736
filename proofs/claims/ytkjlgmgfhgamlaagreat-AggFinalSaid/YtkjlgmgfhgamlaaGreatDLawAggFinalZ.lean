/- Printed by decomp.py: the law AggFinal, from its arguments as they lie. -/
import Derived.Test.YtkjlgmgfhgamlaaGreatDCertZ
import Derived.Test.YtkjlgmgfhgamlaaGreatPza
set_option linter.all false

namespace Go.Av.Tryz
open Go.Proofs Go.D
set_option maxRecDepth 100000
theorem Xk8 {n:Nat} {a:AV} (h:X1w Tryz.prog (n+1) 5 a):∃ x:Int,a=(aI .u8 x)/\wfI .u8 x:=by
 unfold X1w at h
 simp only[Tryz.underlying5] at h
 obtain⟨z,rfl,h⟩:=h
 exact⟨z,rfl,h⟩
theorem X6y {n:Nat} {a:AV} (h:X1w Tryz.prog (n+1) 2 a):∃ x:Int,a=(aI .i64 x)/\wfI .i64 x:=by
 unfold X1w at h
 simp only[Tryz.underlying2] at h
 obtain⟨z,rfl,h⟩:=h
 exact⟨z,rfl,h⟩
theorem Xi8 {n:Nat} {a:AV} (h:X1w Tryz.prog (n+1) 3 a):∃ x:Int,a=(aI .i64 x)/\wfI .i64 x:=by
 unfold X1w at h
 simp only[Tryz.underlying3] at h
 obtain⟨z,rfl,h⟩:=h
 exact⟨z,rfl,h⟩
theorem Xx3 {n:Nat} {a:AV} (h:X1w Tryz.prog (n+2) 147 a):∃ x:X07,a=(X9 x)/\Xh7 x:=by
 unfold X1w at h
 simp only[Tryz.underlying147] at h
 obtain⟨l,rfl,g0⟩:=h
 obtain⟨y0,r0,rfl,h0,g1⟩:=Xu g0
 obtain⟨x0,rfl,w0⟩:=Xk8 (n:=n+0) h0
 obtain⟨y1,r1,rfl,h1,g2⟩:=Xu g1
 obtain⟨x1,rfl,w1⟩:=X6y (n:=n+0) h1
 obtain⟨y2,r2,rfl,h2,g3⟩:=Xu g2
 obtain⟨x2,rfl,w2⟩:=Xi8 (n:=n+0) h2
 obtain⟨y3,r3,rfl,h3,g4⟩:=Xu g3
 obtain⟨x3,rfl,w3⟩:=Xi8 (n:=n+0) h3
 obtain⟨y4,r4,rfl,h4,g5⟩:=Xu g4
 obtain⟨x4,rfl,w4⟩:=Xi8 (n:=n+0) h4
 obtain rfl:=X4z g5
 exact⟨X07.mk x0 x1 x2 x3 x4,rfl,⟨w0,w1,w2,w3,w4⟩⟩
theorem Xtd {n:Nat} {a:AV} (h:X1w Tryz.prog (n+3) 22 a):∃ x:(List X07),a=(AV.list false (List.map X9 x))/\(List.length x<=maxLen/\∀ y∈x,Xh7 y):=by
 unfold X1w at h
 simp only[Tryz.underlying22] at h
 obtain⟨es,rfl,hl,hs⟩:=h
 obtain⟨l,rfl,hw⟩:=X6m fun x hx=>Xx3 (n:=n) (hs x hx)
 exact⟨l,rfl,by simpa using hl,hw⟩
theorem X00b {n:Nat} {a:AV} (h:X1w Tryz.prog (n+2) 23 a):∃ x:(List Int),a=(AV.list false (List.map (aI .i64) x))/\(List.length x<=maxLen/\∀ y∈x,wfI .i64 y):=by
 unfold X1w at h
 simp only[Tryz.underlying23] at h
 obtain⟨es,rfl,hl,hs⟩:=h
 obtain⟨l,rfl,hw⟩:=X6m fun x hx=>Xi8 (n:=n) (hs x hx)
 exact⟨l,rfl,by simpa using hl,hw⟩
theorem Xtb {n:Nat} {a:AV} (h:X1w Tryz.prog (n+1) 4 a):∃ x:Bool,a=(aB x)/\True:=by
 unfold X1w at h
 simp only[Tryz.underlying4] at h
 obtain⟨b,rfl⟩:=h
 exact⟨b,rfl,trivial⟩
theorem X00a {n:Nat} {a:AV} (h:X1w Tryz.prog (n+2) 25 a):∃ x:X0y,a=(X3f x)/\Xk5 x:=by
 unfold X1w at h
 simp only[Tryz.underlying25] at h
 obtain⟨l,rfl,g0⟩:=h
 obtain⟨y0,r0,rfl,h0,g1⟩:=Xu g0
 obtain⟨x0,rfl,w0⟩:=Xk8 (n:=n+0) h0
 obtain⟨y1,r1,rfl,h1,g2⟩:=Xu g1
 obtain⟨x1,rfl,w1⟩:=X6y (n:=n+0) h1
 obtain⟨y2,r2,rfl,h2,g3⟩:=Xu g2
 obtain⟨x2,rfl,w2⟩:=X6y (n:=n+0) h2
 obtain rfl:=X4z g3
 exact⟨X0y.mk x0 x1 x2,rfl,⟨w0,w1,w2⟩⟩
theorem X009 {n:Nat} {a:AV} (h:X1w Tryz.prog (n+4) 27 a):∃ x:X0b,a=(X05 false x)/\Xhu x:=by
 unfold X1w at h
 simp only[Tryz.underlying27] at h
 obtain⟨l,rfl,g0⟩:=h
 obtain⟨y0,r0,rfl,h0,g1⟩:=Xu g0
 obtain⟨x0,rfl,w0⟩:=Xk8 (n:=n+2) h0
 obtain⟨y1,r1,rfl,h1,g2⟩:=Xu g1
 obtain⟨x1,rfl,w1⟩:=Xtd (n:=n+0) h1
 obtain⟨y2,r2,rfl,h2,g3⟩:=Xu g2
 obtain⟨x2,rfl,w2⟩:=X00b (n:=n+1) h2
 obtain⟨y3,r3,rfl,h3,g4⟩:=Xu g3
 obtain⟨x3,rfl,w3⟩:=Xtb (n:=n+2) h3
 obtain⟨y4,r4,rfl,h4,g5⟩:=Xu g4
 obtain⟨x4,rfl,w4⟩:=Xtd (n:=n+0) h4
 obtain⟨y5,r5,rfl,h5,g6⟩:=Xu g5
 obtain⟨x5,rfl,w5⟩:=X00a (n:=n+1) h5
 obtain⟨y6,r6,rfl,h6,g7⟩:=Xu g6
 obtain⟨x6,rfl,w6⟩:=Xtb (n:=n+2) h6
 obtain⟨y7,r7,rfl,h7,g8⟩:=Xu g7
 obtain⟨x7,rfl,w7⟩:=Xk8 (n:=n+2) h7
 obtain rfl:=X4z g8
 exact⟨X0b.mk x0 x1 x2 x3 x4 x5 x6 x7,rfl,⟨w0,w1,w2,w3,w4,w5,w6,w7⟩⟩
theorem X005 {n:Nat} {a:AV} (h:X1w Tryz.prog (n+2) 45 a):∃ x:GOp,a=(X01z x)/\Xyx x:=by
 unfold X1w at h
 simp only[Tryz.underlying45] at h
 obtain⟨l,rfl,g0⟩:=h
 obtain⟨y0,r0,rfl,h0,g1⟩:=Xu g0
 obtain⟨x0,rfl,w0⟩:=Xk8 (n:=n+0) h0
 obtain⟨y1,r1,rfl,h1,g2⟩:=Xu g1
 obtain⟨x1,rfl,w1⟩:=Xi8 (n:=n+0) h1
 obtain rfl:=X4z g2
 exact⟨GOp.mk x0 x1,rfl,⟨w0,w1⟩⟩
theorem Xo1 {n:Nat} {a:AV} (h:X1w Tryz.prog (n+2) 35 a):∃ x:Xe,a=(Xt x)/\Xat x:=by
 unfold X1w at h
 simp only[Tryz.underlying35] at h
 obtain⟨l,rfl,g0⟩:=h
 obtain⟨y0,r0,rfl,h0,g1⟩:=Xu g0
 obtain⟨x0,rfl,w0⟩:=X6y (n:=n+0) h0
 obtain⟨y1,r1,rfl,h1,g2⟩:=Xu g1
 obtain⟨x1,rfl,w1⟩:=X6y (n:=n+0) h1
 obtain⟨y2,r2,rfl,h2,g3⟩:=Xu g2
 obtain⟨x2,rfl,w2⟩:=X6y (n:=n+0) h2
 obtain rfl:=X4z g3
 exact⟨Xe.mk x0 x1 x2,rfl,⟨w0,w1,w2⟩⟩
theorem Xtc {n:Nat} {a:AV} (h:X1w Tryz.prog (n+2) 37 a):∃ x:X06,a=(X02 x)/\Xku x:=by
 unfold X1w at h
 simp only[Tryz.underlying37] at h
 obtain⟨l,rfl,g0⟩:=h
 obtain⟨y0,r0,rfl,h0,g1⟩:=Xu g0
 obtain⟨x0,rfl,w0⟩:=X6y (n:=n+0) h0
 obtain⟨y1,r1,rfl,h1,g2⟩:=Xu g1
 obtain⟨x1,rfl,w1⟩:=X6y (n:=n+0) h1
 obtain rfl:=X4z g2
 exact⟨X06.mk x0 x1,rfl,⟨w0,w1⟩⟩
theorem X007 {n:Nat} {a:AV} (h:X1w Tryz.prog (n+2) 38 a):∃ x:(V2 Int),a=(Xs7 x)/\Xq3 x:=by
 unfold X1w at h
 simp only[Tryz.underlying38] at h
 obtain⟨l,rfl,hm,hs⟩:=h
 obtain⟨y0,y1,rfl⟩:∃ y0 y1,l=[y0,y1]:=by
  match l,hm with
  |[y0,y1],_=>exact⟨y0,y1,rfl⟩
 obtain⟨x0,rfl,w0⟩:=X6y (n:=n) (hs y0 (by simp))
 obtain⟨x1,rfl,w1⟩:=X6y (n:=n) (hs y1 (by simp))
 exact⟨V2.mk x0 x1,rfl,⟨w0,w1⟩⟩
theorem Xta {n:Nat} {a:AV} (h:X1w Tryz.prog (n+3) 40 a):∃ x:X1g,a=(Xw x)/\Xkw x:=by
 unfold X1w at h
 simp only[Tryz.underlying40] at h
 obtain⟨l,rfl,g0⟩:=h
 obtain⟨y0,r0,rfl,h0,g1⟩:=Xu g0
 obtain⟨x0,rfl,w0⟩:=X6y (n:=n+1) h0
 obtain⟨y1,r1,rfl,h1,g2⟩:=Xu g1
 obtain⟨x1,rfl,w1⟩:=Xtc (n:=n+0) h1
 obtain⟨y2,r2,rfl,h2,g3⟩:=Xu g2
 obtain⟨x2,rfl,w2⟩:=X007 (n:=n+0) h2
 obtain rfl:=X4z g3
 exact⟨X1g.mk x0 x1 x2,rfl,⟨w0,w1,w2⟩⟩
theorem X006 {n:Nat} {a:AV} (h:X1w Tryz.prog (n+4) 42 a):∃ x:Xj,a=(X00 x)/\Xhv x:=by
 unfold X1w at h
 simp only[Tryz.underlying42] at h
 obtain⟨l,rfl,g0⟩:=h
 obtain⟨y0,r0,rfl,h0,g1⟩:=Xu g0
 obtain⟨x0,rfl,w0⟩:=Xk8 (n:=n+2) h0
 obtain⟨y1,r1,rfl,h1,g2⟩:=Xu g1
 obtain⟨x1,rfl,w1⟩:=Xo1 (n:=n+1) h1
 obtain⟨y2,r2,rfl,h2,g3⟩:=Xu g2
 obtain⟨x2,rfl,w2⟩:=X6y (n:=n+2) h2
 obtain⟨y3,r3,rfl,h3,g4⟩:=Xu g3
 obtain⟨x3,rfl,w3⟩:=Xta (n:=n+0) h3
 obtain rfl:=X4z g4
 exact⟨Xj.mk x0 x1 x2 x3,rfl,⟨w0,w1,w2,w3⟩⟩
theorem Xzw {n:Nat} {a:AV} (h:X1w Tryz.prog (n+5) 75 a):∃ x:X0g,a=(Xs x)/\Xkv x:=by
 unfold X1w at h
 simp only[Tryz.underlying75] at h
 obtain⟨l,rfl,g0⟩:=h
 obtain⟨y0,r0,rfl,h0,g1⟩:=Xu g0
 obtain⟨x0,rfl,w0⟩:=Xi8 (n:=n+3) h0
 obtain⟨y1,r1,rfl,h1,g2⟩:=Xu g1
 obtain⟨x1,rfl,w1⟩:=X006 (n:=n+0) h1
 obtain rfl:=X4z g2
 exact⟨X0g.mk x0 x1,rfl,⟨w0,w1⟩⟩
theorem X004 {n:Nat} {a:AV} (h:X1w Tryz.prog (n+6) 46 a):∃ x:(List X0g),a=(AV.list false (List.map Xs x))/\(List.length x<=maxLen/\∀ y∈x,Xkv y):=by
 unfold X1w at h
 simp only[Tryz.underlying46] at h
 obtain⟨es,rfl,hl,hs⟩:=h
 obtain⟨l,rfl,hw⟩:=X6m fun x hx=>Xzw (n:=n) (hs x hx)
 exact⟨l,rfl,by simpa using hl,hw⟩
theorem X003 {n:Nat} {a:AV} (h:X1w Tryz.prog (n+2) 47 a):∃ x:(List Int),a=(AV.list false (List.map (aI .i64) x))/\(List.length x<=maxLen/\∀ y∈x,wfI .i64 y):=by
 unfold X1w at h
 simp only[Tryz.underlying47] at h
 obtain⟨es,rfl,hl,hs⟩:=h
 obtain⟨l,rfl,hw⟩:=X6m fun x hx=>X6y (n:=n) (hs x hx)
 exact⟨l,rfl,by simpa using hl,hw⟩
theorem Xt9 {n:Nat} {a:AV} (h:X1w Tryz.prog (n+2) 70 a):∃ x:X0q,a=(X0l x)/\Xhy x:=by
 unfold X1w at h
 simp only[Tryz.underlying70] at h
 obtain⟨l,rfl,g0⟩:=h
 obtain⟨y0,r0,rfl,h0,g1⟩:=Xu g0
 obtain⟨x0,rfl,w0⟩:=X6y (n:=n+0) h0
 obtain⟨y1,r1,rfl,h1,g2⟩:=Xu g1
 obtain⟨x1,rfl,w1⟩:=X6y (n:=n+0) h1
 obtain⟨y2,r2,rfl,h2,g3⟩:=Xu g2
 obtain⟨x2,rfl,w2⟩:=X6y (n:=n+0) h2
 obtain⟨y3,r3,rfl,h3,g4⟩:=Xu g3
 obtain⟨x3,rfl,w3⟩:=X6y (n:=n+0) h3
 obtain rfl:=X4z g4
 exact⟨X0q.mk x0 x1 x2 x3,rfl,⟨w0,w1,w2,w3⟩⟩
theorem Xzy {n:Nat} {a:AV} (h:X1w Tryz.prog (n+3) 71 a):∃ x:(V2 X0q),a=(Xlz x)/\Xht x:=by
 unfold X1w at h
 simp only[Tryz.underlying71] at h
 obtain⟨l,rfl,hm,hs⟩:=h
 obtain⟨y0,y1,rfl⟩:∃ y0 y1,l=[y0,y1]:=by
  match l,hm with
  |[y0,y1],_=>exact⟨y0,y1,rfl⟩
 obtain⟨x0,rfl,w0⟩:=Xt9 (n:=n) (hs y0 (by simp))
 obtain⟨x1,rfl,w1⟩:=Xt9 (n:=n) (hs y1 (by simp))
 exact⟨V2.mk x0 x1,rfl,⟨w0,w1⟩⟩
theorem Xzx {n:Nat} {a:AV} (h:X1w Tryz.prog (n+4) 73 a):∃ x:X4,a=(X3 x)/\Xhx x:=by
 unfold X1w at h
 simp only[Tryz.underlying73] at h
 obtain⟨l,rfl,g0⟩:=h
 obtain⟨y0,r0,rfl,h0,g1⟩:=Xu g0
 obtain⟨x0,rfl,w0⟩:=X6y (n:=n+2) h0
 obtain⟨y1,r1,rfl,h1,g2⟩:=Xu g1
 obtain⟨x1,rfl,w1⟩:=Xtc (n:=n+1) h1
 obtain⟨y2,r2,rfl,h2,g3⟩:=Xu g2
 obtain⟨x2,rfl,w2⟩:=Xzy (n:=n+0) h2
 obtain rfl:=X4z g3
 exact⟨X4.mk x0 x1 x2,rfl,⟨w0,w1,w2⟩⟩
theorem X002 {n:Nat} {a:AV} (h:X1w Tryz.prog (n+5) 48 a):∃ x:(List X4),a=(AV.list false (List.map X3 x))/\(List.length x<=maxLen/\∀ y∈x,Xhx y):=by
 unfold X1w at h
 simp only[Tryz.underlying48] at h
 obtain⟨es,rfl,hl,hs⟩:=h
 obtain⟨l,rfl,hw⟩:=X6m fun x hx=>Xzx (n:=n) (hs x hx)
 exact⟨l,rfl,by simpa using hl,hw⟩
theorem Xx4 {n:Nat} {a:AV} (h:X1w Tryz.prog (n+3) 107 a):∃ x:X0c,a=(X01 x)/\Xhw x:=by
 unfold X1w at h
 simp only[Tryz.underlying107] at h
 obtain⟨l,rfl,g0⟩:=h
 obtain⟨y0,r0,rfl,h0,g1⟩:=Xu g0
 obtain⟨x0,rfl,w0⟩:=Xtb (n:=n+1) h0
 obtain⟨y1,r1,rfl,h1,g2⟩:=Xu g1
 obtain⟨x1,rfl,w1⟩:=X6y (n:=n+1) h1
 obtain⟨y2,r2,rfl,h2,g3⟩:=Xu g2
 obtain⟨x2,rfl,w2⟩:=Xo1 (n:=n+0) h2
 obtain rfl:=X4z g3
 exact⟨X0c.mk x0 x1 x2,rfl,⟨w0,w1,w2⟩⟩
theorem X001 {n:Nat} {a:AV} (h:X1w Tryz.prog (n+4) 49 a):∃ x:(List X0c),a=(AV.list false (List.map X01 x))/\(List.length x<=maxLen/\∀ y∈x,Xhw y):=by
 unfold X1w at h
 simp only[Tryz.underlying49] at h
 obtain⟨es,rfl,hl,hs⟩:=h
 obtain⟨l,rfl,hw⟩:=X6m fun x hx=>Xx4 (n:=n) (hs x hx)
 exact⟨l,rfl,by simpa using hl,hw⟩
theorem X000 {n:Nat} {a:AV} (h:X1w Tryz.prog (n+4) 50 a):∃ x:(List X1g),a=(AV.list false (List.map Xw x))/\(List.length x<=maxLen/\∀ y∈x,Xkw y):=by
 unfold X1w at h
 simp only[Tryz.underlying50] at h
 obtain⟨es,rfl,hl,hs⟩:=h
 obtain⟨l,rfl,hw⟩:=X6m fun x hx=>Xta (n:=n) (hs x hx)
 exact⟨l,rfl,by simpa using hl,hw⟩
theorem X008 {n:Nat} {a:AV} (h:X1w Tryz.prog (n+3) 28 a):∃ x:(List Xe),a=(AV.list false (List.map Xt x))/\(List.length x<=maxLen/\∀ y∈x,Xat y):=by
 unfold X1w at h
 simp only[Tryz.underlying28] at h
 obtain⟨es,rfl,hl,hs⟩:=h
 obtain⟨l,rfl,hw⟩:=X6m fun x hx=>Xo1 (n:=n) (hs x hx)
 exact⟨l,rfl,by simpa using hl,hw⟩
theorem Xzz {n:Nat} {a:AV} (h:X1w Tryz.prog (n+7) 52 a):∃ x:Xo,a=(Xc false x)/\Xwu x:=by
 unfold X1w at h
 simp only[Tryz.underlying52] at h
 obtain⟨l,rfl,g0⟩:=h
 obtain⟨y0,r0,rfl,h0,g1⟩:=Xu g0
 obtain⟨x0,rfl,w0⟩:=X005 (n:=n+4) h0
 obtain⟨y1,r1,rfl,h1,g2⟩:=Xu g1
 obtain⟨x1,rfl,w1⟩:=Xi8 (n:=n+5) h1
 obtain⟨y2,r2,rfl,h2,g3⟩:=Xu g2
 obtain⟨x2,rfl,w2⟩:=X004 (n:=n+0) h2
 obtain⟨y3,r3,rfl,h3,g4⟩:=Xu g3
 obtain⟨x3,rfl,w3⟩:=X003 (n:=n+4) h3
 obtain⟨y4,r4,rfl,h4,g5⟩:=Xu g4
 obtain⟨x4,rfl,w4⟩:=X002 (n:=n+1) h4
 obtain⟨y5,r5,rfl,h5,g6⟩:=Xu g5
 obtain⟨x5,rfl,w5⟩:=X001 (n:=n+2) h5
 obtain⟨y6,r6,rfl,h6,g7⟩:=Xu g6
 obtain⟨x6,rfl,w6⟩:=X000 (n:=n+2) h6
 obtain⟨y7,r7,rfl,h7,g8⟩:=Xu g7
 obtain⟨x7,rfl,w7⟩:=X008 (n:=n+3) h7
 obtain rfl:=X4z g8
 exact⟨Xo.mk x0 x1 x2 x3 x4 x5 x6 x7,rfl,⟨w0,w1,w2,w3,w4,w5,w6,w7⟩⟩
theorem AggFinal_run (xs:List AV) (g0:Xpx (fun t a=>X1w Tryz.prog 7 t a) [27,52] xs):X0h Tryz.prog 6 xs (.sc (.bool true)):=by
 obtain⟨y0,r0,rfl,h0,g1⟩:=Xu g0
 obtain⟨x0,rfl,w0⟩:=X009 (n:=3) h0
 obtain⟨y1,r1,rfl,h1,g2⟩:=Xu g1
 obtain⟨x1,rfl,w1⟩:=Xzz (n:=0) h1
 obtain rfl:=X4z g2
 exact Xfr.ok x0 x1 true (Xfs x0 x1 w0 w1)
end Go.Av.Tryz
