/- Printed by decomp.py: the law PartialPassed, from its arguments as they lie. -/
import Derived.Test.YtfdfgobnpnoomaaGreatDCertZ
import Derived.Test.YtfdfgobnpnoomaaGreatPzb
set_option linter.all false

namespace Go.Av.Tryz
open Go.Proofs Go.D
set_option maxRecDepth 100000
theorem Xw0 {n:Nat} {a:AV} (h:X59 Tryz.prog (n+1) 5 a):∃ x:Int,a=(aI .u8 x)/\wfI .u8 x:=by
 unfold X59 at h
 simp only[Tryz.underlying5] at h
 obtain⟨z,rfl,h⟩:=h
 exact⟨z,rfl,h⟩
theorem Xjw {n:Nat} {a:AV} (h:X59 Tryz.prog (n+1) 2 a):∃ x:Int,a=(aI .i64 x)/\wfI .i64 x:=by
 unfold X59 at h
 simp only[Tryz.underlying2] at h
 obtain⟨z,rfl,h⟩:=h
 exact⟨z,rfl,h⟩
theorem Xw1 {n:Nat} {a:AV} (h:X59 Tryz.prog (n+1) 3 a):∃ x:Int,a=(aI .i64 x)/\wfI .i64 x:=by
 unfold X59 at h
 simp only[Tryz.underlying3] at h
 obtain⟨z,rfl,h⟩:=h
 exact⟨z,rfl,h⟩
theorem X04z {n:Nat} {a:AV} (h:X59 Tryz.prog (n+2) 108 a):∃ x:X05,a=(X4 x)/\Xkz x:=by
 unfold X59 at h
 simp only[Tryz.underlying108] at h
 obtain⟨l,rfl,g0⟩:=h
 obtain⟨y0,r0,rfl,h0,g1⟩:=X1j g0
 obtain⟨x0,rfl,w0⟩:=Xw0 (n:=n+0) h0
 obtain⟨y1,r1,rfl,h1,g2⟩:=X1j g1
 obtain⟨x1,rfl,w1⟩:=Xjw (n:=n+0) h1
 obtain⟨y2,r2,rfl,h2,g3⟩:=X1j g2
 obtain⟨x2,rfl,w2⟩:=Xw1 (n:=n+0) h2
 obtain⟨y3,r3,rfl,h3,g4⟩:=X1j g3
 obtain⟨x3,rfl,w3⟩:=Xw1 (n:=n+0) h3
 obtain⟨y4,r4,rfl,h4,g5⟩:=X1j g4
 obtain⟨x4,rfl,w4⟩:=Xw1 (n:=n+0) h4
 obtain rfl:=Xg8 g5
 exact⟨X05.mk x0 x1 x2 x3 x4,rfl,⟨w0,w1,w2,w3,w4⟩⟩
theorem X005 {n:Nat} {a:AV} (h:X59 Tryz.prog (n+3) 22 a):∃ x:(List X05),a=(AV.list false (List.map X4 x))/\(List.length x<=maxLen/\∀ y∈x,Xkz y):=by
 unfold X59 at h
 simp only[Tryz.underlying22] at h
 obtain⟨es,rfl,hl,hs⟩:=h
 obtain⟨l,rfl,hw⟩:=Xg6 fun x hx=>X04z (n:=n) (hs x hx)
 exact⟨l,rfl,by simpa using hl,hw⟩
theorem X08c {n:Nat} {a:AV} (h:X59 Tryz.prog (n+2) 23 a):∃ x:(List Int),a=(AV.list false (List.map (aI .i64) x))/\(List.length x<=maxLen/\∀ y∈x,wfI .i64 y):=by
 unfold X59 at h
 simp only[Tryz.underlying23] at h
 obtain⟨es,rfl,hl,hs⟩:=h
 obtain⟨l,rfl,hw⟩:=Xg6 fun x hx=>Xw1 (n:=n) (hs x hx)
 exact⟨l,rfl,by simpa using hl,hw⟩
theorem X004 {n:Nat} {a:AV} (h:X59 Tryz.prog (n+1) 4 a):∃ x:Bool,a=(aB x)/\True:=by
 unfold X59 at h
 simp only[Tryz.underlying4] at h
 obtain⟨b,rfl⟩:=h
 exact⟨b,rfl,trivial⟩
theorem X08b {n:Nat} {a:AV} (h:X59 Tryz.prog (n+2) 25 a):∃ x:X0l,a=(X0u x)/\Xo7 x:=by
 unfold X59 at h
 simp only[Tryz.underlying25] at h
 obtain⟨l,rfl,g0⟩:=h
 obtain⟨y0,r0,rfl,h0,g1⟩:=X1j g0
 obtain⟨x0,rfl,w0⟩:=Xw0 (n:=n+0) h0
 obtain⟨y1,r1,rfl,h1,g2⟩:=X1j g1
 obtain⟨x1,rfl,w1⟩:=Xjw (n:=n+0) h1
 obtain⟨y2,r2,rfl,h2,g3⟩:=X1j g2
 obtain⟨x2,rfl,w2⟩:=Xjw (n:=n+0) h2
 obtain rfl:=Xg8 g3
 exact⟨X0l.mk x0 x1 x2,rfl,⟨w0,w1,w2⟩⟩
theorem X08a {n:Nat} {a:AV} (h:X59 Tryz.prog (n+4) 27 a):∃ x:Xu,a=(Xm false x)/\Xhu x:=by
 unfold X59 at h
 simp only[Tryz.underlying27] at h
 obtain⟨l,rfl,g0⟩:=h
 obtain⟨y0,r0,rfl,h0,g1⟩:=X1j g0
 obtain⟨x0,rfl,w0⟩:=Xw0 (n:=n+2) h0
 obtain⟨y1,r1,rfl,h1,g2⟩:=X1j g1
 obtain⟨x1,rfl,w1⟩:=X005 (n:=n+0) h1
 obtain⟨y2,r2,rfl,h2,g3⟩:=X1j g2
 obtain⟨x2,rfl,w2⟩:=X08c (n:=n+1) h2
 obtain⟨y3,r3,rfl,h3,g4⟩:=X1j g3
 obtain⟨x3,rfl,w3⟩:=X004 (n:=n+2) h3
 obtain⟨y4,r4,rfl,h4,g5⟩:=X1j g4
 obtain⟨x4,rfl,w4⟩:=X005 (n:=n+0) h4
 obtain⟨y5,r5,rfl,h5,g6⟩:=X1j g5
 obtain⟨x5,rfl,w5⟩:=X08b (n:=n+1) h5
 obtain⟨y6,r6,rfl,h6,g7⟩:=X1j g6
 obtain⟨x6,rfl,w6⟩:=X004 (n:=n+2) h6
 obtain⟨y7,r7,rfl,h7,g8⟩:=X1j g7
 obtain⟨x7,rfl,w7⟩:=Xw0 (n:=n+2) h7
 obtain rfl:=Xg8 g8
 exact⟨Xu.mk x0 x1 x2 x3 x4 x5 x6 x7,rfl,⟨w0,w1,w2,w3,w4,w5,w6,w7⟩⟩
theorem X088 {n:Nat} {a:AV} (h:X59 Tryz.prog (n+2) 55 a):∃ x:X7,a=(X0 x)/\Xo8 x:=by
 unfold X59 at h
 simp only[Tryz.underlying55] at h
 obtain⟨l,rfl,g0⟩:=h
 obtain⟨y0,r0,rfl,h0,g1⟩:=X1j g0
 obtain⟨x0,rfl,w0⟩:=Xjw (n:=n+0) h0
 obtain⟨y1,r1,rfl,h1,g2⟩:=X1j g1
 obtain⟨x1,rfl,w1⟩:=Xjw (n:=n+0) h1
 obtain⟨y2,r2,rfl,h2,g3⟩:=X1j g2
 obtain⟨x2,rfl,w2⟩:=Xjw (n:=n+0) h2
 obtain rfl:=Xg8 g3
 exact⟨X7.mk x0 x1 x2,rfl,⟨w0,w1,w2⟩⟩
theorem X087 {n:Nat} {a:AV} (h:X59 Tryz.prog (n+3) 57 a):∃ x:Xk,a=(Xd x)/\Xhv x:=by
 unfold X59 at h
 simp only[Tryz.underlying57] at h
 obtain⟨l,rfl,g0⟩:=h
 obtain⟨y0,r0,rfl,h0,g1⟩:=X1j g0
 obtain⟨x0,rfl,w0⟩:=X004 (n:=n+1) h0
 obtain⟨y1,r1,rfl,h1,g2⟩:=X1j g1
 obtain⟨x1,rfl,w1⟩:=Xjw (n:=n+1) h1
 obtain⟨y2,r2,rfl,h2,g3⟩:=X1j g2
 obtain⟨x2,rfl,w2⟩:=X088 (n:=n+0) h2
 obtain rfl:=Xg8 g3
 exact⟨Xk.mk x0 x1 x2,rfl,⟨w0,w1,w2⟩⟩
theorem X086 {n:Nat} {a:AV} (h:X59 Tryz.prog (n+4) 60 a):∃ x:(List Xk),a=(AV.list false (List.map Xd x))/\(List.length x<=maxLen/\∀ y∈x,Xhv y):=by
 unfold X59 at h
 simp only[Tryz.underlying60] at h
 obtain⟨es,rfl,hl,hs⟩:=h
 obtain⟨l,rfl,hw⟩:=Xg6 fun x hx=>X087 (n:=n) (hs x hx)
 exact⟨l,rfl,by simpa using hl,hw⟩
theorem X089 {n:Nat} {a:AV} (h:X59 Tryz.prog (n+5) 28 a):∃ x:(List (List Xk)),a=(AV.list false (List.map (X56 false Xd) x))/\(List.length x<=maxLen/\∀ y∈x,(List.length y<=maxLen/\∀ yy∈y,Xhv yy)):=by
 unfold X59 at h
 simp only[Tryz.underlying28] at h
 obtain⟨es,rfl,hl,hs⟩:=h
 obtain⟨l,rfl,hw⟩:=Xg6 fun x hx=>X086 (n:=n) (hs x hx)
 exact⟨l,rfl,by simpa using hl,hw⟩
theorem PartialPassed_run (xs:List AV) (g0:Xvo (fun t a=>X59 Tryz.prog 5 t a) [27,28,2] xs):X0g Tryz.prog 3 xs (.sc (.bool true)):=by
 obtain⟨y0,r0,rfl,h0,g1⟩:=X1j g0
 obtain⟨x0,rfl,w0⟩:=X08a (n:=1) h0
 obtain⟨y1,r1,rfl,h1,g2⟩:=X1j g1
 obtain⟨x1,rfl,w1⟩:=X089 (n:=0) h1
 obtain⟨y2,r2,rfl,h2,g3⟩:=X1j g2
 obtain⟨x2,rfl,w2⟩:=Xjw (n:=4) h2
 obtain rfl:=Xg8 g3
 exact Xey.ok x0 x1 x2 true (Xez x0 x1 x2 w0 w1 w2)
end Go.Av.Tryz
