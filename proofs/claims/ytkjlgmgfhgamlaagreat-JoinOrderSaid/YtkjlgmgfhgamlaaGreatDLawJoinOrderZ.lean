/- Printed by decomp.py: the law JoinOrder, from its arguments as they lie. -/
import Derived.Test.YtkjlgmgfhgamlaaGreatDCertZ
import Derived.Test.YtkjlgmgfhgamlaaGreatPza
set_option linter.all false

namespace Go.Av.Tryz
open Go.Proofs Go.D
set_option maxRecDepth 100000
theorem Xok {n:Nat} {a:AV} (h:X51 Tryz.prog (n+1) 5 a):∃ x:Int,a=(aI .u8 x)/\wfI .u8 x:=by
 unfold X51 at h
 simp only[Tryz.underlying5] at h
 obtain⟨z,rfl,h⟩:=h
 exact⟨z,rfl,h⟩
theorem Xix {n:Nat} {a:AV} (h:X51 Tryz.prog (n+1) 2 a):∃ x:Int,a=(aI .i64 x)/\wfI .i64 x:=by
 unfold X51 at h
 simp only[Tryz.underlying2] at h
 obtain⟨z,rfl,h⟩:=h
 exact⟨z,rfl,h⟩
theorem Xol {n:Nat} {a:AV} (h:X51 Tryz.prog (n+1) 3 a):∃ x:Int,a=(aI .i64 x)/\wfI .i64 x:=by
 unfold X51 at h
 simp only[Tryz.underlying3] at h
 obtain⟨z,rfl,h⟩:=h
 exact⟨z,rfl,h⟩
theorem Xuv {n:Nat} {a:AV} (h:X51 Tryz.prog (n+2) 147 a):∃ x:X07,a=(X7 x)/\Xg2 x:=by
 unfold X51 at h
 simp only[Tryz.underlying147] at h
 obtain⟨l,rfl,g0⟩:=h
 obtain⟨y0,r0,rfl,h0,g1⟩:=X1u g0
 obtain⟨x0,rfl,w0⟩:=Xok (n:=n+0) h0
 obtain⟨y1,r1,rfl,h1,g2⟩:=X1u g1
 obtain⟨x1,rfl,w1⟩:=Xix (n:=n+0) h1
 obtain⟨y2,r2,rfl,h2,g3⟩:=X1u g2
 obtain⟨x2,rfl,w2⟩:=Xol (n:=n+0) h2
 obtain⟨y3,r3,rfl,h3,g4⟩:=X1u g3
 obtain⟨x3,rfl,w3⟩:=Xol (n:=n+0) h3
 obtain⟨y4,r4,rfl,h4,g5⟩:=X1u g4
 obtain⟨x4,rfl,w4⟩:=Xol (n:=n+0) h4
 obtain rfl:=Xde g5
 exact⟨X07.mk x0 x1 x2 x3 x4,rfl,⟨w0,w1,w2,w3,w4⟩⟩
theorem Xrk {n:Nat} {a:AV} (h:X51 Tryz.prog (n+3) 22 a):∃ x:(List X07),a=(AV.list false (List.map X7 x))/\(List.length x<=maxLen/\∀ y∈x,Xg2 y):=by
 unfold X51 at h
 simp only[Tryz.underlying22] at h
 obtain⟨es,rfl,hl,hs⟩:=h
 obtain⟨l,rfl,hw⟩:=Xef fun x hx=>Xuv (n:=n) (hs x hx)
 exact⟨l,rfl,by simpa using hl,hw⟩
theorem Xrj {n:Nat} {a:AV} (h:X51 Tryz.prog (n+2) 23 a):∃ x:(List Int),a=(AV.list false (List.map (aI .i64) x))/\(List.length x<=maxLen/\∀ y∈x,wfI .i64 y):=by
 unfold X51 at h
 simp only[Tryz.underlying23] at h
 obtain⟨es,rfl,hl,hs⟩:=h
 obtain⟨l,rfl,hw⟩:=Xef fun x hx=>Xol (n:=n) (hs x hx)
 exact⟨l,rfl,by simpa using hl,hw⟩
theorem Xx3 {n:Nat} {a:AV} (h:X51 Tryz.prog (n+1) 4 a):∃ x:Bool,a=(aB x)/\True:=by
 unfold X51 at h
 simp only[Tryz.underlying4] at h
 obtain⟨b,rfl⟩:=h
 exact⟨b,rfl,trivial⟩
theorem Xxz {n:Nat} {a:AV} (h:X51 Tryz.prog (n+2) 25 a):∃ x:X0n,a=(X3i x)/\Xir x:=by
 unfold X51 at h
 simp only[Tryz.underlying25] at h
 obtain⟨l,rfl,g0⟩:=h
 obtain⟨y0,r0,rfl,h0,g1⟩:=X1u g0
 obtain⟨x0,rfl,w0⟩:=Xok (n:=n+0) h0
 obtain⟨y1,r1,rfl,h1,g2⟩:=X1u g1
 obtain⟨x1,rfl,w1⟩:=Xix (n:=n+0) h1
 obtain⟨y2,r2,rfl,h2,g3⟩:=X1u g2
 obtain⟨x2,rfl,w2⟩:=Xix (n:=n+0) h2
 obtain rfl:=Xde g3
 exact⟨X0n.mk x0 x1 x2,rfl,⟨w0,w1,w2⟩⟩
theorem Xxy {n:Nat} {a:AV} (h:X51 Tryz.prog (n+4) 27 a):∃ x:X06,a=(Xs false x)/\Xgj x:=by
 unfold X51 at h
 simp only[Tryz.underlying27] at h
 obtain⟨l,rfl,g0⟩:=h
 obtain⟨y0,r0,rfl,h0,g1⟩:=X1u g0
 obtain⟨x0,rfl,w0⟩:=Xok (n:=n+2) h0
 obtain⟨y1,r1,rfl,h1,g2⟩:=X1u g1
 obtain⟨x1,rfl,w1⟩:=Xrk (n:=n+0) h1
 obtain⟨y2,r2,rfl,h2,g3⟩:=X1u g2
 obtain⟨x2,rfl,w2⟩:=Xrj (n:=n+1) h2
 obtain⟨y3,r3,rfl,h3,g4⟩:=X1u g3
 obtain⟨x3,rfl,w3⟩:=Xx3 (n:=n+2) h3
 obtain⟨y4,r4,rfl,h4,g5⟩:=X1u g4
 obtain⟨x4,rfl,w4⟩:=Xrk (n:=n+0) h4
 obtain⟨y5,r5,rfl,h5,g6⟩:=X1u g5
 obtain⟨x5,rfl,w5⟩:=Xxz (n:=n+1) h5
 obtain⟨y6,r6,rfl,h6,g7⟩:=X1u g6
 obtain⟨x6,rfl,w6⟩:=Xx3 (n:=n+2) h6
 obtain⟨y7,r7,rfl,h7,g8⟩:=X1u g7
 obtain⟨x7,rfl,w7⟩:=Xok (n:=n+2) h7
 obtain rfl:=Xde g8
 exact⟨X06.mk x0 x1 x2 x3 x4 x5 x6 x7,rfl,⟨w0,w1,w2,w3,w4,w5,w6,w7⟩⟩
theorem Xxw {n:Nat} {a:AV} (h:X51 Tryz.prog (n+2) 35 a):∃ x:Xl,a=(X4 x)/\Xis x:=by
 unfold X51 at h
 simp only[Tryz.underlying35] at h
 obtain⟨l,rfl,g0⟩:=h
 obtain⟨y0,r0,rfl,h0,g1⟩:=X1u g0
 obtain⟨x0,rfl,w0⟩:=Xix (n:=n+0) h0
 obtain⟨y1,r1,rfl,h1,g2⟩:=X1u g1
 obtain⟨x1,rfl,w1⟩:=Xix (n:=n+0) h1
 obtain⟨y2,r2,rfl,h2,g3⟩:=X1u g2
 obtain⟨x2,rfl,w2⟩:=Xix (n:=n+0) h2
 obtain rfl:=Xde g3
 exact⟨Xl.mk x0 x1 x2,rfl,⟨w0,w1,w2⟩⟩
theorem Xxx {n:Nat} {a:AV} (h:X51 Tryz.prog (n+3) 28 a):∃ x:(List Xl),a=(AV.list false (List.map X4 x))/\(List.length x<=maxLen/\∀ y∈x,Xis y):=by
 unfold X51 at h
 simp only[Tryz.underlying28] at h
 obtain⟨es,rfl,hl,hs⟩:=h
 obtain⟨l,rfl,hw⟩:=Xef fun x hx=>Xxw (n:=n) (hs x hx)
 exact⟨l,rfl,by simpa using hl,hw⟩
theorem JoinOrder_run (xs:List AV) (g0:Xob (fun t a=>X51 Tryz.prog 4 t a) [27,23,28] xs):X0l Tryz.prog 4 xs (.sc (.bool true)):=by
 obtain⟨y0,r0,rfl,h0,g1⟩:=X1u g0
 obtain⟨x0,rfl,w0⟩:=Xxy (n:=0) h0
 obtain⟨y1,r1,rfl,h1,g2⟩:=X1u g1
 obtain⟨x1,rfl,w1⟩:=Xrj (n:=2) h1
 obtain⟨y2,r2,rfl,h2,g3⟩:=X1u g2
 obtain⟨x2,rfl,w2⟩:=Xxx (n:=1) h2
 obtain rfl:=Xde g3
 exact Xdm.ok x0 x1 x2 true (Xdn x0 x1 x2 w0 w1 w2)
end Go.Av.Tryz
