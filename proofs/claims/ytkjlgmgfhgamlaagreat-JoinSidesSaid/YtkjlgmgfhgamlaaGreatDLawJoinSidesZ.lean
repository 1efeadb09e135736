/- Printed by decomp.py: the law JoinSides, from its arguments as they lie. -/
import Derived.Test.YtkjlgmgfhgamlaaGreatDCertZ
import Derived.Test.YtkjlgmgfhgamlaaGreatPza
set_option linter.all false

namespace Go.Av.Tryz
open Go.Proofs Go.D
set_option maxRecDepth 100000
theorem Xoo {n:Nat} {a:AV} (h:X50 Tryz.prog (n+1) 5 a):∃ x:Int,a=(aI .u8 x)/\wfI .u8 x:=by
 unfold X50 at h
 simp only[Tryz.underlying5] at h
 obtain⟨z,rfl,h⟩:=h
 exact⟨z,rfl,h⟩
theorem Xgy {n:Nat} {a:AV} (h:X50 Tryz.prog (n+1) 2 a):∃ x:Int,a=(aI .i64 x)/\wfI .i64 x:=by
 unfold X50 at h
 simp only[Tryz.underlying2] at h
 obtain⟨z,rfl,h⟩:=h
 exact⟨z,rfl,h⟩
theorem Xop {n:Nat} {a:AV} (h:X50 Tryz.prog (n+1) 3 a):∃ x:Int,a=(aI .i64 x)/\wfI .i64 x:=by
 unfold X50 at h
 simp only[Tryz.underlying3] at h
 obtain⟨z,rfl,h⟩:=h
 exact⟨z,rfl,h⟩
theorem Xuz {n:Nat} {a:AV} (h:X50 Tryz.prog (n+2) 147 a):∃ x:X07,a=(X5 x)/\Xg5 x:=by
 unfold X50 at h
 simp only[Tryz.underlying147] at h
 obtain⟨l,rfl,g0⟩:=h
 obtain⟨y0,r0,rfl,h0,g1⟩:=X1q g0
 obtain⟨x0,rfl,w0⟩:=Xoo (n:=n+0) h0
 obtain⟨y1,r1,rfl,h1,g2⟩:=X1q g1
 obtain⟨x1,rfl,w1⟩:=Xgy (n:=n+0) h1
 obtain⟨y2,r2,rfl,h2,g3⟩:=X1q g2
 obtain⟨x2,rfl,w2⟩:=Xop (n:=n+0) h2
 obtain⟨y3,r3,rfl,h3,g4⟩:=X1q g3
 obtain⟨x3,rfl,w3⟩:=Xop (n:=n+0) h3
 obtain⟨y4,r4,rfl,h4,g5⟩:=X1q g4
 obtain⟨x4,rfl,w4⟩:=Xop (n:=n+0) h4
 obtain rfl:=Xdi g5
 exact⟨X07.mk x0 x1 x2 x3 x4,rfl,⟨w0,w1,w2,w3,w4⟩⟩
theorem Xro {n:Nat} {a:AV} (h:X50 Tryz.prog (n+3) 22 a):∃ x:(List X07),a=(AV.list false (List.map X5 x))/\(List.length x<=maxLen/\∀ y∈x,Xg5 y):=by
 unfold X50 at h
 simp only[Tryz.underlying22] at h
 obtain⟨es,rfl,hl,hs⟩:=h
 obtain⟨l,rfl,hw⟩:=Xeg fun x hx=>Xuz (n:=n) (hs x hx)
 exact⟨l,rfl,by simpa using hl,hw⟩
theorem Xrn {n:Nat} {a:AV} (h:X50 Tryz.prog (n+2) 23 a):∃ x:(List Int),a=(AV.list false (List.map (aI .i64) x))/\(List.length x<=maxLen/\∀ y∈x,wfI .i64 y):=by
 unfold X50 at h
 simp only[Tryz.underlying23] at h
 obtain⟨es,rfl,hl,hs⟩:=h
 obtain⟨l,rfl,hw⟩:=Xeg fun x hx=>Xop (n:=n) (hs x hx)
 exact⟨l,rfl,by simpa using hl,hw⟩
theorem Xx1 {n:Nat} {a:AV} (h:X50 Tryz.prog (n+1) 4 a):∃ x:Bool,a=(aB x)/\True:=by
 unfold X50 at h
 simp only[Tryz.underlying4] at h
 obtain⟨b,rfl⟩:=h
 exact⟨b,rfl,trivial⟩
theorem Xxx {n:Nat} {a:AV} (h:X50 Tryz.prog (n+2) 25 a):∃ x:X0n,a=(X3i x)/\Xit x:=by
 unfold X50 at h
 simp only[Tryz.underlying25] at h
 obtain⟨l,rfl,g0⟩:=h
 obtain⟨y0,r0,rfl,h0,g1⟩:=X1q g0
 obtain⟨x0,rfl,w0⟩:=Xoo (n:=n+0) h0
 obtain⟨y1,r1,rfl,h1,g2⟩:=X1q g1
 obtain⟨x1,rfl,w1⟩:=Xgy (n:=n+0) h1
 obtain⟨y2,r2,rfl,h2,g3⟩:=X1q g2
 obtain⟨x2,rfl,w2⟩:=Xgy (n:=n+0) h2
 obtain rfl:=Xdi g3
 exact⟨X0n.mk x0 x1 x2,rfl,⟨w0,w1,w2⟩⟩
theorem Xxw {n:Nat} {a:AV} (h:X50 Tryz.prog (n+4) 27 a):∃ x:X06,a=(Xx false x)/\Xgn x:=by
 unfold X50 at h
 simp only[Tryz.underlying27] at h
 obtain⟨l,rfl,g0⟩:=h
 obtain⟨y0,r0,rfl,h0,g1⟩:=X1q g0
 obtain⟨x0,rfl,w0⟩:=Xoo (n:=n+2) h0
 obtain⟨y1,r1,rfl,h1,g2⟩:=X1q g1
 obtain⟨x1,rfl,w1⟩:=Xro (n:=n+0) h1
 obtain⟨y2,r2,rfl,h2,g3⟩:=X1q g2
 obtain⟨x2,rfl,w2⟩:=Xrn (n:=n+1) h2
 obtain⟨y3,r3,rfl,h3,g4⟩:=X1q g3
 obtain⟨x3,rfl,w3⟩:=Xx1 (n:=n+2) h3
 obtain⟨y4,r4,rfl,h4,g5⟩:=X1q g4
 obtain⟨x4,rfl,w4⟩:=Xro (n:=n+0) h4
 obtain⟨y5,r5,rfl,h5,g6⟩:=X1q g5
 obtain⟨x5,rfl,w5⟩:=Xxx (n:=n+1) h5
 obtain⟨y6,r6,rfl,h6,g7⟩:=X1q g6
 obtain⟨x6,rfl,w6⟩:=Xx1 (n:=n+2) h6
 obtain⟨y7,r7,rfl,h7,g8⟩:=X1q g7
 obtain⟨x7,rfl,w7⟩:=Xoo (n:=n+2) h7
 obtain rfl:=Xdi g8
 exact⟨X06.mk x0 x1 x2 x3 x4 x5 x6 x7,rfl,⟨w0,w1,w2,w3,w4,w5,w6,w7⟩⟩
theorem Xxu {n:Nat} {a:AV} (h:X50 Tryz.prog (n+2) 35 a):∃ x:Xm,a=(Xc x)/\Xiu x:=by
 unfold X50 at h
 simp only[Tryz.underlying35] at h
 obtain⟨l,rfl,g0⟩:=h
 obtain⟨y0,r0,rfl,h0,g1⟩:=X1q g0
 obtain⟨x0,rfl,w0⟩:=Xgy (n:=n+0) h0
 obtain⟨y1,r1,rfl,h1,g2⟩:=X1q g1
 obtain⟨x1,rfl,w1⟩:=Xgy (n:=n+0) h1
 obtain⟨y2,r2,rfl,h2,g3⟩:=X1q g2
 obtain⟨x2,rfl,w2⟩:=Xgy (n:=n+0) h2
 obtain rfl:=Xdi g3
 exact⟨Xm.mk x0 x1 x2,rfl,⟨w0,w1,w2⟩⟩
theorem Xxv {n:Nat} {a:AV} (h:X50 Tryz.prog (n+3) 28 a):∃ x:(List Xm),a=(AV.list false (List.map Xc x))/\(List.length x<=maxLen/\∀ y∈x,Xiu y):=by
 unfold X50 at h
 simp only[Tryz.underlying28] at h
 obtain⟨es,rfl,hl,hs⟩:=h
 obtain⟨l,rfl,hw⟩:=Xeg fun x hx=>Xxu (n:=n) (hs x hx)
 exact⟨l,rfl,by simpa using hl,hw⟩
theorem JoinSides_run (xs:List AV) (g0:Xoc (fun t a=>X50 Tryz.prog 4 t a) [27,23,28,2] xs):X0l Tryz.prog 3 xs (.sc (.bool true)):=by
 obtain⟨y0,r0,rfl,h0,g1⟩:=X1q g0
 obtain⟨x0,rfl,w0⟩:=Xxw (n:=0) h0
 obtain⟨y1,r1,rfl,h1,g2⟩:=X1q g1
 obtain⟨x1,rfl,w1⟩:=Xrn (n:=2) h1
 obtain⟨y2,r2,rfl,h2,g3⟩:=X1q g2
 obtain⟨x2,rfl,w2⟩:=Xxv (n:=1) h2
 obtain⟨y3,r3,rfl,h3,g4⟩:=X1q g3
 obtain⟨x3,rfl,w3⟩:=Xgy (n:=3) h3
 obtain rfl:=Xdi g4
 exact Xdq.ok x0 x1 x2 x3 true (Xdr x0 x1 x2 x3 w0 w1 w2 w3)
end Go.Av.Tryz
