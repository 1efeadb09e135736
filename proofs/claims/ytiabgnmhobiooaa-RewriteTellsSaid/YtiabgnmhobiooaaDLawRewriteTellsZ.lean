/- Printed by decomp.py: the law RewriteTells, from its arguments as they lie. -/
import Derived.Test.YtiabgnmhobiooaaDCertZ
import Derived.Test.YtiabgnmhobiooaaPza
set_option linter.all false

namespace Go.Av.Try
open Go.Proofs Go.D
set_option maxRecDepth 100000
theorem Xis {n:Nat} {a:AV} (h:X44 Try.prog (n+1) 5 a):∃ x:Int,a=(aI .u8 x)/\wfI .u8 x:=by
 unfold X44 at h;simp only[Try.underlying5] at h;obtain⟨z,rfl,h⟩:=h;exact⟨z,rfl,h⟩
theorem Xla {n:Nat} {a:AV} (h:X44 Try.prog (n+1) 2 a):∃ x:Int,a=(aI .i64 x)/\wfI .i64 x:=by
 unfold X44 at h;simp only[Try.underlying2] at h;obtain⟨z,rfl,h⟩:=h;exact⟨z,rfl,h⟩
theorem Xgh {n:Nat} {a:AV} (h:X44 Try.prog (n+1) 3 a):∃ x:Int,a=(aI .i64 x)/\wfI .i64 x:=by
 unfold X44 at h;simp only[Try.underlying3] at h;obtain⟨z,rfl,h⟩:=h;exact⟨z,rfl,h⟩
theorem Xro {n:Nat} {a:AV} (h:X44 Try.prog (n+2) 58 a):∃ x:X1,a=(X0 x)/\Xcg x:=by
 unfold X44 at h;simp only[Try.underlying58] at h;obtain⟨l,rfl,g0⟩:=h;obtain⟨y0,r0,rfl,h0,g1⟩:=X1o g0;obtain⟨x0,rfl,w0⟩:=Xis (n:=n+0) h0;obtain⟨y1,r1,rfl,h1,g2⟩:=X1o g1;obtain⟨x1,rfl,w1⟩:=Xla (n:=n+0) h1;obtain⟨y2,r2,rfl,h2,g3⟩:=X1o g2;obtain⟨x2,rfl,w2⟩:=Xgh (n:=n+0) h2;obtain⟨y3,r3,rfl,h3,g4⟩:=X1o g3;obtain⟨x3,rfl,w3⟩:=Xgh (n:=n+0) h3;obtain⟨y4,r4,rfl,h4,g5⟩:=X1o g4;obtain⟨x4,rfl,w4⟩:=Xgh (n:=n+0) h4;obtain rfl:=Xcj g5;exact⟨X1.mk x0 x1 x2 x3 x4,rfl,⟨w0,w1,w2,w3,w4⟩⟩
theorem Xl9 {n:Nat} {a:AV} (h:X44 Try.prog (n+3) 22 a):∃ x:(List X1),a=(AV.list false (List.map X0 x))/\(List.length x<=maxLen/\∀ y∈x,Xcg y):=by
 unfold X44 at h;simp only[Try.underlying22] at h;obtain⟨es,rfl,hl,hs⟩:=h;obtain⟨l,rfl,hw⟩:=Xex λx hx=>Xro (n:=n) (hs x hx);exact⟨l,rfl,by simpa using hl,hw⟩
theorem Xrr {n:Nat} {a:AV} (h:X44 Try.prog (n+2) 23 a):∃ x:(List Int),a=(AV.list false (List.map (aI .i64) x))/\(List.length x<=maxLen/\∀ y∈x,wfI .i64 y):=by
 unfold X44 at h;simp only[Try.underlying23] at h;obtain⟨es,rfl,hl,hs⟩:=h;obtain⟨l,rfl,hw⟩:=Xex λx hx=>Xgh (n:=n) (hs x hx);exact⟨l,rfl,by simpa using hl,hw⟩
theorem Xqr {n:Nat} {a:AV} (h:X44 Try.prog (n+1) 4 a):∃ x:Bool,a=(aB x)/\True:=by
 unfold X44 at h;simp only[Try.underlying4] at h;obtain⟨b,rfl⟩:=h;exact⟨b,rfl,trivial⟩
theorem Xrq {n:Nat} {a:AV} (h:X44 Try.prog (n+2) 25 a):∃ x:X3,a=(X5o x)/\Xet x:=by
 unfold X44 at h;simp only[Try.underlying25] at h;obtain⟨l,rfl,g0⟩:=h;obtain⟨y0,r0,rfl,h0,g1⟩:=X1o g0;obtain⟨x0,rfl,w0⟩:=Xis (n:=n+0) h0;obtain⟨y1,r1,rfl,h1,g2⟩:=X1o g1;obtain⟨x1,rfl,w1⟩:=Xla (n:=n+0) h1;obtain⟨y2,r2,rfl,h2,g3⟩:=X1o g2;obtain⟨x2,rfl,w2⟩:=Xla (n:=n+0) h2;obtain rfl:=Xcj g3;exact⟨X3.mk x0 x1 x2,rfl,⟨w0,w1,w2⟩⟩
theorem Xrp {n:Nat} {a:AV} (h:X44 Try.prog (n+4) 27 a):∃ x:X2,a=(X7 false x)/\Xag x:=by
 unfold X44 at h;simp only[Try.underlying27] at h;obtain⟨l,rfl,g0⟩:=h;obtain⟨y0,r0,rfl,h0,g1⟩:=X1o g0;obtain⟨x0,rfl,w0⟩:=Xis (n:=n+2) h0;obtain⟨y1,r1,rfl,h1,g2⟩:=X1o g1;obtain⟨x1,rfl,w1⟩:=Xl9 (n:=n+0) h1;obtain⟨y2,r2,rfl,h2,g3⟩:=X1o g2;obtain⟨x2,rfl,w2⟩:=Xrr (n:=n+1) h2;obtain⟨y3,r3,rfl,h3,g4⟩:=X1o g3;obtain⟨x3,rfl,w3⟩:=Xqr (n:=n+2) h3;obtain⟨y4,r4,rfl,h4,g5⟩:=X1o g4;obtain⟨x4,rfl,w4⟩:=Xl9 (n:=n+0) h4;obtain⟨y5,r5,rfl,h5,g6⟩:=X1o g5;obtain⟨x5,rfl,w5⟩:=Xrq (n:=n+1) h5;obtain⟨y6,r6,rfl,h6,g7⟩:=X1o g6;obtain⟨x6,rfl,w6⟩:=Xqr (n:=n+2) h6;obtain⟨y7,r7,rfl,h7,g8⟩:=X1o g7;obtain⟨x7,rfl,w7⟩:=Xis (n:=n+2) h7;obtain rfl:=Xcj g8;exact⟨X2.mk x0 x1 x2 x3 x4 x5 x6 x7,rfl,⟨w0,w1,w2,w3,w4,w5,w6,w7⟩⟩
theorem RewriteTells_run (xs:List AV) (g0:Xik (λt a=>X44 Try.prog 4 t a) [27,3] xs):X0f Try.prog 3 xs (.sc (.bool true)):=by
 obtain⟨y0,r0,rfl,h0,g1⟩:=X1o g0;obtain⟨x0,rfl,w0⟩:=Xrp (n:=0) h0;obtain⟨y1,r1,rfl,h1,g2⟩:=X1o g1;obtain⟨x1,rfl,w1⟩:=Xgh (n:=3) h1;obtain rfl:=Xcj g2;exact X8z.ok x0 x1 true (X90 x0 x1 w0 w1)
end Go.Av.Try
