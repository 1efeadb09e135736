/- Printed by decomp.py: the law MeaningMarks, from its arguments as they lie. -/
import Derived.Test.YtfdfgobnpnoomaaGreatDCert18Z
import Derived.Test.YtfdfgobnpnoomaaGreatPza
set_option linter.all false

namespace Go.Av.Tryz
open Go.Proofs Go.D
set_option maxRecDepth 100000
theorem Xeo {n:Nat} {a:AV} (h:X1x Tryz.prog (n+1) 5 a):∃ x:Int,a=(aI .u8 x)/\wfI .u8 x:=by
 unfold X1x at h
 simp only[Tryz.underlying5] at h
 obtain⟨z,rfl,h⟩:=h
 exact⟨z,rfl,h⟩
theorem X8z {n:Nat} {a:AV} (h:X1x Tryz.prog (n+1) 2 a):∃ x:Int,a=(aI .i64 x)/\wfI .i64 x:=by
 unfold X1x at h
 simp only[Tryz.underlying2] at h
 obtain⟨z,rfl,h⟩:=h
 exact⟨z,rfl,h⟩
theorem Xep {n:Nat} {a:AV} (h:X1x Tryz.prog (n+1) 3 a):∃ x:Int,a=(aI .i64 x)/\wfI .i64 x:=by
 unfold X1x at h
 simp only[Tryz.underlying3] at h
 obtain⟨z,rfl,h⟩:=h
 exact⟨z,rfl,h⟩
theorem Xkx {n:Nat} {a:AV} (h:X1x Tryz.prog (n+2) 108 a):∃ x:X0c,a=(X1 x)/\Xdg x:=by
 unfold X1x at h
 simp only[Tryz.underlying108] at h
 obtain⟨l,rfl,g0⟩:=h
 obtain⟨y0,r0,rfl,h0,g1⟩:=X09 g0
 obtain⟨x0,rfl,w0⟩:=Xeo (n:=n+0) h0
 obtain⟨y1,r1,rfl,h1,g2⟩:=X09 g1
 obtain⟨x1,rfl,w1⟩:=X8z (n:=n+0) h1
 obtain⟨y2,r2,rfl,h2,g3⟩:=X09 g2
 obtain⟨x2,rfl,w2⟩:=Xep (n:=n+0) h2
 obtain⟨y3,r3,rfl,h3,g4⟩:=X09 g3
 obtain⟨x3,rfl,w3⟩:=Xep (n:=n+0) h3
 obtain⟨y4,r4,rfl,h4,g5⟩:=X09 g4
 obtain⟨x4,rfl,w4⟩:=Xep (n:=n+0) h4
 obtain rfl:=X6i g5
 exact⟨X0c.mk x0 x1 x2 x3 x4,rfl,⟨w0,w1,w2,w3,w4⟩⟩
theorem Xhx {n:Nat} {a:AV} (h:X1x Tryz.prog (n+3) 22 a):∃ x:(List X0c),a=(AV.list false (List.map X1 x))/\(List.length x<=maxLen/\∀ y∈x,Xdg y):=by
 unfold X1x at h
 simp only[Tryz.underlying22] at h
 obtain⟨es,rfl,hl,hs⟩:=h
 obtain⟨l,rfl,hw⟩:=X72 fun x hx=>Xkx (n:=n) (hs x hx)
 exact⟨l,rfl,by simpa using hl,hw⟩
theorem Xoq {n:Nat} {a:AV} (h:X1x Tryz.prog (n+2) 23 a):∃ x:(List Int),a=(AV.list false (List.map (aI .i64) x))/\(List.length x<=maxLen/\∀ y∈x,wfI .i64 y):=by
 unfold X1x at h
 simp only[Tryz.underlying23] at h
 obtain⟨es,rfl,hl,hs⟩:=h
 obtain⟨l,rfl,hw⟩:=X72 fun x hx=>Xep (n:=n) (hs x hx)
 exact⟨l,rfl,by simpa using hl,hw⟩
theorem Xhw {n:Nat} {a:AV} (h:X1x Tryz.prog (n+1) 4 a):∃ x:Bool,a=(aB x)/\True:=by
 unfold X1x at h
 simp only[Tryz.underlying4] at h
 obtain⟨b,rfl⟩:=h
 exact⟨b,rfl,trivial⟩
theorem Xop {n:Nat} {a:AV} (h:X1x Tryz.prog (n+2) 25 a):∃ x:X0w,a=(X3n x)/\Xfg x:=by
 unfold X1x at h
 simp only[Tryz.underlying25] at h
 obtain⟨l,rfl,g0⟩:=h
 obtain⟨y0,r0,rfl,h0,g1⟩:=X09 g0
 obtain⟨x0,rfl,w0⟩:=Xeo (n:=n+0) h0
 obtain⟨y1,r1,rfl,h1,g2⟩:=X09 g1
 obtain⟨x1,rfl,w1⟩:=X8z (n:=n+0) h1
 obtain⟨y2,r2,rfl,h2,g3⟩:=X09 g2
 obtain⟨x2,rfl,w2⟩:=X8z (n:=n+0) h2
 obtain rfl:=X6i g3
 exact⟨X0w.mk x0 x1 x2,rfl,⟨w0,w1,w2⟩⟩
theorem Xoo {n:Nat} {a:AV} (h:X1x Tryz.prog (n+4) 27 a):∃ x:X03,a=(Xl false x)/\Xcq x:=by
 unfold X1x at h
 simp only[Tryz.underlying27] at h
 obtain⟨l,rfl,g0⟩:=h
 obtain⟨y0,r0,rfl,h0,g1⟩:=X09 g0
 obtain⟨x0,rfl,w0⟩:=Xeo (n:=n+2) h0
 obtain⟨y1,r1,rfl,h1,g2⟩:=X09 g1
 obtain⟨x1,rfl,w1⟩:=Xhx (n:=n+0) h1
 obtain⟨y2,r2,rfl,h2,g3⟩:=X09 g2
 obtain⟨x2,rfl,w2⟩:=Xoq (n:=n+1) h2
 obtain⟨y3,r3,rfl,h3,g4⟩:=X09 g3
 obtain⟨x3,rfl,w3⟩:=Xhw (n:=n+2) h3
 obtain⟨y4,r4,rfl,h4,g5⟩:=X09 g4
 obtain⟨x4,rfl,w4⟩:=Xhx (n:=n+0) h4
 obtain⟨y5,r5,rfl,h5,g6⟩:=X09 g5
 obtain⟨x5,rfl,w5⟩:=Xop (n:=n+1) h5
 obtain⟨y6,r6,rfl,h6,g7⟩:=X09 g6
 obtain⟨x6,rfl,w6⟩:=Xhw (n:=n+2) h6
 obtain⟨y7,r7,rfl,h7,g8⟩:=X09 g7
 obtain⟨x7,rfl,w7⟩:=Xeo (n:=n+2) h7
 obtain rfl:=X6i g8
 exact⟨X03.mk x0 x1 x2 x3 x4 x5 x6 x7,rfl,⟨w0,w1,w2,w3,w4,w5,w6,w7⟩⟩
theorem Xom {n:Nat} {a:AV} (h:X1x Tryz.prog (n+2) 55 a):∃ x:Xm,a=(X7 x)/\Xfh x:=by
 unfold X1x at h
 simp only[Tryz.underlying55] at h
 obtain⟨l,rfl,g0⟩:=h
 obtain⟨y0,r0,rfl,h0,g1⟩:=X09 g0
 obtain⟨x0,rfl,w0⟩:=X8z (n:=n+0) h0
 obtain⟨y1,r1,rfl,h1,g2⟩:=X09 g1
 obtain⟨x1,rfl,w1⟩:=X8z (n:=n+0) h1
 obtain⟨y2,r2,rfl,h2,g3⟩:=X09 g2
 obtain⟨x2,rfl,w2⟩:=X8z (n:=n+0) h2
 obtain rfl:=X6i g3
 exact⟨Xm.mk x0 x1 x2,rfl,⟨w0,w1,w2⟩⟩
theorem Xol {n:Nat} {a:AV} (h:X1x Tryz.prog (n+3) 57 a):∃ x:Xb,a=(X0 x)/\Xb0 x:=by
 unfold X1x at h
 simp only[Tryz.underlying57] at h
 obtain⟨l,rfl,g0⟩:=h
 obtain⟨y0,r0,rfl,h0,g1⟩:=X09 g0
 obtain⟨x0,rfl,w0⟩:=Xhw (n:=n+1) h0
 obtain⟨y1,r1,rfl,h1,g2⟩:=X09 g1
 obtain⟨x1,rfl,w1⟩:=X8z (n:=n+1) h1
 obtain⟨y2,r2,rfl,h2,g3⟩:=X09 g2
 obtain⟨x2,rfl,w2⟩:=Xom (n:=n+0) h2
 obtain rfl:=X6i g3
 exact⟨Xb.mk x0 x1 x2,rfl,⟨w0,w1,w2⟩⟩
theorem Xok {n:Nat} {a:AV} (h:X1x Tryz.prog (n+4) 60 a):∃ x:(List Xb),a=(AV.list false (List.map X0 x))/\(List.length x<=maxLen/\∀ y∈x,Xb0 y):=by
 unfold X1x at h
 simp only[Tryz.underlying60] at h
 obtain⟨es,rfl,hl,hs⟩:=h
 obtain⟨l,rfl,hw⟩:=X72 fun x hx=>Xol (n:=n) (hs x hx)
 exact⟨l,rfl,by simpa using hl,hw⟩
theorem Xon {n:Nat} {a:AV} (h:X1x Tryz.prog (n+5) 28 a):∃ x:(List (List Xb)),a=(AV.list false (List.map (X0e false X0) x))/\(List.length x<=maxLen/\∀ y∈x,(List.length y<=maxLen/\∀ yy∈y,Xb0 yy)):=by
 unfold X1x at h
 simp only[Tryz.underlying28] at h
 obtain⟨es,rfl,hl,hs⟩:=h
 obtain⟨l,rfl,hw⟩:=X72 fun x hx=>Xok (n:=n) (hs x hx)
 exact⟨l,rfl,by simpa using hl,hw⟩
theorem MeaningMarks_run (xs:List AV) (g0:Xoa (fun t a=>X1x Tryz.prog 5 t a) [27,28] xs):X11 Tryz.prog 7 xs (.sc (.bool true)):=by
 obtain⟨y0,r0,rfl,h0,g1⟩:=X09 g0
 obtain⟨x0,rfl,w0⟩:=Xoo (n:=1) h0
 obtain⟨y1,r1,rfl,h1,g2⟩:=X09 g1
 obtain⟨x1,rfl,w1⟩:=Xon (n:=0) h1
 obtain rfl:=X6i g2
 exact Xcz.ok x0 x1 true (Xd0 x0 x1 w0 w1)
end Go.Av.Tryz
