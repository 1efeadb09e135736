/- Printed by decomp.py: the law MeaningTells, from its arguments as they lie. -/
import Derived.Test.YtfdfgobnpnoomaaGreatDCertZ
import Derived.Test.YtfdfgobnpnoomaaGreatPzb
set_option linter.all false

namespace Go.Av.Tryz
open Go.Proofs Go.D
set_option maxRecDepth 100000
theorem Xtw {n:Nat} {a:AV} (h:X4u Tryz.prog (n+1) 5 a):∃ x:Int,a=(aI .u8 x)/\wfI .u8 x:=by
 unfold X4u at h
 simp only[Tryz.underlying5] at h
 obtain⟨z,rfl,h⟩:=h
 exact⟨z,rfl,h⟩
theorem Xka {n:Nat} {a:AV} (h:X4u Tryz.prog (n+1) 2 a):∃ x:Int,a=(aI .i64 x)/\wfI .i64 x:=by
 unfold X4u at h
 simp only[Tryz.underlying2] at h
 obtain⟨z,rfl,h⟩:=h
 exact⟨z,rfl,h⟩
theorem Xtx {n:Nat} {a:AV} (h:X4u Tryz.prog (n+1) 3 a):∃ x:Int,a=(aI .i64 x)/\wfI .i64 x:=by
 unfold X4u at h
 simp only[Tryz.underlying3] at h
 obtain⟨z,rfl,h⟩:=h
 exact⟨z,rfl,h⟩
theorem X02c {n:Nat} {a:AV} (h:X4u Tryz.prog (n+2) 108 a):∃ x:X03,a=(X4 x)/\Xjm x:=by
 unfold X4u at h
 simp only[Tryz.underlying108] at h
 obtain⟨l,rfl,g0⟩:=h
 obtain⟨y0,r0,rfl,h0,g1⟩:=X1f g0
 obtain⟨x0,rfl,w0⟩:=Xtw (n:=n+0) h0
 obtain⟨y1,r1,rfl,h1,g2⟩:=X1f g1
 obtain⟨x1,rfl,w1⟩:=Xka (n:=n+0) h1
 obtain⟨y2,r2,rfl,h2,g3⟩:=X1f g2
 obtain⟨x2,rfl,w2⟩:=Xtx (n:=n+0) h2
 obtain⟨y3,r3,rfl,h3,g4⟩:=X1f g3
 obtain⟨x3,rfl,w3⟩:=Xtx (n:=n+0) h3
 obtain⟨y4,r4,rfl,h4,g5⟩:=X1f g4
 obtain⟨x4,rfl,w4⟩:=Xtx (n:=n+0) h4
 obtain rfl:=Xf6 g5
 exact⟨X03.mk x0 x1 x2 x3 x4,rfl,⟨w0,w1,w2,w3,w4⟩⟩
theorem Xy4 {n:Nat} {a:AV} (h:X4u Tryz.prog (n+3) 22 a):∃ x:(List X03),a=(AV.list false (List.map X4 x))/\(List.length x<=maxLen/\∀ y∈x,Xjm y):=by
 unfold X4u at h
 simp only[Tryz.underlying22] at h
 obtain⟨es,rfl,hl,hs⟩:=h
 obtain⟨l,rfl,hw⟩:=Xf5 fun x hx=>X02c (n:=n) (hs x hx)
 exact⟨l,rfl,by simpa using hl,hw⟩
theorem X05q {n:Nat} {a:AV} (h:X4u Tryz.prog (n+2) 23 a):∃ x:(List Int),a=(AV.list false (List.map (aI .i64) x))/\(List.length x<=maxLen/\∀ y∈x,wfI .i64 y):=by
 unfold X4u at h
 simp only[Tryz.underlying23] at h
 obtain⟨es,rfl,hl,hs⟩:=h
 obtain⟨l,rfl,hw⟩:=Xf5 fun x hx=>Xtx (n:=n) (hs x hx)
 exact⟨l,rfl,by simpa using hl,hw⟩
theorem Xy3 {n:Nat} {a:AV} (h:X4u Tryz.prog (n+1) 4 a):∃ x:Bool,a=(aB x)/\True:=by
 unfold X4u at h
 simp only[Tryz.underlying4] at h
 obtain⟨b,rfl⟩:=h
 exact⟨b,rfl,trivial⟩
theorem X05p {n:Nat} {a:AV} (h:X4u Tryz.prog (n+2) 25 a):∃ x:X0h,a=(X0s x)/\Xmo x:=by
 unfold X4u at h
 simp only[Tryz.underlying25] at h
 obtain⟨l,rfl,g0⟩:=h
 obtain⟨y0,r0,rfl,h0,g1⟩:=X1f g0
 obtain⟨x0,rfl,w0⟩:=Xtw (n:=n+0) h0
 obtain⟨y1,r1,rfl,h1,g2⟩:=X1f g1
 obtain⟨x1,rfl,w1⟩:=Xka (n:=n+0) h1
 obtain⟨y2,r2,rfl,h2,g3⟩:=X1f g2
 obtain⟨x2,rfl,w2⟩:=Xka (n:=n+0) h2
 obtain rfl:=Xf6 g3
 exact⟨X0h.mk x0 x1 x2,rfl,⟨w0,w1,w2⟩⟩
theorem X05o {n:Nat} {a:AV} (h:X4u Tryz.prog (n+4) 27 a):∃ x:Xw,a=(Xn false x)/\Xgj x:=by
 unfold X4u at h
 simp only[Tryz.underlying27] at h
 obtain⟨l,rfl,g0⟩:=h
 obtain⟨y0,r0,rfl,h0,g1⟩:=X1f g0
 obtain⟨x0,rfl,w0⟩:=Xtw (n:=n+2) h0
 obtain⟨y1,r1,rfl,h1,g2⟩:=X1f g1
 obtain⟨x1,rfl,w1⟩:=Xy4 (n:=n+0) h1
 obtain⟨y2,r2,rfl,h2,g3⟩:=X1f g2
 obtain⟨x2,rfl,w2⟩:=X05q (n:=n+1) h2
 obtain⟨y3,r3,rfl,h3,g4⟩:=X1f g3
 obtain⟨x3,rfl,w3⟩:=Xy3 (n:=n+2) h3
 obtain⟨y4,r4,rfl,h4,g5⟩:=X1f g4
 obtain⟨x4,rfl,w4⟩:=Xy4 (n:=n+0) h4
 obtain⟨y5,r5,rfl,h5,g6⟩:=X1f g5
 obtain⟨x5,rfl,w5⟩:=X05p (n:=n+1) h5
 obtain⟨y6,r6,rfl,h6,g7⟩:=X1f g6
 obtain⟨x6,rfl,w6⟩:=Xy3 (n:=n+2) h6
 obtain⟨y7,r7,rfl,h7,g8⟩:=X1f g7
 obtain⟨x7,rfl,w7⟩:=Xtw (n:=n+2) h7
 obtain rfl:=Xf6 g8
 exact⟨Xw.mk x0 x1 x2 x3 x4 x5 x6 x7,rfl,⟨w0,w1,w2,w3,w4,w5,w6,w7⟩⟩
theorem X05m {n:Nat} {a:AV} (h:X4u Tryz.prog (n+2) 55 a):∃ x:Xc,a=(X0 x)/\Xmp x:=by
 unfold X4u at h
 simp only[Tryz.underlying55] at h
 obtain⟨l,rfl,g0⟩:=h
 obtain⟨y0,r0,rfl,h0,g1⟩:=X1f g0
 obtain⟨x0,rfl,w0⟩:=Xka (n:=n+0) h0
 obtain⟨y1,r1,rfl,h1,g2⟩:=X1f g1
 obtain⟨x1,rfl,w1⟩:=Xka (n:=n+0) h1
 obtain⟨y2,r2,rfl,h2,g3⟩:=X1f g2
 obtain⟨x2,rfl,w2⟩:=Xka (n:=n+0) h2
 obtain rfl:=Xf6 g3
 exact⟨Xc.mk x0 x1 x2,rfl,⟨w0,w1,w2⟩⟩
theorem X05l {n:Nat} {a:AV} (h:X4u Tryz.prog (n+3) 57 a):∃ x:Xk,a=(Xa x)/\Xgk x:=by
 unfold X4u at h
 simp only[Tryz.underlying57] at h
 obtain⟨l,rfl,g0⟩:=h
 obtain⟨y0,r0,rfl,h0,g1⟩:=X1f g0
 obtain⟨x0,rfl,w0⟩:=Xy3 (n:=n+1) h0
 obtain⟨y1,r1,rfl,h1,g2⟩:=X1f g1
 obtain⟨x1,rfl,w1⟩:=Xka (n:=n+1) h1
 obtain⟨y2,r2,rfl,h2,g3⟩:=X1f g2
 obtain⟨x2,rfl,w2⟩:=X05m (n:=n+0) h2
 obtain rfl:=Xf6 g3
 exact⟨Xk.mk x0 x1 x2,rfl,⟨w0,w1,w2⟩⟩
theorem X05k {n:Nat} {a:AV} (h:X4u Tryz.prog (n+4) 60 a):∃ x:(List Xk),a=(AV.list false (List.map Xa x))/\(List.length x<=maxLen/\∀ y∈x,Xgk y):=by
 unfold X4u at h
 simp only[Tryz.underlying60] at h
 obtain⟨es,rfl,hl,hs⟩:=h
 obtain⟨l,rfl,hw⟩:=Xf5 fun x hx=>X05l (n:=n) (hs x hx)
 exact⟨l,rfl,by simpa using hl,hw⟩
theorem X05n {n:Nat} {a:AV} (h:X4u Tryz.prog (n+5) 28 a):∃ x:(List (List Xk)),a=(AV.list false (List.map (X6j false Xa) x))/\(List.length x<=maxLen/\∀ y∈x,(List.length y<=maxLen/\∀ yy∈y,Xgk yy)):=by
 unfold X4u at h
 simp only[Tryz.underlying28] at h
 obtain⟨es,rfl,hl,hs⟩:=h
 obtain⟨l,rfl,hw⟩:=Xf5 fun x hx=>X05k (n:=n) (hs x hx)
 exact⟨l,rfl,by simpa using hl,hw⟩
theorem MeaningTells_run (xs:List AV) (g0:Xtk (fun t a=>X4u Tryz.prog 5 t a) [27,28] xs):X0j Tryz.prog 4 xs (.sc (.bool true)):=by
 obtain⟨y0,r0,rfl,h0,g1⟩:=X1f g0
 obtain⟨x0,rfl,w0⟩:=X05o (n:=1) h0
 obtain⟨y1,r1,rfl,h1,g2⟩:=X1f g1
 obtain⟨x1,rfl,w1⟩:=X05n (n:=0) h1
 obtain rfl:=Xf6 g2
 exact Xeh.ok x0 x1 true (Xei x0 x1 w0 w1)
end Go.Av.Tryz
