/- Printed by decomp.py: the law MeaningOrder, from its arguments as they lie. -/
import Derived.Test.YtfdfgobnpnoomaaGreatDCertZ
import Derived.Test.YtfdfgobnpnoomaaGreatPza
set_option linter.all false

namespace Go.Av.Tryz
open Go.Proofs Go.D
set_option maxRecDepth 100000
theorem Xp8 {n:Nat} {a:AV} (h:X3x Tryz.prog (n+1) 5 a):∃ x:Int,a=(aI .u8 x)/\wfI .u8 x:=by
 unfold X3x at h
 simp only[Tryz.underlying5] at h
 obtain⟨z,rfl,h⟩:=h
 exact⟨z,rfl,h⟩
theorem Xgu {n:Nat} {a:AV} (h:X3x Tryz.prog (n+1) 2 a):∃ x:Int,a=(aI .i64 x)/\wfI .i64 x:=by
 unfold X3x at h
 simp only[Tryz.underlying2] at h
 obtain⟨z,rfl,h⟩:=h
 exact⟨z,rfl,h⟩
theorem Xp9 {n:Nat} {a:AV} (h:X3x Tryz.prog (n+1) 3 a):∃ x:Int,a=(aI .i64 x)/\wfI .i64 x:=by
 unfold X3x at h
 simp only[Tryz.underlying3] at h
 obtain⟨z,rfl,h⟩:=h
 exact⟨z,rfl,h⟩
theorem Xww {n:Nat} {a:AV} (h:X3x Tryz.prog (n+2) 108 a):∃ x:Xw,a=(X1 x)/\Xfu x:=by
 unfold X3x at h
 simp only[Tryz.underlying108] at h
 obtain⟨l,rfl,g0⟩:=h
 obtain⟨y0,r0,rfl,h0,g1⟩:=X17 g0
 obtain⟨x0,rfl,w0⟩:=Xp8 (n:=n+0) h0
 obtain⟨y1,r1,rfl,h1,g2⟩:=X17 g1
 obtain⟨x1,rfl,w1⟩:=Xgu (n:=n+0) h1
 obtain⟨y2,r2,rfl,h2,g3⟩:=X17 g2
 obtain⟨x2,rfl,w2⟩:=Xp9 (n:=n+0) h2
 obtain⟨y3,r3,rfl,h3,g4⟩:=X17 g3
 obtain⟨x3,rfl,w3⟩:=Xp9 (n:=n+0) h3
 obtain⟨y4,r4,rfl,h4,g5⟩:=X17 g4
 obtain⟨x4,rfl,w4⟩:=Xp9 (n:=n+0) h4
 obtain rfl:=Xc6 g5
 exact⟨Xw.mk x0 x1 x2 x3 x4,rfl,⟨w0,w1,w2,w3,w4⟩⟩
theorem Xt8 {n:Nat} {a:AV} (h:X3x Tryz.prog (n+3) 22 a):∃ x:(List Xw),a=(AV.list false (List.map X1 x))/\(List.length x<=maxLen/\∀ y∈x,Xfu y):=by
 unfold X3x at h
 simp only[Tryz.underlying22] at h
 obtain⟨es,rfl,hl,hs⟩:=h
 obtain⟨l,rfl,hw⟩:=Xc5 fun x hx=>Xww (n:=n) (hs x hx)
 exact⟨l,rfl,by simpa using hl,hw⟩
theorem Xzv {n:Nat} {a:AV} (h:X3x Tryz.prog (n+2) 23 a):∃ x:(List Int),a=(AV.list false (List.map (aI .i64) x))/\(List.length x<=maxLen/\∀ y∈x,wfI .i64 y):=by
 unfold X3x at h
 simp only[Tryz.underlying23] at h
 obtain⟨es,rfl,hl,hs⟩:=h
 obtain⟨l,rfl,hw⟩:=Xc5 fun x hx=>Xp9 (n:=n) (hs x hx)
 exact⟨l,rfl,by simpa using hl,hw⟩
theorem Xt7 {n:Nat} {a:AV} (h:X3x Tryz.prog (n+1) 4 a):∃ x:Bool,a=(aB x)/\True:=by
 unfold X3x at h
 simp only[Tryz.underlying4] at h
 obtain⟨b,rfl⟩:=h
 exact⟨b,rfl,trivial⟩
theorem Xzu {n:Nat} {a:AV} (h:X3x Tryz.prog (n+2) 25 a):∃ x:X0l,a=(X30 x)/\Xiv x:=by
 unfold X3x at h
 simp only[Tryz.underlying25] at h
 obtain⟨l,rfl,g0⟩:=h
 obtain⟨y0,r0,rfl,h0,g1⟩:=X17 g0
 obtain⟨x0,rfl,w0⟩:=Xp8 (n:=n+0) h0
 obtain⟨y1,r1,rfl,h1,g2⟩:=X17 g1
 obtain⟨x1,rfl,w1⟩:=Xgu (n:=n+0) h1
 obtain⟨y2,r2,rfl,h2,g3⟩:=X17 g2
 obtain⟨x2,rfl,w2⟩:=Xgu (n:=n+0) h2
 obtain rfl:=Xc6 g3
 exact⟨X0l.mk x0 x1 x2,rfl,⟨w0,w1,w2⟩⟩
theorem Xzt {n:Nat} {a:AV} (h:X3x Tryz.prog (n+4) 27 a):∃ x:Xu,a=(Xq false x)/\Xgn x:=by
 unfold X3x at h
 simp only[Tryz.underlying27] at h
 obtain⟨l,rfl,g0⟩:=h
 obtain⟨y0,r0,rfl,h0,g1⟩:=X17 g0
 obtain⟨x0,rfl,w0⟩:=Xp8 (n:=n+2) h0
 obtain⟨y1,r1,rfl,h1,g2⟩:=X17 g1
 obtain⟨x1,rfl,w1⟩:=Xt8 (n:=n+0) h1
 obtain⟨y2,r2,rfl,h2,g3⟩:=X17 g2
 obtain⟨x2,rfl,w2⟩:=Xzv (n:=n+1) h2
 obtain⟨y3,r3,rfl,h3,g4⟩:=X17 g3
 obtain⟨x3,rfl,w3⟩:=Xt7 (n:=n+2) h3
 obtain⟨y4,r4,rfl,h4,g5⟩:=X17 g4
 obtain⟨x4,rfl,w4⟩:=Xt8 (n:=n+0) h4
 obtain⟨y5,r5,rfl,h5,g6⟩:=X17 g5
 obtain⟨x5,rfl,w5⟩:=Xzu (n:=n+1) h5
 obtain⟨y6,r6,rfl,h6,g7⟩:=X17 g6
 obtain⟨x6,rfl,w6⟩:=Xt7 (n:=n+2) h6
 obtain⟨y7,r7,rfl,h7,g8⟩:=X17 g7
 obtain⟨x7,rfl,w7⟩:=Xp8 (n:=n+2) h7
 obtain rfl:=Xc6 g8
 exact⟨Xu.mk x0 x1 x2 x3 x4 x5 x6 x7,rfl,⟨w0,w1,w2,w3,w4,w5,w6,w7⟩⟩
theorem Xzr {n:Nat} {a:AV} (h:X3x Tryz.prog (n+2) 55 a):∃ x:Xb,a=(X3 x)/\Xiw x:=by
 unfold X3x at h
 simp only[Tryz.underlying55] at h
 obtain⟨l,rfl,g0⟩:=h
 obtain⟨y0,r0,rfl,h0,g1⟩:=X17 g0
 obtain⟨x0,rfl,w0⟩:=Xgu (n:=n+0) h0
 obtain⟨y1,r1,rfl,h1,g2⟩:=X17 g1
 obtain⟨x1,rfl,w1⟩:=Xgu (n:=n+0) h1
 obtain⟨y2,r2,rfl,h2,g3⟩:=X17 g2
 obtain⟨x2,rfl,w2⟩:=Xgu (n:=n+0) h2
 obtain rfl:=Xc6 g3
 exact⟨Xb.mk x0 x1 x2,rfl,⟨w0,w1,w2⟩⟩
theorem Xzq {n:Nat} {a:AV} (h:X3x Tryz.prog (n+3) 57 a):∃ x:Xg,a=(Xa x)/\Xgo x:=by
 unfold X3x at h
 simp only[Tryz.underlying57] at h
 obtain⟨l,rfl,g0⟩:=h
 obtain⟨y0,r0,rfl,h0,g1⟩:=X17 g0
 obtain⟨x0,rfl,w0⟩:=Xt7 (n:=n+1) h0
 obtain⟨y1,r1,rfl,h1,g2⟩:=X17 g1
 obtain⟨x1,rfl,w1⟩:=Xgu (n:=n+1) h1
 obtain⟨y2,r2,rfl,h2,g3⟩:=X17 g2
 obtain⟨x2,rfl,w2⟩:=Xzr (n:=n+0) h2
 obtain rfl:=Xc6 g3
 exact⟨Xg.mk x0 x1 x2,rfl,⟨w0,w1,w2⟩⟩
theorem Xzp {n:Nat} {a:AV} (h:X3x Tryz.prog (n+4) 60 a):∃ x:(List Xg),a=(AV.list false (List.map Xa x))/\(List.length x<=maxLen/\∀ y∈x,Xgo y):=by
 unfold X3x at h
 simp only[Tryz.underlying60] at h
 obtain⟨es,rfl,hl,hs⟩:=h
 obtain⟨l,rfl,hw⟩:=Xc5 fun x hx=>Xzq (n:=n) (hs x hx)
 exact⟨l,rfl,by simpa using hl,hw⟩
theorem Xzs {n:Nat} {a:AV} (h:X3x Tryz.prog (n+5) 28 a):∃ x:(List (List Xg)),a=(AV.list false (List.map (X7p false Xa) x))/\(List.length x<=maxLen/\∀ y∈x,(List.length y<=maxLen/\∀ yy∈y,Xgo yy)):=by
 unfold X3x at h
 simp only[Tryz.underlying28] at h
 obtain⟨es,rfl,hl,hs⟩:=h
 obtain⟨l,rfl,hw⟩:=Xc5 fun x hx=>Xzp (n:=n) (hs x hx)
 exact⟨l,rfl,by simpa using hl,hw⟩
theorem MeaningOrder_run (xs:List AV) (g0:Xp0 (fun t a=>X3x Tryz.prog 5 t a) [27,28] xs):X0o Tryz.prog 6 xs (.sc (.bool true)):=by
 obtain⟨y0,r0,rfl,h0,g1⟩:=X17 g0
 obtain⟨x0,rfl,w0⟩:=Xzt (n:=1) h0
 obtain⟨y1,r1,rfl,h1,g2⟩:=X17 g1
 obtain⟨x1,rfl,w1⟩:=Xzs (n:=0) h1
 obtain rfl:=Xc6 g2
 exact Xbq.ok x0 x1 true (Xbr x0 x1 w0 w1)
end Go.Av.Tryz
