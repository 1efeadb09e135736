/- Printed by decomp.py: the law AggOnce, from its arguments as they lie. -/
import Derived.Test.YtkjlgmgfhgamlaaGreatDCertZ
import Derived.Test.YtkjlgmgfhgamlaaGreatPza
set_option linter.all false

namespace Go.Av.Tryz
open Go.Proofs Go.D
set_option maxRecDepth 100000
theorem Xlk {n:Nat} {a:AV} (h:X3x Tryz.prog (n+1) 5 a):∃ x:Int,a=(aI .u8 x)/\wfI .u8 x:=by
 unfold X3x at h
 simp only[Tryz.underlying5] at h
 obtain⟨z,rfl,h⟩:=h
 exact⟨z,rfl,h⟩
theorem Xba {n:Nat} {a:AV} (h:X3x Tryz.prog (n+1) 2 a):∃ x:Int,a=(aI .i64 x)/\wfI .i64 x:=by
 unfold X3x at h
 simp only[Tryz.underlying2] at h
 obtain⟨z,rfl,h⟩:=h
 exact⟨z,rfl,h⟩
theorem Xll {n:Nat} {a:AV} (h:X3x Tryz.prog (n+1) 3 a):∃ x:Int,a=(aI .i64 x)/\wfI .i64 x:=by
 unfold X3x at h
 simp only[Tryz.underlying3] at h
 obtain⟨z,rfl,h⟩:=h
 exact⟨z,rfl,h⟩
theorem Xvj {n:Nat} {a:AV} (h:X3x Tryz.prog (n+2) 147 a):∃ x:X05,a=(X6 x)/\Xgj x:=by
 unfold X3x at h
 simp only[Tryz.underlying147] at h
 obtain⟨l,rfl,g0⟩:=h
 obtain⟨y0,r0,rfl,h0,g1⟩:=X0k g0
 obtain⟨x0,rfl,w0⟩:=Xlk (n:=n+0) h0
 obtain⟨y1,r1,rfl,h1,g2⟩:=X0k g1
 obtain⟨x1,rfl,w1⟩:=Xba (n:=n+0) h1
 obtain⟨y2,r2,rfl,h2,g3⟩:=X0k g2
 obtain⟨x2,rfl,w2⟩:=Xll (n:=n+0) h2
 obtain⟨y3,r3,rfl,h3,g4⟩:=X0k g3
 obtain⟨x3,rfl,w3⟩:=Xll (n:=n+0) h3
 obtain⟨y4,r4,rfl,h4,g5⟩:=X0k g4
 obtain⟨x4,rfl,w4⟩:=Xll (n:=n+0) h4
 obtain rfl:=X9q g5
 exact⟨X05.mk x0 x1 x2 x3 x4,rfl,⟨w0,w1,w2,w3,w4⟩⟩
theorem Xs6 {n:Nat} {a:AV} (h:X3x Tryz.prog (n+3) 22 a):∃ x:(List X05),a=(AV.list false (List.map X6 x))/\(List.length x<=maxLen/\∀ y∈x,Xgj y):=by
 unfold X3x at h
 simp only[Tryz.underlying22] at h
 obtain⟨es,rfl,hl,hs⟩:=h
 obtain⟨l,rfl,hw⟩:=Xer fun x hx=>Xvj (n:=n) (hs x hx)
 exact⟨l,rfl,by simpa using hl,hw⟩
theorem Xs5 {n:Nat} {a:AV} (h:X3x Tryz.prog (n+2) 23 a):∃ x:(List Int),a=(AV.list false (List.map (aI .i64) x))/\(List.length x<=maxLen/\∀ y∈x,wfI .i64 y):=by
 unfold X3x at h
 simp only[Tryz.underlying23] at h
 obtain⟨es,rfl,hl,hs⟩:=h
 obtain⟨l,rfl,hw⟩:=Xer fun x hx=>Xll (n:=n) (hs x hx)
 exact⟨l,rfl,by simpa using hl,hw⟩
theorem Xxb {n:Nat} {a:AV} (h:X3x Tryz.prog (n+1) 4 a):∃ x:Bool,a=(aB x)/\True:=by
 unfold X3x at h
 simp only[Tryz.underlying4] at h
 obtain⟨b,rfl⟩:=h
 exact⟨b,rfl,trivial⟩
theorem Xy9 {n:Nat} {a:AV} (h:X3x Tryz.prog (n+2) 25 a):∃ x:X0s,a=(X3i x)/\Xjc x:=by
 unfold X3x at h
 simp only[Tryz.underlying25] at h
 obtain⟨l,rfl,g0⟩:=h
 obtain⟨y0,r0,rfl,h0,g1⟩:=X0k g0
 obtain⟨x0,rfl,w0⟩:=Xlk (n:=n+0) h0
 obtain⟨y1,r1,rfl,h1,g2⟩:=X0k g1
 obtain⟨x1,rfl,w1⟩:=Xba (n:=n+0) h1
 obtain⟨y2,r2,rfl,h2,g3⟩:=X0k g2
 obtain⟨x2,rfl,w2⟩:=Xba (n:=n+0) h2
 obtain rfl:=X9q g3
 exact⟨X0s.mk x0 x1 x2,rfl,⟨w0,w1,w2⟩⟩
theorem Xy8 {n:Nat} {a:AV} (h:X3x Tryz.prog (n+4) 27 a):∃ x:X07,a=(Xy false x)/\Xh6 x:=by
 unfold X3x at h
 simp only[Tryz.underlying27] at h
 obtain⟨l,rfl,g0⟩:=h
 obtain⟨y0,r0,rfl,h0,g1⟩:=X0k g0
 obtain⟨x0,rfl,w0⟩:=Xlk (n:=n+2) h0
 obtain⟨y1,r1,rfl,h1,g2⟩:=X0k g1
 obtain⟨x1,rfl,w1⟩:=Xs6 (n:=n+0) h1
 obtain⟨y2,r2,rfl,h2,g3⟩:=X0k g2
 obtain⟨x2,rfl,w2⟩:=Xs5 (n:=n+1) h2
 obtain⟨y3,r3,rfl,h3,g4⟩:=X0k g3
 obtain⟨x3,rfl,w3⟩:=Xxb (n:=n+2) h3
 obtain⟨y4,r4,rfl,h4,g5⟩:=X0k g4
 obtain⟨x4,rfl,w4⟩:=Xs6 (n:=n+0) h4
 obtain⟨y5,r5,rfl,h5,g6⟩:=X0k g5
 obtain⟨x5,rfl,w5⟩:=Xy9 (n:=n+1) h5
 obtain⟨y6,r6,rfl,h6,g7⟩:=X0k g6
 obtain⟨x6,rfl,w6⟩:=Xxb (n:=n+2) h6
 obtain⟨y7,r7,rfl,h7,g8⟩:=X0k g7
 obtain⟨x7,rfl,w7⟩:=Xlk (n:=n+2) h7
 obtain rfl:=X9q g8
 exact⟨X07.mk x0 x1 x2 x3 x4 x5 x6 x7,rfl,⟨w0,w1,w2,w3,w4,w5,w6,w7⟩⟩
theorem Xy6 {n:Nat} {a:AV} (h:X3x Tryz.prog (n+2) 35 a):∃ x:Xe,a=(Xx x)/\Xjd x:=by
 unfold X3x at h
 simp only[Tryz.underlying35] at h
 obtain⟨l,rfl,g0⟩:=h
 obtain⟨y0,r0,rfl,h0,g1⟩:=X0k g0
 obtain⟨x0,rfl,w0⟩:=Xba (n:=n+0) h0
 obtain⟨y1,r1,rfl,h1,g2⟩:=X0k g1
 obtain⟨x1,rfl,w1⟩:=Xba (n:=n+0) h1
 obtain⟨y2,r2,rfl,h2,g3⟩:=X0k g2
 obtain⟨x2,rfl,w2⟩:=Xba (n:=n+0) h2
 obtain rfl:=X9q g3
 exact⟨Xe.mk x0 x1 x2,rfl,⟨w0,w1,w2⟩⟩
theorem Xy5 {n:Nat} {a:AV} (h:X3x Tryz.prog (n+2) 37 a):∃ x:Xz,a=(Xw x)/\Xox x:=by
 unfold X3x at h
 simp only[Tryz.underlying37] at h
 obtain⟨l,rfl,g0⟩:=h
 obtain⟨y0,r0,rfl,h0,g1⟩:=X0k g0
 obtain⟨x0,rfl,w0⟩:=Xba (n:=n+0) h0
 obtain⟨y1,r1,rfl,h1,g2⟩:=X0k g1
 obtain⟨x1,rfl,w1⟩:=Xba (n:=n+0) h1
 obtain rfl:=X9q g2
 exact⟨Xz.mk x0 x1,rfl,⟨w0,w1⟩⟩
theorem Xy4 {n:Nat} {a:AV} (h:X3x Tryz.prog (n+2) 38 a):∃ x:(V2 Int),a=(Xqz x)/\Xow x:=by
 unfold X3x at h
 simp only[Tryz.underlying38] at h
 obtain⟨l,rfl,hm,hs⟩:=h
 obtain⟨y0,y1,rfl⟩:∃ y0 y1,l=[y0,y1]:=by
  match l,hm with
  |[y0,y1],_=>exact⟨y0,y1,rfl⟩
 obtain⟨x0,rfl,w0⟩:=Xba (n:=n) (hs y0 (by simp))
 obtain⟨x1,rfl,w1⟩:=Xba (n:=n) (hs y1 (by simp))
 exact⟨V2.mk x0 x1,rfl,⟨w0,w1⟩⟩
theorem Xy3 {n:Nat} {a:AV} (h:X3x Tryz.prog (n+3) 40 a):∃ x:X1n,a=(Xu x)/\Xrr x:=by
 unfold X3x at h
 simp only[Tryz.underlying40] at h
 obtain⟨l,rfl,g0⟩:=h
 obtain⟨y0,r0,rfl,h0,g1⟩:=X0k g0
 obtain⟨x0,rfl,w0⟩:=Xba (n:=n+1) h0
 obtain⟨y1,r1,rfl,h1,g2⟩:=X0k g1
 obtain⟨x1,rfl,w1⟩:=Xy5 (n:=n+0) h1
 obtain⟨y2,r2,rfl,h2,g3⟩:=X0k g2
 obtain⟨x2,rfl,w2⟩:=Xy4 (n:=n+0) h2
 obtain rfl:=X9q g3
 exact⟨X1n.mk x0 x1 x2,rfl,⟨w0,w1,w2⟩⟩
theorem Xy2 {n:Nat} {a:AV} (h:X3x Tryz.prog (n+4) 42 a):∃ x:Xg,a=(Xo x)/\Xh7 x:=by
 unfold X3x at h
 simp only[Tryz.underlying42] at h
 obtain⟨l,rfl,g0⟩:=h
 obtain⟨y0,r0,rfl,h0,g1⟩:=X0k g0
 obtain⟨x0,rfl,w0⟩:=Xlk (n:=n+2) h0
 obtain⟨y1,r1,rfl,h1,g2⟩:=X0k g1
 obtain⟨x1,rfl,w1⟩:=Xy6 (n:=n+1) h1
 obtain⟨y2,r2,rfl,h2,g3⟩:=X0k g2
 obtain⟨x2,rfl,w2⟩:=Xba (n:=n+2) h2
 obtain⟨y3,r3,rfl,h3,g4⟩:=X0k g3
 obtain⟨x3,rfl,w3⟩:=Xy3 (n:=n+0) h3
 obtain rfl:=X9q g4
 exact⟨Xg.mk x0 x1 x2 x3,rfl,⟨w0,w1,w2,w3⟩⟩
theorem Xy7 {n:Nat} {a:AV} (h:X3x Tryz.prog (n+5) 32 a):∃ x:(List Xg),a=(AV.list false (List.map Xo x))/\(List.length x<=maxLen/\∀ y∈x,Xh7 y):=by
 unfold X3x at h
 simp only[Tryz.underlying32] at h
 obtain⟨es,rfl,hl,hs⟩:=h
 obtain⟨l,rfl,hw⟩:=Xer fun x hx=>Xy2 (n:=n) (hs x hx)
 exact⟨l,rfl,by simpa using hl,hw⟩
theorem AggOnce_run (xs:List AV) (g0:Xos (fun t a=>X3x Tryz.prog 5 t a) [27,3,23,32] xs):X0j Tryz.prog 10 xs (.sc (.bool true)):=by
 obtain⟨y0,r0,rfl,h0,g1⟩:=X0k g0
 obtain⟨x0,rfl,w0⟩:=Xy8 (n:=1) h0
 obtain⟨y1,r1,rfl,h1,g2⟩:=X0k g1
 obtain⟨x1,rfl,w1⟩:=Xll (n:=4) h1
 obtain⟨y2,r2,rfl,h2,g3⟩:=X0k g2
 obtain⟨x2,rfl,w2⟩:=Xs5 (n:=3) h2
 obtain⟨y3,r3,rfl,h3,g4⟩:=X0k g3
 obtain⟨x3,rfl,w3⟩:=Xy7 (n:=0) h3
 obtain rfl:=X9q g4
 exact Xgc.ok x0 x1 x2 x3 true (Xgd x0 x1 x2 x3 w0 w1 w2 w3)
end Go.Av.Tryz
