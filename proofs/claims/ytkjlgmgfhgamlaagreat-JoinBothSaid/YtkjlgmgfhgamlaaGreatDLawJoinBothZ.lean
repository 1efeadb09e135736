/- Printed by decomp.py: the law JoinBoth, from its arguments as they lie. -/
import Derived.Test.YtkjlgmgfhgamlaaGreatDCertZ
import Derived.Test.YtkjlgmgfhgamlaaGreatPza
set_option linter.all false

namespace Go.Av.Tryz
open Go.Proofs Go.D
set_option maxRecDepth 100000
theorem Xlf {n:Nat} {a:AV} (h:X3w Tryz.prog (n+1) 5 a):∃ x:Int,a=(aI .u8 x)/\wfI .u8 x:=by
 unfold X3w at h
 simp only[Tryz.underlying5] at h
 obtain⟨z,rfl,h⟩:=h
 exact⟨z,rfl,h⟩
theorem Xb9 {n:Nat} {a:AV} (h:X3w Tryz.prog (n+1) 2 a):∃ x:Int,a=(aI .i64 x)/\wfI .i64 x:=by
 unfold X3w at h
 simp only[Tryz.underlying2] at h
 obtain⟨z,rfl,h⟩:=h
 exact⟨z,rfl,h⟩
theorem Xov {n:Nat} {a:AV} (h:X3w Tryz.prog (n+1) 3 a):∃ x:Int,a=(aI .i64 x)/\wfI .i64 x:=by
 unfold X3w at h
 simp only[Tryz.underlying3] at h
 obtain⟨z,rfl,h⟩:=h
 exact⟨z,rfl,h⟩
theorem Xvd {n:Nat} {a:AV} (h:X3w Tryz.prog (n+2) 147 a):∃ x:X04,a=(X5 x)/\Xgf x:=by
 unfold X3w at h
 simp only[Tryz.underlying147] at h
 obtain⟨l,rfl,g0⟩:=h
 obtain⟨y0,r0,rfl,h0,g1⟩:=X0n g0
 obtain⟨x0,rfl,w0⟩:=Xlf (n:=n+0) h0
 obtain⟨y1,r1,rfl,h1,g2⟩:=X0n g1
 obtain⟨x1,rfl,w1⟩:=Xb9 (n:=n+0) h1
 obtain⟨y2,r2,rfl,h2,g3⟩:=X0n g2
 obtain⟨x2,rfl,w2⟩:=Xov (n:=n+0) h2
 obtain⟨y3,r3,rfl,h3,g4⟩:=X0n g3
 obtain⟨x3,rfl,w3⟩:=Xov (n:=n+0) h3
 obtain⟨y4,r4,rfl,h4,g5⟩:=X0n g4
 obtain⟨x4,rfl,w4⟩:=Xov (n:=n+0) h4
 obtain rfl:=X9q g5
 exact⟨X04.mk x0 x1 x2 x3 x4,rfl,⟨w0,w1,w2,w3,w4⟩⟩
theorem Xrx {n:Nat} {a:AV} (h:X3w Tryz.prog (n+3) 22 a):∃ x:(List X04),a=(AV.list false (List.map X5 x))/\(List.length x<=maxLen/\∀ y∈x,Xgf y):=by
 unfold X3w at h
 simp only[Tryz.underlying22] at h
 obtain⟨es,rfl,hl,hs⟩:=h
 obtain⟨l,rfl,hw⟩:=Xeo fun x hx=>Xvd (n:=n) (hs x hx)
 exact⟨l,rfl,by simpa using hl,hw⟩
theorem Xrw {n:Nat} {a:AV} (h:X3w Tryz.prog (n+2) 23 a):∃ x:(List Int),a=(AV.list false (List.map (aI .i64) x))/\(List.length x<=maxLen/\∀ y∈x,wfI .i64 y):=by
 unfold X3w at h
 simp only[Tryz.underlying23] at h
 obtain⟨es,rfl,hl,hs⟩:=h
 obtain⟨l,rfl,hw⟩:=Xeo fun x hx=>Xov (n:=n) (hs x hx)
 exact⟨l,rfl,by simpa using hl,hw⟩
theorem Xx7 {n:Nat} {a:AV} (h:X3w Tryz.prog (n+1) 4 a):∃ x:Bool,a=(aB x)/\True:=by
 unfold X3w at h
 simp only[Tryz.underlying4] at h
 obtain⟨b,rfl⟩:=h
 exact⟨b,rfl,trivial⟩
theorem Xy5 {n:Nat} {a:AV} (h:X3w Tryz.prog (n+2) 25 a):∃ x:X0s,a=(X3h x)/\Xj5 x:=by
 unfold X3w at h
 simp only[Tryz.underlying25] at h
 obtain⟨l,rfl,g0⟩:=h
 obtain⟨y0,r0,rfl,h0,g1⟩:=X0n g0
 obtain⟨x0,rfl,w0⟩:=Xlf (n:=n+0) h0
 obtain⟨y1,r1,rfl,h1,g2⟩:=X0n g1
 obtain⟨x1,rfl,w1⟩:=Xb9 (n:=n+0) h1
 obtain⟨y2,r2,rfl,h2,g3⟩:=X0n g2
 obtain⟨x2,rfl,w2⟩:=Xb9 (n:=n+0) h2
 obtain rfl:=X9q g3
 exact⟨X0s.mk x0 x1 x2,rfl,⟨w0,w1,w2⟩⟩
theorem Xy4 {n:Nat} {a:AV} (h:X3w Tryz.prog (n+4) 27 a):∃ x:X03,a=(Xu false x)/\Xgy x:=by
 unfold X3w at h
 simp only[Tryz.underlying27] at h
 obtain⟨l,rfl,g0⟩:=h
 obtain⟨y0,r0,rfl,h0,g1⟩:=X0n g0
 obtain⟨x0,rfl,w0⟩:=Xlf (n:=n+2) h0
 obtain⟨y1,r1,rfl,h1,g2⟩:=X0n g1
 obtain⟨x1,rfl,w1⟩:=Xrx (n:=n+0) h1
 obtain⟨y2,r2,rfl,h2,g3⟩:=X0n g2
 obtain⟨x2,rfl,w2⟩:=Xrw (n:=n+1) h2
 obtain⟨y3,r3,rfl,h3,g4⟩:=X0n g3
 obtain⟨x3,rfl,w3⟩:=Xx7 (n:=n+2) h3
 obtain⟨y4,r4,rfl,h4,g5⟩:=X0n g4
 obtain⟨x4,rfl,w4⟩:=Xrx (n:=n+0) h4
 obtain⟨y5,r5,rfl,h5,g6⟩:=X0n g5
 obtain⟨x5,rfl,w5⟩:=Xy5 (n:=n+1) h5
 obtain⟨y6,r6,rfl,h6,g7⟩:=X0n g6
 obtain⟨x6,rfl,w6⟩:=Xx7 (n:=n+2) h6
 obtain⟨y7,r7,rfl,h7,g8⟩:=X0n g7
 obtain⟨x7,rfl,w7⟩:=Xlf (n:=n+2) h7
 obtain rfl:=X9q g8
 exact⟨X03.mk x0 x1 x2 x3 x4 x5 x6 x7,rfl,⟨w0,w1,w2,w3,w4,w5,w6,w7⟩⟩
theorem Xy2 {n:Nat} {a:AV} (h:X3w Tryz.prog (n+2) 35 a):∃ x:Xl,a=(Xy x)/\Xj6 x:=by
 unfold X3w at h
 simp only[Tryz.underlying35] at h
 obtain⟨l,rfl,g0⟩:=h
 obtain⟨y0,r0,rfl,h0,g1⟩:=X0n g0
 obtain⟨x0,rfl,w0⟩:=Xb9 (n:=n+0) h0
 obtain⟨y1,r1,rfl,h1,g2⟩:=X0n g1
 obtain⟨x1,rfl,w1⟩:=Xb9 (n:=n+0) h1
 obtain⟨y2,r2,rfl,h2,g3⟩:=X0n g2
 obtain⟨x2,rfl,w2⟩:=Xb9 (n:=n+0) h2
 obtain rfl:=X9q g3
 exact⟨Xl.mk x0 x1 x2,rfl,⟨w0,w1,w2⟩⟩
theorem Xy1 {n:Nat} {a:AV} (h:X3w Tryz.prog (n+2) 37 a):∃ x:X00,a=(Xx x)/\Xor x:=by
 unfold X3w at h
 simp only[Tryz.underlying37] at h
 obtain⟨l,rfl,g0⟩:=h
 obtain⟨y0,r0,rfl,h0,g1⟩:=X0n g0
 obtain⟨x0,rfl,w0⟩:=Xb9 (n:=n+0) h0
 obtain⟨y1,r1,rfl,h1,g2⟩:=X0n g1
 obtain⟨x1,rfl,w1⟩:=Xb9 (n:=n+0) h1
 obtain rfl:=X9q g2
 exact⟨X00.mk x0 x1,rfl,⟨w0,w1⟩⟩
theorem Xy0 {n:Nat} {a:AV} (h:X3w Tryz.prog (n+2) 38 a):∃ x:(V2 Int),a=(Xqp x)/\Xoq x:=by
 unfold X3w at h
 simp only[Tryz.underlying38] at h
 obtain⟨l,rfl,hm,hs⟩:=h
 obtain⟨y0,y1,rfl⟩:∃ y0 y1,l=[y0,y1]:=by
  match l,hm with
  |[y0,y1],_=>exact⟨y0,y1,rfl⟩
 obtain⟨x0,rfl,w0⟩:=Xb9 (n:=n) (hs y0 (by simp))
 obtain⟨x1,rfl,w1⟩:=Xb9 (n:=n) (hs y1 (by simp))
 exact⟨V2.mk x0 x1,rfl,⟨w0,w1⟩⟩
theorem Xxz {n:Nat} {a:AV} (h:X3w Tryz.prog (n+3) 40 a):∃ x:X28,a=(Xp x)/\Xrh x:=by
 unfold X3w at h
 simp only[Tryz.underlying40] at h
 obtain⟨l,rfl,g0⟩:=h
 obtain⟨y0,r0,rfl,h0,g1⟩:=X0n g0
 obtain⟨x0,rfl,w0⟩:=Xb9 (n:=n+1) h0
 obtain⟨y1,r1,rfl,h1,g2⟩:=X0n g1
 obtain⟨x1,rfl,w1⟩:=Xy1 (n:=n+0) h1
 obtain⟨y2,r2,rfl,h2,g3⟩:=X0n g2
 obtain⟨x2,rfl,w2⟩:=Xy0 (n:=n+0) h2
 obtain rfl:=X9q g3
 exact⟨X28.mk x0 x1 x2,rfl,⟨w0,w1,w2⟩⟩
theorem Xxy {n:Nat} {a:AV} (h:X3w Tryz.prog (n+4) 42 a):∃ x:Xg,a=(Xn x)/\Xgz x:=by
 unfold X3w at h
 simp only[Tryz.underlying42] at h
 obtain⟨l,rfl,g0⟩:=h
 obtain⟨y0,r0,rfl,h0,g1⟩:=X0n g0
 obtain⟨x0,rfl,w0⟩:=Xlf (n:=n+2) h0
 obtain⟨y1,r1,rfl,h1,g2⟩:=X0n g1
 obtain⟨x1,rfl,w1⟩:=Xy2 (n:=n+1) h1
 obtain⟨y2,r2,rfl,h2,g3⟩:=X0n g2
 obtain⟨x2,rfl,w2⟩:=Xb9 (n:=n+2) h2
 obtain⟨y3,r3,rfl,h3,g4⟩:=X0n g3
 obtain⟨x3,rfl,w3⟩:=Xxz (n:=n+0) h3
 obtain rfl:=X9q g4
 exact⟨Xg.mk x0 x1 x2 x3,rfl,⟨w0,w1,w2,w3⟩⟩
theorem Xy3 {n:Nat} {a:AV} (h:X3w Tryz.prog (n+5) 32 a):∃ x:(List Xg),a=(AV.list false (List.map Xn x))/\(List.length x<=maxLen/\∀ y∈x,Xgz y):=by
 unfold X3w at h
 simp only[Tryz.underlying32] at h
 obtain⟨es,rfl,hl,hs⟩:=h
 obtain⟨l,rfl,hw⟩:=Xeo fun x hx=>Xxy (n:=n) (hs x hx)
 exact⟨l,rfl,by simpa using hl,hw⟩
theorem JoinBoth_run (xs:List AV) (g0:Xom (fun t a=>X3w Tryz.prog 5 t a) [27,23,32] xs):X0g Tryz.prog 8 xs (.sc (.bool true)):=by
 obtain⟨y0,r0,rfl,h0,g1⟩:=X0n g0
 obtain⟨x0,rfl,w0⟩:=Xy4 (n:=1) h0
 obtain⟨y1,r1,rfl,h1,g2⟩:=X0n g1
 obtain⟨x1,rfl,w1⟩:=Xrw (n:=3) h1
 obtain⟨y2,r2,rfl,h2,g3⟩:=X0n g2
 obtain⟨x2,rfl,w2⟩:=Xy3 (n:=0) h2
 obtain rfl:=X9q g3
 exact Xez.ok x0 x1 x2 true (Xf0 x0 x1 x2 w0 w1 w2)
end Go.Av.Tryz
